import PyProof.Rows.All
import Wide.All
import OpenK.AllK
import Wide.FinOn
import HandS.ForMost
import HandS.ForExc
import HandS.Walk
import HandS.ExcValue
import HandS.Deep
import HandS.Wide
import HandS.FStr
import HandS.ExcInit
import HandS.Defaults
import HandS.WordsExc
import HandS.Words
import HandS.IsInst
import HandS.WideBits
import HandS.ExcIs
import HandS.CallSlots
import HandS.HeadHook4
import HandS.HeadEnd
import HandS.Star
import HandS.TupAny
import HandS.Head4
import HandS.RaiseMore
import PyProof.ReprRoads
import PyProof.StrOps2
import HandS.Codes
import KE.GoesComp
import KE.GoesRaise
import HandS.HeadHook3
import HandS.ExcInitHot
import HandS.SuiteRaise
import HandS.RaiseFrom
import HandS.Conv
import HandS.Style
import PySem.Challenge.RW_scanranges_k82_orders_and_conditions_wri
set_option Elab.async false
set_option linter.all false
set_option maxRecDepth 100000
set_option maxHeartbeats 4000000
/-! Pd: plain data, environments that own some lists, and what a reading of the hand layer does to them. -/
namespace Pd
open PySem PySem.Spec PyProof.Rows L2

/-- plain data -/
inductive D where
  | non | bl (b : Bool) | int (i : Int) | str (x : Str)
  | lst (l : List D) | tup (l : List D)
  | ins (c : Str) (l : List D)
  | exc (c : Str) (l : List D)

/-- the written part, the classes by name, their fields by name -/
structure Ct where
  K : PySem.W.Frag
  cls : Str → Option Addr
  flds : Str → List Str

abbrev Le (G H : Hp) : Prop := ∀ a o, G a = some o → H a = some o

mutual
/-- v is d in the heap G -/
def Rp (C : Ct) (G : Hp) : D → V → Prop
  | .non, v => v = .non
  | .bl b, v => v = .bl b
  | .int i, v => v = .int i
  | .str x, v => v = .str x
  | .lst l, v => ∃ a xs, v = .ref a ∧ SqL C.K G a xs ∧ RpL C G l xs
  | .tup l, v => ∃ a xs, v = .ref a ∧ SqT C.K G a xs ∧ RpL C G l xs
  | .ins c l, v => ∃ a cd dx xs, v = .ref a ∧ C.cls c = some cd ∧ G a = some (.ins cd dx ((C.flds c).zip xs)) ∧ (C.flds c).length = xs.length ∧ RpL C G l xs
  | .exc c l, v => ∃ a cd, v = .ref a ∧ C.cls c = some cd ∧ ((l = [] ∧ G a = some (ExO (.ref cd) a)) ∨
    ∃ dx xs, G a = some (exo a cd (some dx)) ∧ G dx = some (exd dx ([("place" : Str)].zip xs)) ∧ xs.length = 1 ∧ RpL C G l xs)
def RpL (C : Ct) (G : Hp) : List D → List V → Prop
  | [], xs => xs = []
  | d :: l, xs => ∃ x r, xs = x :: r ∧ Rp C G d x ∧ RpL C G l r
end

theorem le_rd {G H : Hp} {a : Addr} {u : HO} (e : Le G H) (h : Rd G a u) : Rd H a u := by
  rcases h with h | ⟨o, h⟩
  · exact .inl (e a _ h)
  · exact .inr ⟨o, e a _ h⟩
theorem le_l {K : PySem.W.Frag} {G H : Hp} {a : Addr} {xs : List V} (e : Le G H) (h : SqL K G a xs) : SqL K H a xs := h.elim (fun h => .inl (le_rd e h)) .inr
theorem le_t {K : PySem.W.Frag} {G H : Hp} {a : Addr} {xs : List V} (e : Le G H) (h : SqT K G a xs) : SqT K H a xs := h.elim (fun h => .inl (le_rd e h)) .inr
mutual
theorem Rp.mono {C : Ct} {G G' : Hp} (e : Le G G') : ∀ {d : D} {v : V}, Rp C G d v → Rp C G' d v
  | .non, _, h => h
  | .bl _, _, h => h
  | .int _, _, h => h
  | .str _, _, h => h
  | .lst _, _, h => by
    obtain ⟨a, xs, rfl, h1, h2⟩ := h
    exact ⟨a, xs, rfl, le_l e h1, RpL.mono e h2⟩
  | .tup _, _, h => by
    obtain ⟨a, xs, rfl, h1, h2⟩ := h
    exact ⟨a, xs, rfl, le_t e h1, RpL.mono e h2⟩
  | .ins _ _, _, h => by
    obtain ⟨a, cd, dx, xs, rfl, h1, h2, h3, h4⟩ := h
    exact ⟨a, cd, dx, xs, rfl, h1, e _ _ h2, h3, RpL.mono e h4⟩
  | .exc _ _, _, h => by
    obtain ⟨a, cd, rfl, h1, h2⟩ := h
    refine ⟨a, cd, rfl, h1, ?_⟩
    rcases h2 with ⟨h2, h3⟩ | ⟨dx, xs, h2, h3, h4, h5⟩
    · exact .inl ⟨h2, e _ _ h3⟩
    · exact .inr ⟨dx, xs, e _ _ h2, e _ _ h3, h4, RpL.mono e h5⟩
theorem RpL.mono {C : Ct} {G G' : Hp} (e : Le G G') : ∀ {l : List D} {xs : List V}, RpL C G l xs → RpL C G' l xs
  | [], _, h => h
  | _ :: _, _, h => by
    obtain ⟨x, r, rfl, h1, h2⟩ := h
    exact ⟨x, r, rfl, Rp.mono e h1, RpL.mono e h2⟩
end
theorem Le.refl (G : Hp) : Le G G := fun _ _ h => h
theorem Le.trans {G H I : Hp} (a : Le G H) (b : Le H I) : Le G I := fun x o h => b x o (a x o h)
theorem RpL.length {C : Ct} {G : Hp} : ∀ {l : List D} {xs : List V}, RpL C G l xs → xs.length = l.length
  | [], _, h => by cases h; rfl
  | _ :: _, _, h => by
    obtain ⟨x, r, rfl, _, h2⟩ := h
    simp [RpL.length h2]
theorem RpL.append {C : Ct} {G : Hp} : ∀ {l m : List D} {xs ys : List V}, RpL C G l xs → RpL C G m ys → RpL C G (l ++ m) (xs ++ ys)
  | [], _, _, _, h, k => by cases h; exact k
  | _ :: _, _, _, _, h, k => by
    obtain ⟨x, r, rfl, h1, h2⟩ := h
    exact ⟨x, r ++ _, rfl, h1, RpL.append h2 k⟩
theorem RpL.get {C : Ct} {G : Hp} : ∀ {l : List D} {xs : List V} {i : Nat} {d : D}, RpL C G l xs → l[i]? = some d → ∃ x, xs[i]? = some x ∧ Rp C G d x
  | [], _, _, _, _, e => by simp at e
  | _ :: _, _, 0, _, h, e => by
    obtain ⟨x, r, rfl, h1, _⟩ := h
    cases (show some _ = some _ from e)
    exact ⟨x, rfl, h1⟩
  | _ :: _, _, i + 1, _, h, e => by
    obtain ⟨x, r, rfl, _, h2⟩ := h
    exact RpL.get (i := i) h2 (by simpa using e)

/-! ### slots -/
/-- things of one's own: values, lists, instances -/
inductive T where
  | d (x : D)
  | v (p : Addr) (l : List D)
  | l (p : Addr) (ts : List T)
  | o (p dx : Addr) (c : Str) (ts : List T)
mutual
def T.adr : T → List Addr
  | .d _ => []
  | .v p _ => [p]
  | .l p ts => p :: adrL ts
  | .o p dx _ ts => p :: dx :: adrL ts
def adrL : List T → List Addr
  | [] => []
  | t :: ts => t.adr ++ adrL ts
end
mutual
def T.toD : T → D
  | .d x => x
  | .v _ l => .lst l
  | .l _ ts => .lst (toDL ts)
  | .o _ _ c ts => .ins c (toDL ts)
def toDL : List T → List D
  | [] => []
  | t :: ts => t.toD :: toDL ts
end
mutual
def RpO (C : Ct) (G H : Hp) : T → V → Prop
  | .d x, v => Rp C G x v
  | .v p l, v => ∃ xs, v = .ref p ∧ H p = some (.lst xs) ∧ RpL C G l xs
  | .l p ts, v => ∃ xs, v = .ref p ∧ H p = some (.lst xs) ∧ RpOL C G H ts xs
  | .o p dx c ts, v => ∃ cd xs, v = .ref p ∧ C.cls c = some cd ∧ H p = some (.ins cd dx ((C.flds c).zip xs)) ∧ H dx = some (.own p) ∧ (C.flds c).length = xs.length ∧ RpOL C G H ts xs
def RpOL (C : Ct) (G H : Hp) : List T → List V → Prop
  | [], xs => xs = []
  | t :: ts, xs => ∃ x r, xs = x :: r ∧ RpO C G H t x ∧ RpOL C G H ts r
end
mutual
theorem RpO.keep {C : Ct} {G H G' H' : Hp} (e : Le G G') : ∀ {t : T} {v : V}, (∀ a ∈ t.adr, H' a = H a) → RpO C G H t v → RpO C G' H' t v
  | .d _, _, _, h => Rp.mono e h
  | .v p l, _, k, h => by
    obtain ⟨xs, rfl, h1, h2⟩ := h
    exact ⟨xs, rfl, by rw [k p (by unfold T.adr; exact List.mem_cons_self ..)]; exact h1, h2.mono e⟩
  | .l p ts, _, k, h => by
    obtain ⟨xs, rfl, h1, h2⟩ := h
    exact ⟨xs, rfl, by rw [k p (by unfold T.adr; exact List.mem_cons_self ..)]; exact h1, RpOL.keep e (fun a m => k a (by unfold T.adr; exact List.mem_cons_of_mem _ m)) h2⟩
  | .o p dx c ts, _, k, h => by
    obtain ⟨cd, xs, rfl, h1, h2, h3, h4, h5⟩ := h
    exact ⟨cd, xs, rfl, h1, by rw [k p (by unfold T.adr; exact List.mem_cons_self ..)]; exact h2, by rw [k dx (by unfold T.adr; exact List.mem_cons_of_mem _ (List.mem_cons_self ..))]; exact h3, h4,
      RpOL.keep e (fun a m => k a (by unfold T.adr; exact List.mem_cons_of_mem _ (List.mem_cons_of_mem _ m))) h5⟩
theorem RpOL.keep {C : Ct} {G H G' H' : Hp} (e : Le G G') : ∀ {ts : List T} {xs : List V}, (∀ a ∈ adrL ts, H' a = H a) → RpOL C G H ts xs → RpOL C G' H' ts xs
  | [], _, _, h => h
  | t :: ts, _, k, h => by
    obtain ⟨x, r, rfl, h1, h2⟩ := h
    exact ⟨x, r, rfl, RpO.keep e (fun a m => k a (by unfold adrL; exact List.mem_append_left _ m)) h1, RpOL.keep e (fun a m => k a (by unfold adrL; exact List.mem_append_right _ m)) h2⟩
end
mutual
/-- where the own things count as what never changes -/
theorem RpO.toD {C : Ct} {G H G' : Hp} (e : Le G G') : ∀ {t : T} {v : V}, (∀ a ∈ t.adr, G' a = H a) → RpO C G H t v → Rp C G' t.toD v
  | .d _, _, _, h => Rp.mono e h
  | .v p l, _, k, h => by
    obtain ⟨xs, rfl, h1, h2⟩ := h
    exact ⟨p, xs, rfl, .inl (.inl (by rw [k p (by unfold T.adr; exact List.mem_cons_self ..)]; exact h1)), h2.mono e⟩
  | .l p ts, _, k, h => by
    obtain ⟨xs, rfl, h1, h2⟩ := h
    exact ⟨p, xs, rfl, .inl (.inl (by rw [k p (by unfold T.adr; exact List.mem_cons_self ..)]; exact h1)), RpOL.toD e (fun a m => k a (by unfold T.adr; exact List.mem_cons_of_mem _ m)) h2⟩
  | .o p dx c ts, _, k, h => by
    obtain ⟨cd, xs, rfl, h1, h2, h3, h4, h5⟩ := h
    exact ⟨p, cd, dx, xs, rfl, h1, by rw [k p (by unfold T.adr; exact List.mem_cons_self ..)]; exact h2, h4,
      RpOL.toD e (fun a m => k a (by unfold T.adr; exact List.mem_cons_of_mem _ (List.mem_cons_of_mem _ m))) h5⟩
theorem RpOL.toD {C : Ct} {G H G' : Hp} (e : Le G G') : ∀ {ts : List T} {xs : List V}, (∀ a ∈ adrL ts, G' a = H a) → RpOL C G H ts xs → RpL C G' (toDL ts) xs
  | [], _, _, h => h
  | t :: ts, _, k, h => by
    obtain ⟨x, r, rfl, h1, h2⟩ := h
    exact ⟨x, r, rfl, RpO.toD e (fun a m => k a (by unfold adrL; exact List.mem_append_left _ m)) h1, RpOL.toD e (fun a m => k a (by unfold adrL; exact List.mem_append_right _ m)) h2⟩
end
/-- what is known of a name: nothing; a value; a list of its own; a script; things of its own that are handed on by their place -/
inductive Slot where
  | un
  | va (d : D)
  | ls (l : List D)
  | sc (ns : List Int)
  | ow (t : T)
  | pa (k : Nat) (x : D)
abbrev Ev := List Slot

def SlotOk (C : Ct) (G H : Hp) (x : Option V) : Slot → List Addr → Prop
  | .un, as => as = []
  | .va d, as => as = [] ∧ ∃ v, x = some v ∧ Rp C G d v
  | .ls l, as => ∃ p xs, x = some (.ref p) ∧ as = [p] ∧ H p = some (.lst xs) ∧ RpL C G l xs
  | .sc ns, as => as = [] ∧ ∃ p, x = some (.ref p) ∧ SqL C.K G p (ns.map .int)
  | .ow t, as => as = t.adr ∧ ∃ v, x = some v ∧ RpO C G H t v
  | .pa k d, as => ∃ p xs w, x = some (.ref p) ∧ as = [p] ∧ H p = some (.lst xs) ∧ xs[k]? = some w ∧ Rp C G d w
theorem SlotOk.keep {C : Ct} {G H G' H' : Hp} {x : Option V} {r : Slot} {as : List Addr} (gg : Le G G') (hh : ∀ a ∈ as, H' a = H a) (h : SlotOk C G H x r as) : SlotOk C G' H' x r as := by
  cases r with
  | un => exact h
  | va d =>
    obtain ⟨h1, v, h2, h3⟩ := h
    exact ⟨h1, v, h2, h3.mono gg⟩
  | ls l =>
    obtain ⟨p, xs, h1, h2, h3, h4⟩ := h
    exact ⟨p, xs, h1, h2, by rw [hh p (by rw [h2]; exact List.mem_singleton.mpr rfl)]; exact h3, h4.mono gg⟩
  | sc ns =>
    obtain ⟨h1, p, h2, h3⟩ := h
    exact ⟨h1, p, h2, le_l gg h3⟩
  | ow t =>
    obtain ⟨h1, v, h2, h3⟩ := h
    exact ⟨h1, v, h2, h3.keep gg fun a m => hh a (by rw [h1]; exact m)⟩
  | pa k d =>
    obtain ⟨p, xs, w, h1, h2, h3, h4, h5⟩ := h
    exact ⟨p, xs, w, h1, h2, by rw [hh p (by rw [h2]; exact List.mem_singleton.mpr rfl)]; exact h3, h4, h5.mono gg⟩

/-- the state: G what never changes, ρ what is known of the slots σ, α the addresses that each slot owns -/
structure Wf (C : Ct) (G H : Hp) (σ : L2.St) (ρ : Ev) (α : Nat → List Addr) : Prop where
  le : Le G H
  len : σ.length = ρ.length
  sl : ∀ (i : Nat) (x : Option V) (r : Slot), σ[i]? = some x → ρ[i]? = some r → SlotOk C G H x r (α i)
  out : ∀ i, ρ.length ≤ i → α i = []
  nd : ∀ i, (α i).Nodup
  dj : ∀ i j a, a ∈ α i → a ∈ α j → i = j
  ng : ∀ i a, a ∈ α i → G a = none ∧ ∃ o, H a = some o

/-- from one state to a later one -/
structure Step (G H : Hp) (α : Nat → List Addr) (G' H' : Hp) (α' : Nat → List Addr) : Prop where
  gg : Le G G'
  hh : ∀ a o, H a = some o → (∀ i, a ∉ α i) → H' a = some o
  fr : ∀ a o, G' a = some o → G a = some o ∨ H a = none ∨ ∃ i, a ∈ α i
  aa : ∀ i a, a ∈ α' i → (∃ j, a ∈ α j) ∨ H a = none
  fz : ∀ a o u, H' a = some (.frz o u) → H a = some (.frz o u)
theorem Step.refl (G H : Hp) (α : Nat → List Addr) : Step G H α G H α := ⟨Le.refl G, fun _ _ h _ => h, fun _ _ h => .inl h, fun i _ h => .inl ⟨i, h⟩, fun _ _ _ h => h⟩
theorem Step.trans {G H G1 H1 G2 H2 : Hp} {α α1 α2 : Nat → List Addr} (s : Step G H α G1 H1 α1) (t : Step G1 H1 α1 G2 H2 α2) : Step G H α G2 H2 α2 where
  fz := fun a o u h => s.fz a o u (t.fz a o u h)
  gg := s.gg.trans t.gg
  hh := fun a o h n => t.hh a o (s.hh a o h n) fun i hi => by
    rcases s.aa i a hi with ⟨j, hj⟩ | e
    · exact n j hj
    · rw [e] at h; cases h
  fr := fun a o h => by
    by_cases hn : ∃ i, a ∈ α i
    · exact .inr (.inr hn)
    · have hn' : ∀ i, a ∉ α i := fun i hi => hn ⟨i, hi⟩
      rcases t.fr a o h with h1 | h1 | ⟨i, h1⟩
      · exact s.fr a o h1
      · cases q : H a with
        | none => exact .inr (.inl rfl)
        | some u => rw [s.hh a u q hn'] at h1; cases h1
      · rcases s.aa i a h1 with ⟨j, hj⟩ | e
        · exact (hn' j hj).elim
        · exact .inr (.inl e)
  aa := fun i a h => by
    rcases t.aa i a h with ⟨j, hj⟩ | e
    · exact s.aa j a hj
    · by_cases hn : ∃ i, a ∈ α i
      · exact .inl hn
      · cases q : H a with
        | none => exact .inr rfl
        | some u => rw [s.hh a u q fun i hi => hn ⟨i, hi⟩] at e; cases e
/-- from a state that owns nothing: all is kept -/
theorem Step.le {G H G' H' : Hp} {α α' : Nat → List Addr} (s : Step G H α G' H' α') (h : ∀ i, α i = []) : Le H H' := fun a o e => s.hh a o e fun i hi => by rw [h i] at hi; cases hi

def noα : Nat → List Addr := fun _ => []

/-! ### the monad -/
inductive O (β : Type) where
  | ok (b : β) (ρ : Ev)
  | ex (c : Str) (l : List D) (ρ : Ev)
  | no
abbrev M (β : Type) : Type := Ev → O β
def M.bind {β γ : Type} (m : M β) (k : β → M γ) : M γ := fun ρ => match m ρ with
  | .ok b ρ' => k b ρ'
  | .ex c l ρ' => .ex c l ρ'
  | .no => .no
instance : Monad M where
  pure b := fun ρ => .ok b ρ
  bind := M.bind
def no {β : Type} : M β := fun _ => .no
/-- of an option -/
def opt {β : Type} : Option β → M β
  | some b => pure b
  | none => no

/-- what an exception that leaves bears: an own dict with the place -/
def ExOk (C : Ct) (c : Str) (l : List D) (cls : Value) (dct : Option Addr) (G _H : Hp) : Prop := ∃ cd, C.cls c = some cd ∧ cls = .ref cd ∧
  ((l = [] ∧ dct = none) ∨ ∃ d dd v, l = [d] ∧ dct = some dd ∧ G dd = some (.xd [(("place" : Str), v)]) ∧ Rp C G d v)

section
variable (C : Ct) (W : WX)
/-- from the state (G, H, ρ, α) the program m leads to what Q wants; R: how its value is told -/
def Rn {β γ : Type} (R : Hp → β → γ → Prop) (m : M β) (σ : L2.St) (G H : Hp) (ρ : Ev) (α : Nat → List Addr) (Q : γ → Hp → Prop) : Prop := match m ρ with
  | .ok b ρ' => ∀ c G' H' α', Step G H α G' H' α' → Wf C G' H' σ ρ' α' → R G' b c → Q c H'
  | .ex c l ρ' => ∀ cls dct G' H' α', Step G H α G' H' α' → Wf C G' H' σ ρ' α' → ExOk C c l cls dct G' H' → W cls dct σ H'
  | .no => False
def RpE (G : Hp) (d : D) (v : V) : Prop := Rp C G d v
def RpT (_ : Hp) (b : Bool) (c : Bool) : Prop := c = b
/-- an expression that gives the data of f; a test; arguments -/
def dE (f : M D) : TE := fun σ H Q => ∃ G ρ α, Wf C G H σ ρ α ∧ Rn C W (RpE C) f σ G H ρ α Q
def dT (f : M Bool) : TT := fun σ H Q => ∃ G ρ α, Wf C G H σ ρ α ∧ Rn C W RpT f σ G H ρ α Q
def dA (f : M (List D)) : TA := fun σ H Q => ∃ G ρ α, Wf C G H σ ρ α ∧ Rn C W (RpL C) f σ G H ρ α Q
/-- how a statement ends; ro: it returns a list of its own -/
inductive Fl where
  | nx | rt (d : D) | ro (l : List D) | rw (k : T → Prop) | bk | ct
def Pend (G H : Hp) (α : Nat → List Addr) (as : List Addr) : Prop := as.Nodup ∧ ∀ a ∈ as, G a = none ∧ (∃ o, H a = some o) ∧ ∀ i, a ∉ α i
def RnS (m : M Fl) (G H : Hp) (ρ : Ev) (α : Nat → List Addr) (E : Ends) : Prop := match m ρ with
  | .ok .nx ρ' => ∀ σ' G' H' α', Step G H α G' H' α' → Wf C G' H' σ' ρ' α' → E.nx σ' H'
  | .ok (.rt d) ρ' => ∀ v σ' G' H' α', Step G H α G' H' α' → Wf C G' H' σ' ρ' α' → Rp C G' d v → E.rt v H'
  | .ok (.ro l) ρ' => ∀ p xs σ' G' H' α', Step G H α G' H' α' → Wf C G' H' σ' ρ' α' → H' p = some (.lst xs) → RpL C G' l xs → G' p = none → (∀ i, p ∉ α' i) → ((∃ i, p ∈ α i) ∨ H p = none) → E.rt (.ref p) H'
  | .ok (.rw k) ρ' => ∀ t v σ' G' H' α', k t → Step G H α G' H' α' → Wf C G' H' σ' ρ' α' → RpO C G' H' t v → Pend G' H' α' t.adr → (∀ a ∈ t.adr, (∃ i, a ∈ α i) ∨ H a = none) → E.rt v H'
  | .ok .bk ρ' => ∀ σ' G' H' α', Step G H α G' H' α' → Wf C G' H' σ' ρ' α' → E.bk σ' H'
  | .ok .ct ρ' => ∀ σ' G' H' α', Step G H α G' H' α' → Wf C G' H' σ' ρ' α' → E.ct σ' H'
  | .ex c l ρ' => ∀ cls dct σ' G' H' α', Step G H α G' H' α' → Wf C G' H' σ' ρ' α' → ExOk C c l cls dct G' H' → W cls dct σ' H'
  | .no => False
def dS (f : M Fl) : TS := fun E σ H => ∃ G ρ α, Wf C G H σ ρ α ∧ RnS C W f G H ρ α E
end

section
variable {C : Ct} {W : WX}
theorem Rn.mono {β γ : Type} {R : Hp → β → γ → Prop} {m : M β} {σ : L2.St} {G H : Hp} {ρ : Ev} {α : Nat → List Addr} {Q Q' : γ → Hp → Prop} (h : Rn C W R m σ G H ρ α Q) (k : ∀ c H', Q c H' → Q' c H') : Rn C W R m σ G H ρ α Q' := by
  unfold Rn at *
  cases e : m ρ with
  | ok b ρ' =>
    rw [e] at h
    exact fun c G' H' α' s w r => k c H' (h c G' H' α' s w r)
  | ex c l ρ' =>
    rw [e] at h
    exact h
  | no =>
    rw [e] at h
    exact h
/-- a state further on -/
theorem Rn.from {β γ : Type} {R : Hp → β → γ → Prop} {m : M β} {σ : L2.St} {G H G1 H1 : Hp} {ρ : Ev} {α α1 : Nat → List Addr} {Q : γ → Hp → Prop} (st : Step G H α G1 H1 α1)
    (h : ∀ {b ρ'}, m ρ = .ok b ρ' → ∀ c G' H' α', Step G H α G' H' α' → Wf C G' H' σ ρ' α' → R G' b c → Q c H')
    (hx : ∀ {c l ρ'}, m ρ = .ex c l ρ' → ∀ cls dct G' H' α', Step G H α G' H' α' → Wf C G' H' σ ρ' α' → ExOk C c l cls dct G' H' → W cls dct σ H') (hn : m ρ ≠ .no) : Rn C W R m σ G1 H1 ρ α1 Q := by
  unfold Rn
  cases e : m ρ with
  | ok b ρ' => exact fun c G' H' α' s w r => h e c G' H' α' (st.trans s) w r
  | ex c l ρ' => exact fun cls dct G' H' α' s w r => hx e cls dct G' H' α' (st.trans s) w r
  | no => exact hn e
theorem Rn.step {β γ : Type} {R : Hp → β → γ → Prop} {m : M β} {σ : L2.St} {G H G1 H1 : Hp} {ρ : Ev} {α α1 : Nat → List Addr} {Q : γ → Hp → Prop} (st : Step G H α G1 H1 α1)
    (h : match m ρ with
      | .ok b ρ' => ∀ c G' H' α', Step G H α G' H' α' → Wf C G' H' σ ρ' α' → R G' b c → Q c H'
      | .ex c l ρ' => ∀ cls dct G' H' α', Step G H α G' H' α' → Wf C G' H' σ ρ' α' → ExOk C c l cls dct G' H' → W cls dct σ H'
      | .no => False) : Rn C W R m σ G1 H1 ρ α1 Q := by
  unfold Rn
  cases e : m ρ with
  | ok b ρ' =>
    rw [e] at h
    exact fun c G' H' α' s w r => h c G' H' α' (st.trans s) w r
  | ex c l ρ' =>
    rw [e] at h
    exact fun cls dct G' H' α' s w r => h cls dct G' H' α' (st.trans s) w r
  | no =>
    rw [e] at h
    exact h
/-- one after the other -/
theorem Rn.bind {β γ δ ε : Type} {R : Hp → β → γ → Prop} {R' : Hp → δ → ε → Prop} {m : M δ} {k : δ → M β} {σ : L2.St} {G H : Hp} {ρ : Ev} {α : Nat → List Addr} {Q : γ → Hp → Prop} (h : Rn C W R (m >>= k) σ G H ρ α Q) :
    Rn C W R' m σ G H ρ α (fun c H1 => ∃ G1 ρ1 α1 b, Wf C G1 H1 σ ρ1 α1 ∧ Step G H α G1 H1 α1 ∧ R' G1 b c ∧ Rn C W R (k b) σ G1 H1 ρ1 α1 Q) := by
  have h' : match M.bind m k ρ with
      | .ok b ρ' => ∀ c G' H' α', Step G H α G' H' α' → Wf C G' H' σ ρ' α' → R G' b c → Q c H'
      | .ex c l ρ' => ∀ cls dct G' H' α', Step G H α G' H' α' → Wf C G' H' σ ρ' α' → ExOk C c l cls dct G' H' → W cls dct σ H'
      | .no => False := h
  unfold M.bind at h'
  unfold Rn
  cases e : m ρ with
  | ok b ρ1 =>
    rw [e] at h'
    intro c G1 H1 α1 s w r
    exact ⟨G1, ρ1, α1, b, w, s, r, Rn.step s h'⟩
  | ex c l ρ' =>
    rw [e] at h'
    exact h'
  | no =>
    rw [e] at h'
    exact h'
end

/-! ### weakening -/
theorem pe_mono {X : Cx} {e : Expr} {t t' : TE} (h : PE X e t) (k : ∀ σ H Q, t' σ H Q → t σ H Q) : PE X e t' := ⟨fun pins s σ H Q I q => h.run pins s σ H Q I (k σ H Q q)⟩
theorem pt_mono {X : Cx} {e : Expr} {t t' : TT} (h : PT X e t) (k : ∀ σ H Q, t' σ H Q → t σ H Q) : PT X e t' := ⟨fun pins s σ H Q I q => h.run pins s σ H Q I (k σ H Q q)⟩
theorem pw_mono {X : Cx} {e : Expr} {t t' : TT} (h : PW X e t) (k : ∀ σ H Q, t' σ H Q → t σ H Q) : PW X e t' := ⟨fun wh pins s σ H Q I q => h.run wh pins s σ H Q I (k σ H Q q)⟩
theorem pa_mono {X : Cx} {e : List Expr} {t t' : TA} (h : PA X e t) (k : ∀ σ H Q, t' σ H Q → t σ H Q) : PA X e t' := ⟨fun pos pins s σ H Q I q => h.run pos pins s σ H Q I (k σ H Q q)⟩
theorem ps_mono {X : Cx} {e : Stmt} {t t' : TS} (h : PS X e t) (k : ∀ D σ H, t' D σ H → t D σ H) : PS X e t' := ⟨fun pins s σ H D I q => h.run pins s σ H D I (k D σ H q)⟩
theorem pss_mono {X : Cx} {e : List Stmt} {t t' : TS} (h : PSs X e t) (k : ∀ D σ H, t' D σ H → t D σ H) : PSs X e t' := ⟨fun pins s σ H D I q => h.run pins s σ H D I (k D σ H q)⟩
end Pd

set_option maxHeartbeats 4000000
namespace Pd
open PySem PySem.Spec PyProof.Rows L2

/-! ### growth: only new objects -/
structure Ext (G H G' H' : Hp) : Prop where
  gg : Le G G'
  le : Le G' H'
  hh : Le H H'
  fr : ∀ a o, G' a = some o → G a = some o ∨ H a = none
  fz : ∀ a o u, H' a = some (.frz o u) → H a = some (.frz o u)
theorem Ext.refl {G H : Hp} (h : Le G H) : Ext G H G H := ⟨Le.refl G, h, Le.refl H, fun _ _ e => .inl e, fun _ _ _ h => h⟩
theorem Ext.trans {G H G1 H1 G2 H2 : Hp} (a : Ext G H G1 H1) (b : Ext G1 H1 G2 H2) : Ext G H G2 H2 where
  gg := a.gg.trans b.gg
  le := b.le
  hh := a.hh.trans b.hh
  fz := fun x o u h => a.fz x o u (b.fz x o u h)
  fr := fun x o e => by
    rcases b.fr x o e with h | h
    · exact a.fr x o h
    · cases q : H x with
      | none => exact .inr rfl
      | some u => rw [a.hh x u q] at h; cases h
def nfz : HO → Bool
  | .frz _ _ => false
  | _ => true
theorem nfz_upd {H : Hp} {p a : Addr} {o : HO} {ob : Obj} {u : HO} (nf : nfz o = true) (e : upd H p o a = some (.frz ob u)) : H a = some (.frz ob u) := by
  by_cases z : a = p
  · subst z; rw [upd_same] at e; cases e; cases nf
  · rw [upd_ne z] at e; exact e
/-- a new object -/
theorem Ext.new {G H : Hp} {p : Addr} {o : HO} (h : Le G H) (n : H p = none) (nf : nfz o = true := by rfl) : Ext G H (upd G p o) (upd H p o) where
  fz := fun a ob u e => nfz_upd nf e
  gg := fun a u e => by
    have ne : a ≠ p := fun z => by rw [z] at e; rw [h p u e] at n; cases n
    rw [upd_ne ne]; exact e
  le := fun a u e => by
    by_cases z : a = p
    · subst z; rw [upd_same] at e ⊢; exact e
    · rw [upd_ne z] at e ⊢; exact h a u e
  hh := fun a u e => by
    have ne : a ≠ p := fun z => by rw [z, n] at e; cases e
    rw [upd_ne ne]; exact e
  fr := fun a u e => by
    by_cases z : a = p
    · subst z; exact .inr n
    · rw [upd_ne z] at e; exact .inl e

section
variable {C : Ct} {W : WX} {X : Cx}
theorem Wf.ext {G H G' H' : Hp} {σ : L2.St} {ρ : Ev} {α : Nat → List Addr} (w : Wf C G H σ ρ α) (e : Ext G H G' H') : Wf C G' H' σ ρ α where
  le := e.le
  len := w.len
  sl := fun i x r h1 h2 => (w.sl i x r h1 h2).keep e.gg fun a m => by
    obtain ⟨_, o, h⟩ := w.ng i a m
    rw [e.hh a o h, h]
  out := w.out
  nd := w.nd
  dj := w.dj
  ng := fun i a h => by
    obtain ⟨h1, o, h2⟩ := w.ng i a h
    refine ⟨?_, o, e.hh _ _ h2⟩
    cases q : G' a with
    | none => rfl
    | some u =>
      rcases e.fr a u q with z | z
      · rw [h1] at z; cases z
      · rw [h2] at z; cases z
theorem Ext.step {G H G' H' : Hp} {α : Nat → List Addr} (e : Ext G H G' H') : Step G H α G' H' α := ⟨e.gg, fun a o h _ => e.hh a o h, fun a o h => (e.fr a o h).imp id .inl, fun i a h => .inl ⟨i, h⟩, e.fz⟩

/-- what a pure step by values must give -/
def Giv (C : Ct) (G H : Hp) (d : D) (Q : VK) : Prop := ∀ v G' H', Ext G H G' H' → Rp C G' d v → Q v H'
theorem Giv.now {G H : Hp} {d : D} {Q : VK} {v : V} (h : Giv C G H d Q) (le : Le G H) (r : Rp C G d v) : Q v H := h v G H (.refl le) r
/-- the end of a pure step -/
theorem rn_pure {σ : L2.St} {G H : Hp} {ρ : Ev} {α : Nat → List Addr} {d : D} {Q : VK} (w : Wf C G H σ ρ α) (h : Rn C W (RpE C) (pure d) σ G H ρ α Q) : Giv C G H d Q := fun v G' H' e r => h v G' H' α e.step (w.ext e) r
theorem rn_opt {σ : L2.St} {G H : Hp} {ρ : Ev} {α : Nat → List Addr} {o : Option D} {Q : VK} (w : Wf C G H σ ρ α) (h : Rn C W (RpE C) (opt o) σ G H ρ α Q) : ∃ d, o = some d ∧ Giv C G H d Q := by
  cases o with
  | none => exact h.elim
  | some d => exact ⟨d, rfl, rn_pure w h⟩
theorem rn_optT {σ : L2.St} {G H : Hp} {ρ : Ev} {α : Nat → List Addr} {o : Option Bool} {Q : Bool → Hp → Prop} (w : Wf C G H σ ρ α) (h : Rn C W RpT (opt o) σ G H ρ α Q) : ∃ b, o = some b ∧ Q b H := by
  cases o with
  | none => exact h.elim
  | some d => exact ⟨d, rfl, h d G H α (.refl ..) w rfl⟩

/-! ### names, constants -/
def getv (i : Nat) : M D := fun ρ => match ρ[i]? with
  | some (.va d) => .ok d ρ
  | some (.ls l) => .ok (.lst l) (ρ.set i (.va (.lst l)))
  | _ => .no
/-- a list of its own becomes a value -/
theorem Wf.freeze {G H : Hp} {σ : L2.St} {ρ : Ev} {α : Nat → List Addr} {i : Nat} {l : List D} (w : Wf C G H σ ρ α) (h : ρ[i]? = some (.ls l)) :
    ∃ v G', σ[i]? = some (some v) ∧ Rp C G' (.lst l) v ∧ Step G H α G' H (fun j => if j = i then [] else α j) ∧ Wf C G' H σ (ρ.set i (.va (.lst l))) (fun j => if j = i then [] else α j) := by
  have hi : i < ρ.length := (List.getElem?_eq_some_iff.mp h).1
  have hs : i < σ.length := by rw [w.len]; exact hi
  obtain ⟨p, xs, h1, h2, h3, h4⟩ := w.sl i σ[i] _ (by simp [hs]) h
  have hp : p ∈ α i := by rw [h2]; exact List.mem_singleton.mpr rfl
  obtain ⟨g0, _⟩ := w.ng i p hp
  have gg : Le G (upd G p (.lst xs)) := fun a u e => by
    have ne : a ≠ p := fun z => by rw [z, g0] at e; cases e
    rw [upd_ne ne]; exact e
  have le : Le (upd G p (.lst xs)) H := fun a u e => by
    by_cases z : a = p
    · subst z; rw [upd_same] at e; cases e; exact h3
    · rw [upd_ne z] at e; exact w.le a u e
  have sub : ∀ j a, a ∈ (if j = i then ([] : List Addr) else α j) → j ≠ i ∧ a ∈ α j := fun j a m => by
    by_cases z : j = i
    · rw [if_pos z] at m; cases m
    · rw [if_neg z] at m; exact ⟨z, m⟩
  have rp : Rp C (upd G p (.lst xs)) (.lst l) (.ref p) := ⟨p, xs, rfl, .of upd_same, h4.mono gg⟩
  refine ⟨.ref p, upd G p (.lst xs), by rw [List.getElem?_eq_getElem hs, h1], rp, ⟨gg, fun _ _ e _ => e, fun a u e => ?_, fun j a m => .inl ⟨j, (sub j a m).2⟩, fun _ _ _ e => e⟩, ⟨le, by rw [List.length_set]; exact w.len, fun j x r e1 e2 => ?_, fun j hj => ?_, fun j => ?_, fun j k a m1 m2 => w.dj j k a (sub j a m1).2 (sub k a m2).2, fun j a m => ?_⟩⟩
  · by_cases z : a = p
    · subst z; exact .inr (.inr ⟨i, hp⟩)
    · rw [upd_ne z] at e; exact .inl e
  · by_cases z : j = i
    · subst z
      rw [List.getElem?_set_self hi] at e2
      cases e2
      show SlotOk _ _ _ _ _ (if j = j then [] else α j)
      rw [if_pos rfl]
      refine ⟨rfl, .ref p, ?_, rp⟩
      rw [List.getElem?_eq_getElem hs, h1] at e1
      exact (Option.some.inj e1).symm
    · rw [List.getElem?_set_ne (Ne.symm z)] at e2
      show SlotOk _ _ _ _ _ (if j = i then [] else α j)
      rw [if_neg z]
      exact (w.sl j x r e1 e2).keep gg fun _ _ => rfl
  · show (if j = i then [] else α j) = []
    rw [List.length_set] at hj
    by_cases z : j = i
    · rw [if_pos z]
    · rw [if_neg z]; exact w.out j hj
  · show (if j = i then ([] : List Addr) else α j).Nodup
    by_cases z : j = i
    · rw [if_pos z]; exact List.nodup_nil
    · rw [if_neg z]; exact w.nd j
  · obtain ⟨nz, m⟩ := sub j a m
    obtain ⟨k1, k2⟩ := w.ng j a m
    refine ⟨?_, k2⟩
    have ne : a ≠ p := fun z => nz (w.dj j i a m (by rw [z]; exact hp))
    rw [upd_ne ne]; exact k1
theorem pd_var (i : Nat) {x : Str} {pos : Pos} (hN : X.N[i]? = some x := by rfl) (hv : Vis X.env.scope x := by first | exact Or.inl rfl | exact Or.inr (Or.inl rfl) | exact Or.inr (Or.inr rfl)) (hd : (x == ("__debug__" : Str)) = false := by decide)
    (hcd : (x == ("__classdict__" : Str)) = false := by decide) : PE X (.Name x pos) (dE C W (getv i)) := by
  refine pe_mono (pe_var (i := i) hN hv hd hcd) fun σ H Q h => ?_
  obtain ⟨G, ρ, α, w, h⟩ := h
  unfold Rn getv at h
  cases e : ρ[i]? with
  | none => rw [e] at h; exact h.elim
  | some r =>
    rw [e] at h
    have hi : i < ρ.length := (List.getElem?_eq_some_iff.mp e).1
    have hs : i < σ.length := by rw [w.len]; exact hi
    cases r with
    | va d =>
      obtain ⟨_, v, h1, h2⟩ := w.sl i σ[i] _ (by simp [hs]) e
      exact ⟨v, by rw [List.getElem?_eq_getElem hs, h1], h v G H α (.refl ..) w h2⟩
    | ls l =>
      obtain ⟨v, G', h1, h2, h3, h4⟩ := w.freeze e
      exact ⟨v, h1, h v G' H _ h3 h4 h2⟩
    | un => exact h.elim
    | sc _ => exact h.elim
    | ow _ => exact h.elim
    | pa _ _ => exact h.elim
theorem pd_c {e : Expr} {v : V} {d : D} (h : PE X e (tC v)) (r : ∀ G, Rp C G d v) : PE X e (dE C W (pure d)) := by
  refine pe_mono h fun σ H Q h => ?_
  obtain ⟨G, ρ, α, w, h⟩ := h
  exact (rn_pure w h).now w.le (r G)
theorem pd_int {i : Int} {j pos} : PE X (.Constant (.int i) j pos) (dE C W (pure (.int i))) := pd_c pe_int fun _ => rfl
theorem pd_bl {b : Bool} {j pos} : PE X (.Constant (.bool b) j pos) (dE C W (pure (.bl b))) := pd_c pe_bl fun _ => rfl
theorem pd_non {j pos} : PE X (.Constant .none j pos) (dE C W (pure .non)) := pd_c pe_non fun _ => rfl
theorem pd_str {x : Str} {j pos} : PE X (.Constant (.str x) j pos) (dE C W (pure (.str x))) := pd_c pe_str fun _ => rfl

/-! ### operators by values -/
def OpOk (C : Ct) (r : R2) (g : D → D → Option D) : Prop := ∀ G H x y a b d Q, Le G H → Rp C G a x → Rp C G b y → g a b = some d → Giv C G H d Q → r x y H Q
def op2 (g : D → D → Option D) (fa fb : M D) : M D := fa >>= fun a => fb >>= fun b => opt (g a b)
theorem dE_op {r : R2} {g : D → D → Option D} (ok : OpOk C r g) {fa fb : M D} {σ : L2.St} {H : Hp} {Q : VK} (h : dE C W (op2 g fa fb) σ H Q) : tOp r (dE C W fa) (dE C W fb) σ H Q := by
  obtain ⟨G, ρ, α, w, h⟩ := h
  refine ⟨G, ρ, α, w, (Rn.bind (R' := RpE C) h).mono fun x H1 ⟨G1, ρ1, α1, a, w1, s1, ra, h1⟩ => ?_⟩
  refine ⟨G1, ρ1, α1, w1, (Rn.bind (R' := RpE C) h1).mono fun y H2 ⟨G2, ρ2, α2, b, w2, s2, rb, h2⟩ => ?_⟩
  obtain ⟨d, e, q⟩ := rn_opt w2 h2
  exact ok G2 H2 x y a b d Q w2.le (Rp.mono s2.gg ra) rb e q
theorem pd_op {op : Operator} {r : R2} {g : D → D → Option D} {a b : Expr} {pos : Pos} {fa fb : M D} (ho : OpR X (binaryOp op) r) (ok : OpOk C r g) (ha : PE X a (dE C W fa)) (hb : PE X b (dE C W fb)) : PE X (.BinOp a op b pos) (dE C W (op2 g fa fb)) :=
  pe_mono (pe_op ho ha hb) fun _ _ _ h => dE_op ok h
theorem pd_cmp {op : CmpOp} {r : R2} {g : D → D → Option D} {a b : Expr} {pos : Pos} {fa fb : M D} (ho : OpR X (compareOp op) r) (ok : OpOk C r g) (ha : PE X a (dE C W fa)) (hb : PE X b (dE C W fb)) (hm : behindInMarks op b = false) : PE X (.Compare a [op] [b] pos) (dE C W (op2 g fa fb)) :=
  pe_mono (pe_cmpR ho ha hb hm) fun _ _ _ h => dE_op ok h
end
end Pd

set_option maxHeartbeats 4000000
namespace Pd
open PySem PySem.Spec PyProof.Rows L2

section
variable {C : Ct} {W : WX} {X : Cx}
/-! ### new objects as data -/
theorem giv_lst {G H : Hp} {l : List D} {Q : VK} {xs : List V} (h : Giv C G H (.lst l) Q) (le : Le G H) (r : RpL C G l xs) : ∀ p, H p = none → Q (.ref p) (upd H p (.lst xs)) := fun p n =>
  h (.ref p) (upd G p (.lst xs)) _ (.new le n) ⟨p, xs, rfl, .of upd_same, r.mono (Ext.new le n).gg⟩
theorem giv_tup {G H : Hp} {l : List D} {Q : VK} {xs : List V} (h : Giv C G H (.tup l) Q) (le : Le G H) (r : RpL C G l xs) : ∀ p, H p = none → Q (.ref p) (upd H p (.tup xs)) := fun p n =>
  h (.ref p) (upd G p (.tup xs)) _ (.new le n) ⟨p, xs, rfl, .inl (.inl upd_same), r.mono (Ext.new le n).gg⟩

/-! ### + -/
def addD : D → D → Option D
  | .int i, .int j => some (.int (i + j))
  | .str x, .str y => if x.length + y.length ≤ sizeLine then some (.str (x ++ y)) else none
  | .lst l, .lst m => if l.length + m.length ≤ sizeLine then some (.lst (l ++ m)) else none
  | _, _ => none
def rCatS (K : PySem.W.Frag) : R2 := fun x y H Q => ∃ l b xs zs, x = .ref l ∧ y = .ref b ∧ SqL K H l xs ∧ SqL K H b zs ∧ xs.length + zs.length ≤ sizeLine ∧ ∀ p, H p = none → Q (.ref p) (upd H p (.lst (xs ++ zs)))
theorem op_catS : OpR X (binaryOp .Add) (rCatS X.K) := by
  intro pins s σ H x y v u Q I rx ry h
  obtain ⟨l, b, xs, zs, rfl, rfl, hH, hB, hz, q⟩ := h
  cases rx
  cases ry
  obtain ⟨its, r, ⟨⟨c, dd, dt, sl⟩, n, ho, hc, hd, hdt⟩, _⟩ := I.list hH
  obtain ⟨its2, r2, ⟨⟨c2, dd2, dt2, sl2⟩, n2, ho2, hc2, hd2, hdt2⟩, _⟩ := I.list hB
  simp only at hc hd hdt hc2 hd2 hdt2
  subst hc hd hdt hc2 hd2 hdt2
  have e1 := r.length
  have e2 := r2.length
  have ea : its.toArray ++ its2.toArray = (its ++ its2).toArray := by simp
  refine concat_meets ⟨_, ho, rfl⟩ ⟨_, ho2, rfl⟩ noFill_list_add seq_list_add PySem.F.slot_list_add PySem.F.entry_list_add (PySem.F.args_list_add_2 _ _) (list_addW l b its.toArray its2.toArray n n2 none none sl sl2 (by rw [List.size_toArray, List.size_toArray]; omega)) ⟨ho, ho2, ?_⟩
  rw [ea]
  exact ⟨.ref _, _, I.lnew (t' := s.toks) (r.append r2) (by rw [List.length_append]; omega), rfl, q _ I.fresh⟩
def rPlus (K : PySem.W.Frag) : R2 := fun x y H Q => (rI0 fun i j => .int (i + j)) x y H Q ∨ ((fun x y H Q => ∃ i j, x = .str i ∧ y = .str j ∧ i.length + j.length ≤ sizeLine ∧ Q (.str (i ++ j)) H : R2) x y H Q ∨ rCatS K x y H Q)
theorem or_plus : OpR X (binaryOp .Add) (rPlus X.K) := OpR.or op_add (OpR.or op_add_str op_catS)
theorem ok_plus : OpOk C (rPlus C.K) addD := fun G H x y a b d Q le ra rb e q => by
  cases a <;> cases b <;> first | (cases e; done) | skip
  · cases e; cases ra; cases rb
    exact .inl ⟨_, _, rfl, rfl, q.now le rfl⟩
  · rename_i x1 y1
    cases ra; cases rb
    simp only [addD] at e
    split at e
    · rename_i hz
      cases e
      exact .inr (.inl ⟨_, _, rfl, rfl, hz, q.now le rfl⟩)
    · cases e
  · rename_i l m
    obtain ⟨p, xs, rfl, h1, h2⟩ := ra
    obtain ⟨p', ys, rfl, k1, k2⟩ := rb
    simp only [addD] at e
    split at e
    · rename_i hz
      cases e
      exact .inr (.inr ⟨p, p', xs, ys, rfl, rfl, le_l le h1, le_l le k1, by rw [h2.length, k2.length]; exact hz, giv_lst q le (h2.append k2)⟩)
    · cases e
theorem pd_add {a b : Expr} {pos : Pos} {fa fb : M D} (hC : C.K = X.K) (ha : PE X a (dE C W fa)) (hb : PE X b (dE C W fb)) : PE X (.BinOp a .Add b pos) (dE C W (op2 addD fa fb)) := pd_op (hC ▸ or_plus) ok_plus ha hb
/-! ### ints -/
def intD (P : Int → Int → Bool) (g : Int → Int → D) : D → D → Option D
  | .int i, .int j => if P i j then some (g i j) else none
  | _, _ => none
theorem ok_int {P : Int → Int → Bool} {CP : Int → Int → Prop} {f : Int → Int → V} {g : Int → Int → D} (hP : ∀ i j, P i j = true → CP i j) (hg : ∀ G i j, Rp C G (g i j) (f i j)) : OpOk C (rI CP f) (intD P g) := fun G H x y a b d Q le ra rb e q => by
  cases a <;> cases b <;> first | (cases e; done) | skip
  cases ra; cases rb
  simp only [intD] at e
  split at e
  · rename_i hp
    cases e
    exact ⟨_, _, rfl, rfl, hP _ _ hp, q.now le (hg G _ _)⟩
  · cases e
theorem ok_int0 {f : Int → Int → V} {g : Int → Int → D} (hg : ∀ G i j, Rp C G (g i j) (f i j)) : OpOk C (rI0 f) (intD (fun _ _ => true) g) := fun G H x y a b d Q le ra rb e q => by
  cases a <;> cases b <;> first | (cases e; done) | skip
  cases ra; cases rb
  simp only [intD] at e
  cases e
  exact ⟨_, _, rfl, rfl, q.now le (hg G _ _)⟩
abbrev subD : D → D → Option D := intD (fun _ _ => true) fun i j => .int (i - j)
theorem pd_sub {a b : Expr} {pos : Pos} {fa fb : M D} (ha : PE X a (dE C W fa)) (hb : PE X b (dE C W fb)) : PE X (.BinOp a .Sub b pos) (dE C W (op2 subD fa fb)) := pd_op op_sub (ok_int0 fun _ _ _ => rfl) ha hb
def bMul (i j : Int) : Bool := decide (i.natAbs.log2 + j.natAbs.log2 < 1000000)
abbrev mulD : D → D → Option D := intD bMul fun i j => .int (i * j)
theorem pd_mul {a b : Expr} {pos : Pos} {fa fb : M D} (ha : PE X a (dE C W fa)) (hb : PE X b (dE C W fb)) : PE X (.BinOp a .Mult b pos) (dE C W (op2 mulD fa fb)) :=
  pd_op op_mulW (ok_int (P := bMul) (CP := CMulW) (fun i j h => (of_decide_eq_true h : i.natAbs.log2 + j.natAbs.log2 < 1000000)) fun _ _ _ => rfl) ha hb
def bDiv (_ j : Int) : Bool := decide (0 < j ∧ j.natAbs.log2 < 9000)
abbrev fdivD : D → D → Option D := intD bDiv fun i j => .int (i / j)
theorem pd_fdiv {a b : Expr} {pos : Pos} {fa fb : M D} (ha : PE X a (dE C W fa)) (hb : PE X b (dE C W fb)) : PE X (.BinOp a .FloorDiv b pos) (dE C W (op2 fdivD fa fb)) :=
  pd_op op_fdivW (ok_int (P := bDiv) (CP := CDivW) (fun i j h => (of_decide_eq_true h : 0 < j ∧ j.natAbs.log2 < 9000)) fun _ _ _ => rfl) ha hb
def bMod (_ j : Int) : Bool := decide (0 < j)
abbrev modD : D → D → Option D := intD bMod fun i j => .int (i % j)
theorem pd_mod {a b : Expr} {pos : Pos} {fa fb : M D} (ha : PE X a (dE C W fa)) (hb : PE X b (dE C W fb)) : PE X (.BinOp a .Mod b pos) (dE C W (op2 modD fa fb)) :=
  pd_op op_mod (ok_int (fun _ _ h => of_decide_eq_true h) fun _ _ _ => rfl) ha hb
abbrev CPowB (i j : Int) : Prop := 0 ≤ j ∧ ((j ≤ 1000000 ∧ i.natAbs < 2 ^ 64) ∨ (Builtin.Int.intBits i : Int) * j ≤ 2 ^ 27)
theorem op_powB : OpR X (binaryOp .Pow) (rI CPowB fun i j => .int (i ^ j.toNat)) := opI fun _ _ _ _ _ _ _ hc q => hc.2.elim (fun z => pow_int_small hc.1 z.1 z.2 q) fun z => pow_int hc.1 z q
def bPow (i j : Int) : Bool := decide (0 ≤ j ∧ ((j ≤ 1000000 ∧ i.natAbs < 2 ^ 64) ∨ (Builtin.Int.intBits i : Int) * j ≤ 2 ^ 27))
abbrev powD : D → D → Option D := intD bPow fun i j => .int (i ^ j.toNat)
theorem pd_pow {a b : Expr} {pos : Pos} {fa fb : M D} (ha : PE X a (dE C W fa)) (hb : PE X b (dE C W fb)) : PE X (.BinOp a .Pow b pos) (dE C W (op2 powD fa fb)) :=
  pd_op op_powB (ok_int (P := bPow) (CP := CPowB) (fun i j h => (of_decide_eq_true h)) fun _ _ _ => rfl) ha hb
/-- text * int, list * int -/
def unD (g : D → Option D) (fa : M D) : M D := fa >>= fun a => opt (g a)
def negD : D → Option D
  | .int i => some (.int (-i))
  | _ => none
theorem pd_neg {a : Expr} {pos : Pos} {fa : M D} (ha : PE X a (dE C W fa)) : PE X (.UnaryOp .USub a pos) (dE C W (unD negD fa)) := by
  refine pe_mono (pe_un un_neg ha) fun σ H Q h => ?_
  obtain ⟨G, ρ, α, w, h⟩ := h
  refine ⟨G, ρ, α, w, (Rn.bind (R' := RpE C) h).mono fun x H1 ⟨G1, ρ1, α1, a, w1, s1, ra, h1⟩ => ?_⟩
  obtain ⟨d, e, q⟩ := rn_opt w1 h1
  cases a <;> first | (cases e; done) | skip
  cases e; cases ra
  exact ⟨_, rfl, q.now w1.le rfl⟩

/-! ### comparisons of ints -/
abbrev ltD : D → D → Option D := intD (fun _ _ => true) fun i j => .bl (decide (i < j))
abbrev leD : D → D → Option D := intD (fun _ _ => true) fun i j => .bl (decide (i ≤ j))
abbrev gtD : D → D → Option D := intD (fun _ _ => true) fun i j => .bl (decide (j < i))
abbrev geD : D → D → Option D := intD (fun _ _ => true) fun i j => .bl (decide (j ≤ i))
theorem ok_lt : OpOk C (rI0 fun i j => .bl (decide (i < j))) ltD := ok_int0 fun _ _ _ => rfl
theorem ok_le : OpOk C (rI0 fun i j => .bl (decide (i ≤ j))) leD := ok_int0 fun _ _ _ => rfl
theorem ok_gt : OpOk C (rI0 fun i j => .bl (decide (j < i))) gtD := ok_int0 fun _ _ _ => rfl
theorem ok_ge : OpOk C (rI0 fun i j => .bl (decide (j ≤ i))) geD := ok_int0 fun _ _ _ => rfl
/-! ### is None -/
def isND : D → D → Option D
  | .non, .non => some (.bl true)
  | .ins _ _, .non => some (.bl false)
  | .exc _ _, .non => some (.bl false)
  | .lst _, .non => some (.bl false)
  | .tup _, .non => some (.bl false)
  | .int _, .non => some (.bl false)
  | .str _, .non => some (.bl false)
  | .bl _, .non => some (.bl false)
  | _, _ => none
def isNotND (a b : D) : Option D := match isND a b with
  | some (.bl k) => some (.bl (!k))
  | _ => none
theorem rp_non {G : Hp} {a : D} {x : V} (r : Rp C G a x) : isND a .non = some (.bl (decide (x = .non))) := by
  cases a with
  | non => cases r; rfl
  | bl _ => cases r; rfl
  | int _ => cases r; rfl
  | str _ => cases r; rfl
  | lst _ => obtain ⟨_, _, rfl, _⟩ := r; rfl
  | tup _ => obtain ⟨_, _, rfl, _⟩ := r; rfl
  | ins _ _ => obtain ⟨_, _, _, _, rfl, _⟩ := r; rfl
  | exc _ => obtain ⟨_, _, rfl, _⟩ := r; rfl
theorem isND_non {a b d : D} (h : isND a b = some d) : b = .non := by
  cases a <;> cases b <;> first | rfl | cases h
theorem ok_isN : OpOk C (fun x y H Q => y = .non ∧ Q (.bl (decide (x = .non))) H) isND := fun G H x y a b d Q le ra rb e q => by
  have z := isND_non e
  subst z
  cases rb
  rw [rp_non ra] at e
  cases e
  exact ⟨rfl, q.now le rfl⟩
theorem ok_notN : OpOk C (fun x y H Q => y = .non ∧ Q (.bl (!decide (x = .non))) H) isNotND := fun G H x y a b d Q le ra rb e q => by
  unfold isNotND at e
  cases z : isND a b with
  | none => rw [z] at e; cases e
  | some k =>
    have z1 := isND_non z
    subst z1
    cases rb
    rw [rp_non ra] at e
    cases e
    exact ⟨rfl, q.now le rfl⟩

/-! ### == of data -/
mutual
def py : D → Option PyData
  | .non => some .none
  | .bl b => some (.bool b)
  | .int i => some (.int i)
  | .str x => some (.str x)
  | .lst l => (pyL l).map .list
  | .tup l => (pyL l).map .tuple
  | .ins _ _ => none
  | .exc _ _ => none
def pyL : List D → Option (List PyData)
  | [] => some []
  | d :: l => (py d).bind fun p => (pyL l).map fun q => p :: q
end
mutual
theorem rp_dp {G H : Hp} (le : Le G H) : ∀ {d : D} {v : V} {p : PyData}, Rp C G d v → py d = some p → Dp C.K H v p
  | .non, _, _, r, e => by cases r; cases e; exact .non
  | .bl _, _, _, r, e => by cases r; cases e; exact .bl _
  | .int _, _, _, r, e => by cases r; cases e; exact .int _
  | .str _, _, _, r, e => by cases r; cases e; exact .str _
  | .lst l, _, _, r, e => by
    obtain ⟨a, xs, rfl, h1, h2⟩ := r
    simp only [py] at e
    obtain ⟨q, e1, rfl⟩ := Option.map_eq_some_iff.mp e
    exact .lst (le_l le h1) (rpL_dp le h2 e1)
  | .tup l, _, _, r, e => by
    obtain ⟨a, xs, rfl, h1, h2⟩ := r
    simp only [py] at e
    obtain ⟨q, e1, rfl⟩ := Option.map_eq_some_iff.mp e
    exact .tup (le_t le h1) (rpL_dp le h2 e1)
  | .ins _ _, _, _, _, e => by simp only [py] at e; cases e
  | .exc _ _, _, _, _, e => by simp only [py] at e; cases e
theorem rpL_dp {G H : Hp} (le : Le G H) : ∀ {l : List D} {xs : List V} {q : List PyData}, RpL C G l xs → pyL l = some q → DpAll C.K H xs q
  | [], _, _, r, e => by cases r; cases e; exact .nil
  | d :: l, _, _, r, e => by
    obtain ⟨x, s, rfl, h1, h2⟩ := r
    simp only [pyL] at e
    obtain ⟨p, e1, e2⟩ := Option.bind_eq_some_iff.mp e
    obtain ⟨q, e3, rfl⟩ := Option.map_eq_some_iff.mp e2
    exact .cons (rp_dp le h1 e1) (rpL_dp le h2 e3)
end
/-- data that == may look at -/
def eqD (a b : D) : Option D := (py a).bind fun p => (py b).bind fun q => if SeqAt.shaped p && SeqAt.shaped q then some (.bl (PyData.eqv p q)) else none
def neD (a b : D) : Option D := (py a).bind fun p => (py b).bind fun q => if SeqAt.shaped p && SeqAt.shaped q then some (.bl (!PyData.eqv p q)) else none
theorem ok_eq : OpOk C (rEqD C.K) eqD := fun G H x y a b d Q le ra rb e q => by
  unfold eqD at e
  obtain ⟨p, e1, e⟩ := Option.bind_eq_some_iff.mp e
  obtain ⟨r, e2, e⟩ := Option.bind_eq_some_iff.mp e
  split at e
  · rename_i hs
    obtain ⟨s1, s2⟩ := Bool.and_eq_true_iff.mp hs
    cases e
    exact ⟨p, r, rp_dp le ra e1, rp_dp le rb e2, s1, s2, q.now le rfl⟩
  · cases e
theorem ok_ne : OpOk C (rNeD C.K) neD := fun G H x y a b d Q le ra rb e q => by
  unfold neD at e
  obtain ⟨p, e1, e⟩ := Option.bind_eq_some_iff.mp e
  obtain ⟨r, e2, e⟩ := Option.bind_eq_some_iff.mp e
  split at e
  · rename_i hs
    obtain ⟨s1, s2⟩ := Bool.and_eq_true_iff.mp hs
    cases e
    exact ⟨p, r, rp_dp le ra e1, rp_dp le rb e2, s1, s2, q.now le rfl⟩
  · cases e
/-! ### in -/
def inD : D → D → Option D
  | .str x, .str y => some (.bl (!(Builtin.Str.occurrences y x 0 y.length 1).isEmpty))
  | a, .lst l => (py a).bind fun p => (pyL l).bind fun q => if SeqAt.shaped p && SeqAt.shaped (.list q) then some (.bl (q.any fun z => PyData.eqv z p)) else none
  | _, _ => none
def notInD (a b : D) : Option D := match inD a b with
  | some (.bl k) => some (.bl (!k))
  | _ => none
def rInA (K : PySem.W.Frag) : R2 := fun x y H Q => (fun x y H Q => ∃ i j, x = .str i ∧ y = .str j ∧ Q (.bl (!(Builtin.Str.occurrences j i 0 j.length 1).isEmpty)) H : R2) x y H Q ∨ rInD K x y H Q
def rNotInA (K : PySem.W.Frag) : R2 := fun x y H Q => (fun x y H Q => ∃ i j, x = .str i ∧ y = .str j ∧ Q (.bl (!(!(Builtin.Str.occurrences j i 0 j.length 1).isEmpty))) H : R2) x y H Q ∨ rNotInD K x y H Q
theorem or_in (hu : X.A.units + 65 < cLine) : OpR X (compareOp .In) (rInA X.K) := OpR.or op_in_str (op_inD hu)
theorem or_notIn (hu : X.A.units + 65 < cLine) : OpR X (compareOp .NotIn) (rNotInA X.K) := OpR.or op_notin_str (op_notInD hu)
theorem inD_cases {a b : D} {d : D} (e : inD a b = some d) : (∃ x y, a = .str x ∧ b = .str y ∧ d = .bl (!(Builtin.Str.occurrences y x 0 y.length 1).isEmpty)) ∨
    ∃ l p q, b = .lst l ∧ py a = some p ∧ pyL l = some q ∧ SeqAt.shaped p = true ∧ SeqAt.shaped (.list q) = true ∧ d = .bl (q.any fun z => PyData.eqv z p) := by
  have key : ∀ l, (py a).bind (fun p => (pyL l).bind fun q => if SeqAt.shaped p && SeqAt.shaped (.list q) then some (D.bl (q.any fun z => PyData.eqv z p)) else none) = some d → b = .lst l →
      ∃ l p q, b = .lst l ∧ py a = some p ∧ pyL l = some q ∧ SeqAt.shaped p = true ∧ SeqAt.shaped (.list q) = true ∧ d = .bl (q.any fun z => PyData.eqv z p) := fun l e hb => by
    obtain ⟨p, e1, e⟩ := Option.bind_eq_some_iff.mp e
    obtain ⟨r, e2, e⟩ := Option.bind_eq_some_iff.mp e
    split at e
    · rename_i hs
      obtain ⟨s1, s2⟩ := Bool.and_eq_true_iff.mp hs
      cases e
      exact ⟨l, p, r, hb, e1, e2, s1, s2, rfl⟩
    · cases e
  cases b with
  | lst l => cases a <;> exact .inr (key l (by simpa only [inD] using e) rfl)
  | str y => cases a <;> first | (cases e; exact .inl ⟨_, _, rfl, rfl, rfl⟩) | (cases e; done)
  | _ => cases a <;> (cases e; done)
theorem ok_in : OpOk C (rInA C.K) inD := fun G H x y a b d Q le ra rb e q => by
  rcases inD_cases e with ⟨x1, y1, rfl, rfl, rfl⟩ | ⟨l, p, r, rfl, e1, e2, s1, s2, rfl⟩
  · cases ra; cases rb
    exact .inl ⟨_, _, rfl, rfl, q.now le rfl⟩
  · exact .inr ⟨p, r, rp_dp le ra e1, rp_dp le rb (by simp only [py, e2, Option.map_some]), s1, s2, q.now le rfl⟩
theorem ok_notIn : OpOk C (rNotInA C.K) notInD := fun G H x y a b d Q le ra rb e q => by
  unfold notInD at e
  cases z : inD a b with
  | none => rw [z] at e; cases e
  | some k =>
    rcases inD_cases z with ⟨x1, y1, rfl, rfl, rfl⟩ | ⟨l, p, r, rfl, e1, e2, s1, s2, rfl⟩
    · rw [z] at e; cases e; cases ra; cases rb
      exact .inl ⟨_, _, rfl, rfl, q.now le rfl⟩
    · rw [z] at e; cases e
      exact .inr ⟨p, r, rp_dp le ra e1, rp_dp le rb (by simp only [py, e2, Option.map_some]), s1, s2, q.now le rfl⟩

/-! ### tests -/
def tst (f : M D) : M Bool := f >>= fun d => match d with
  | .bl b => pure b
  | _ => no
theorem dT_tst {f : M D} {σ : L2.St} {H : Hp} {Q : Bool → Hp → Prop} (h : dT C W (tst f) σ H Q) : dE C W f σ H fun x H1 => ∃ c, x = .bl c ∧ Q c H1 := by
  obtain ⟨G, ρ, α, w, h⟩ := h
  refine ⟨G, ρ, α, w, (Rn.bind (R' := RpE C) h).mono fun x H1 ⟨G1, ρ1, α1, a, w1, s1, ra, h1⟩ => ?_⟩
  cases a <;> first | (exact h1.elim) | skip
  cases ra
  exact ⟨_, rfl, h1 _ _ _ _ (.refl ..) w1 rfl⟩
theorem pd_test {e : Expr} {f : M D} (h : PE X e (dE C W f)) (he : ∀ whole, isTrue e X.env whole = (do let v ← whole; standAt e.pos; holding [v] (truthy v)) := by intro _; rfl) : PT X e (dT C W (tst f)) :=
  pt_mono (pt_val h he) fun _ _ _ h => dT_tst h
theorem pd_tcmp {op : CmpOp} {r : R2} {g : D → D → Option D} {a b : Expr} {pos : Pos} {fa fb : M D} (ho : OpR X (compareOp op) r) (ok : OpOk C r g) (ha : PE X a (dE C W fa)) (hb : PE X b (dE C W fb)) (hm : behindInMarks op b = false) :
    PT X (.Compare a [op] [b] pos) (dT C W (tst (op2 g fa fb))) :=
  pt_mono (pt_cmpR ho ha hb hm) fun _ _ _ h => by
    have z := dT_tst h
    obtain ⟨G, ρ, α, w, z⟩ := z
    exact dE_op ok ⟨G, ρ, α, w, z⟩
def andM (a b : M Bool) : M Bool := a >>= fun k => if k then b else pure false
def orM (a b : M Bool) : M Bool := a >>= fun k => if k then pure true else b
def notM (a : M Bool) : M Bool := a >>= fun k => pure (!k)
theorem pd_and1 {a : Expr} {f : M Bool} {pos : Pos} (h : PT X a (dT C W f)) : PW X (.BoolOp .And [a] pos) (dT C W f) := pw_and1 h
theorem pd_or1 {a : Expr} {f : M Bool} {pos : Pos} (h : PT X a (dT C W f)) : PW X (.BoolOp .Or [a] pos) (dT C W f) := pw_or1 h
theorem pd_and {a b : Expr} {rest : List Expr} {fa fb : M Bool} {pos : Pos} (ha : PT X a (dT C W fa)) (hb : PW X (.BoolOp .And (b :: rest) pos) (dT C W fb)) : PW X (.BoolOp .And (a :: b :: rest) pos) (dT C W (andM fa fb)) :=
  pw_mono (pw_and ha hb) fun σ H Q h => by
    obtain ⟨G, ρ, α, w, h⟩ := h
    refine ⟨G, ρ, α, w, (Rn.bind (R' := RpT) h).mono fun x H1 ⟨G1, ρ1, α1, a, w1, s1, ra, h1⟩ => ?_⟩
    cases ra
    cases x with
    | true => exact ⟨G1, ρ1, α1, w1, h1⟩
    | false => exact h1 _ _ _ _ (.refl ..) w1 rfl
theorem pd_or {a b : Expr} {rest : List Expr} {fa fb : M Bool} {pos : Pos} (ha : PT X a (dT C W fa)) (hb : PW X (.BoolOp .Or (b :: rest) pos) (dT C W fb)) : PW X (.BoolOp .Or (a :: b :: rest) pos) (dT C W (orM fa fb)) :=
  pw_mono (pw_or ha hb) fun σ H Q h => by
    obtain ⟨G, ρ, α, w, h⟩ := h
    refine ⟨G, ρ, α, w, (Rn.bind (R' := RpT) h).mono fun x H1 ⟨G1, ρ1, α1, a, w1, s1, ra, h1⟩ => ?_⟩
    cases ra
    cases x with
    | false => exact ⟨G1, ρ1, α1, w1, h1⟩
    | true => exact h1 _ _ _ _ (.refl ..) w1 rfl
theorem pd_not {a : Expr} {fa : M Bool} {pos : Pos} (ha : PT X a (dT C W fa)) : PT X (.UnaryOp .Not a pos) (dT C W (notM fa)) :=
  pt_mono (pt_not ha) fun σ H Q h => by
    obtain ⟨G, ρ, α, w, h⟩ := h
    refine ⟨G, ρ, α, w, (Rn.bind (R' := RpT) h).mono fun x H1 ⟨G1, ρ1, α1, a, w1, s1, ra, h1⟩ => ?_⟩
    cases ra
    exact h1 _ _ _ _ (.refl ..) w1 rfl
/-- values by and, or, not: bools -/
def blM (a : M Bool) : M D := a >>= fun k => pure (.bl k)
def andV (a b : M D) : M D := a >>= fun x => match x with
  | .bl true => b
  | .bl false => pure (.bl false)
  | _ => no
def orV (a b : M D) : M D := a >>= fun x => match x with
  | .bl false => b
  | .bl true => pure (.bl true)
  | _ => no
def notD : D → Option D
  | .bl b => some (.bl (!b))
  | _ => none
theorem pd_vone {op} {a : Expr} {f : M D} {pos : Pos} (h : PE X a (dE C W f)) : PE X (.BoolOp op [a] pos) (dE C W f) := pe_one h
theorem pd_vand {a b : Expr} {rest : List Expr} {fa fb : M D} {pos : Pos} (ha : PE X a (dE C W fa)) (hb : PE X (.BoolOp .And (b :: rest) pos) (dE C W fb)) : PE X (.BoolOp .And (a :: b :: rest) pos) (dE C W (andV fa fb)) :=
  pe_mono (pe_and ha hb) fun σ H Q h => by
    obtain ⟨G, ρ, α, w, h⟩ := h
    refine ⟨G, ρ, α, w, (Rn.bind (R' := RpE C) h).mono fun x H1 ⟨G1, ρ1, α1, a, w1, s1, ra, h1⟩ => ?_⟩
    cases a <;> first | (exact h1.elim) | skip
    rename_i k
    cases ra
    cases k with
    | true => exact ⟨_, rfl, ⟨G1, ρ1, α1, w1, h1⟩⟩
    | false => exact ⟨_, rfl, (rn_pure w1 h1).now w1.le rfl⟩
theorem pd_vor {a b : Expr} {rest : List Expr} {fa fb : M D} {pos : Pos} (ha : PE X a (dE C W fa)) (hb : PE X (.BoolOp .Or (b :: rest) pos) (dE C W fb)) : PE X (.BoolOp .Or (a :: b :: rest) pos) (dE C W (orV fa fb)) :=
  pe_mono (pe_or ha hb) fun σ H Q h => by
    obtain ⟨G, ρ, α, w, h⟩ := h
    refine ⟨G, ρ, α, w, (Rn.bind (R' := RpE C) h).mono fun x H1 ⟨G1, ρ1, α1, a, w1, s1, ra, h1⟩ => ?_⟩
    cases a <;> first | (exact h1.elim) | skip
    rename_i k
    cases ra
    cases k with
    | false => exact ⟨_, rfl, ⟨G1, ρ1, α1, w1, h1⟩⟩
    | true => exact ⟨_, rfl, (rn_pure w1 h1).now w1.le rfl⟩
theorem pd_vnot {a : Expr} {fa : M D} {pos : Pos} (ha : PE X a (dE C W fa)) : PE X (.UnaryOp .Not a pos) (dE C W (unD notD fa)) :=
  pe_mono (pe_not ha) fun σ H Q h => by
    obtain ⟨G, ρ, α, w, h⟩ := h
    refine ⟨G, ρ, α, w, (Rn.bind (R' := RpE C) h).mono fun x H1 ⟨G1, ρ1, α1, a, w1, s1, ra, h1⟩ => ?_⟩
    obtain ⟨d, e, q⟩ := rn_opt w1 h1
    cases a <;> first | (cases e; done) | skip
    cases e; cases ra
    exact ⟨_, rfl, q.now w1.le rfl⟩
def iteM {β : Type} (c : M Bool) (a b : M β) : M β := c >>= fun k => if k then a else b
theorem pd_if {c a b : Expr} {fc : M Bool} {fa fb : M D} {pos : Pos} (hc : PT X c (dT C W fc)) (ha : PE X a (dE C W fa)) (hb : PE X b (dE C W fb)) : PE X (.IfExp c a b pos) (dE C W (iteM fc fa fb)) :=
  pe_mono (pe_ifExp hc ha hb) fun σ H Q h => by
    obtain ⟨G, ρ, α, w, h⟩ := h
    refine ⟨G, ρ, α, w, (Rn.bind (R' := RpT) h).mono fun x H1 ⟨G1, ρ1, α1, a, w1, s1, ra, h1⟩ => ?_⟩
    cases ra
    cases x with
    | true => exact ⟨G1, ρ1, α1, w1, h1⟩
    | false => exact ⟨G1, ρ1, α1, w1, h1⟩
/-- a chain of two comparisons -/
def chnM (g g' : D → D → Option D) (fa fb fc : M D) : M D := fa >>= fun a => fb >>= fun b => match g a b with
  | some (.bl true) => fc >>= fun c => opt (g' b c)
  | some (.bl false) => pure (.bl false)
  | _ => no
theorem dE_chn {r r' : R2} {g g' : D → D → Option D} (ok : OpOk C r g) (ok' : OpOk C r' g') {fa fb fc : M D} {σ : L2.St} {H : Hp} {Q : VK} (h : dE C W (chnM g g' fa fb fc) σ H Q) : tChain r r' (dE C W fa) (dE C W fb) (dE C W fc) σ H Q := by
  obtain ⟨G, ρ, α, w, h⟩ := h
  refine ⟨G, ρ, α, w, (Rn.bind (R' := RpE C) h).mono fun x H1 ⟨G1, ρ1, α1, a, w1, s1, ra, h1⟩ => ?_⟩
  refine ⟨G1, ρ1, α1, w1, (Rn.bind (R' := RpE C) h1).mono fun y H2 ⟨G2, ρ2, α2, b, w2, s2, rb, h2⟩ => ?_⟩
  cases e : g a b with
  | none => rw [e] at h2; exact h2.elim
  | some k =>
    rw [e] at h2
    cases k <;> first | (exact h2.elim) | skip
    rename_i k
    refine ok G2 H2 x y a b _ _ w2.le (Rp.mono s2.gg ra) rb e fun v G3 H3 e3 rv => ?_
    cases rv
    refine ⟨k, rfl, ?_⟩
    have w3 := w2.ext e3
    have h3 := Rn.step (C := C) (W := W) (R := RpE C) (σ := σ) (Q := Q) (e3.step (α := α2)) h2
    cases k with
    | true =>
      rw [if_pos rfl]
      refine ⟨G3, ρ2, α2, w3, (Rn.bind (R' := RpE C) h3).mono fun z H4 ⟨G4, ρ4, α4, c, w4, s4, rc, h4⟩ => ?_⟩
      obtain ⟨d, e', q⟩ := rn_opt w4 h4
      exact ok' G4 H4 y z b c d Q w4.le (Rp.mono s4.gg (Rp.mono e3.gg rb)) rc e' q
    | false =>
      rw [if_neg Bool.false_ne_true]
      exact (rn_pure w3 h3).now w3.le rfl
theorem pd_chn {op op' : CmpOp} {r r' : R2} {g g' : D → D → Option D} {a b c : Expr} {pos : Pos} {fa fb fc : M D} (ho : OpR X (compareOp op) r) (ok : OpOk C r g) (ho' : OpR X (compareOp op') r') (ok' : OpOk C r' g')
    (ha : PE X a (dE C W fa)) (hb : PE X b (dE C W fb)) (hc : PE X c (dE C W fc)) (hm : lastMarks [op, op'] [b, c] = false := by with_unfolding_all rfl) : PE X (.Compare a [op, op'] [b, c] pos) (dE C W (chnM g g' fa fb fc)) :=
  pe_mono (pe_chain ho ho' ha hb hc hm) fun _ _ _ h => dE_chn ok ok' h
theorem pd_tchn {op op' : CmpOp} {r r' : R2} {g g' : D → D → Option D} {a b c : Expr} {pos : Pos} {fa fb fc : M D} (ho : OpR X (compareOp op) r) (ok : OpOk C r g) (ho' : OpR X (compareOp op') r') (ok' : OpOk C r' g')
    (ha : PE X a (dE C W fa)) (hb : PE X b (dE C W fb)) (hc : PE X c (dE C W fc)) (hm : lastMarks [op, op'] [b, c] = false := by with_unfolding_all rfl) : PT X (.Compare a [op, op'] [b, c] pos) (dT C W (tst (chnM g g' fa fb fc))) :=
  pt_mono (pt_chain ho ho' ha hb hc hm) fun _ _ _ h => by
    have z := dT_tst h
    obtain ⟨G, ρ, α, w, z⟩ := z
    exact dE_chn ok ok' ⟨G, ρ, α, w, z⟩
end
end Pd

set_option maxHeartbeats 4000000
namespace Pd
open PySem PySem.Spec PyProof.Rows L2

section
variable {C : Ct} {W : WX} {X : Cx}
/-! ### arguments, displays -/
def consM (f : M D) (fs : M (List D)) : M (List D) := f >>= fun d => fs >>= fun l => pure (d :: l)
theorem pd_nil : PA X [] (dA C W (pure [])) := pa_mono pa_nil fun σ H Q h => by
  obtain ⟨G, ρ, α, w, h⟩ := h
  exact h [] G H α (.refl ..) w rfl
theorem pd_cons {e : Expr} {es : List Expr} {f : M D} {fs : M (List D)} (he : PE X e (dE C W f)) (hs : PA X es (dA C W fs)) (hst : starEach (e :: es) X.env = (false, eval e X.env) :: starEach es X.env := by rfl) : PA X (e :: es) (dA C W (consM f fs)) :=
  pa_mono (pa_cons he hs hst) fun σ H Q h => by
    obtain ⟨G, ρ, α, w, h⟩ := h
    refine ⟨G, ρ, α, w, (Rn.bind (R' := RpE C) h).mono fun x H1 ⟨G1, ρ1, α1, a, w1, s1, ra, h1⟩ => ?_⟩
    refine ⟨G1, ρ1, α1, w1, (Rn.bind (R' := RpL C) h1).mono fun ys H2 ⟨G2, ρ2, α2, l, w2, s2, rl, h2⟩ => ?_⟩
    exact h2 (x :: ys) G2 H2 α2 (.refl ..) w2 ⟨x, ys, rfl, Rp.mono s2.gg ra, rl⟩
def bnd {β : Type} (n : Nat) (m : M β) : M β := if n ≤ sizeLine then m else no
def lstM (fs : M (List D)) : M D := fs >>= fun l => bnd l.length (pure (.lst l))
def tupM (fs : M (List D)) : M D := fs >>= fun l => bnd l.length (pure (.tup l))
theorem rn_bnd {β γ : Type} {R : Hp → β → γ → Prop} {n : Nat} {m : M β} {σ : L2.St} {G H : Hp} {ρ : Ev} {α : Nat → List Addr} {Q : γ → Hp → Prop} (h : Rn C W R (bnd n m) σ G H ρ α Q) : n ≤ sizeLine ∧ Rn C W R m σ G H ρ α Q := by
  unfold bnd at h
  by_cases hn : n ≤ sizeLine
  · rw [if_pos hn] at h
    exact ⟨hn, h⟩
  · rw [if_neg hn] at h
    exact h.elim
theorem pd_lst {es : List Expr} {pos : Pos} {fs : M (List D)} (h : PA X es (dA C W fs)) : PE X (.List es pos) (dE C W (lstM fs)) :=
  pe_mono (pe_lst h) fun σ H Q h => by
    obtain ⟨G, ρ, α, w, h⟩ := h
    refine ⟨G, ρ, α, w, (Rn.bind (R' := RpL C) h).mono fun ys H2 ⟨G2, ρ2, α2, l, w2, s2, rl, h2⟩ => ?_⟩
    obtain ⟨hz, h2⟩ := rn_bnd h2
    exact ⟨by rw [rl.length]; exact hz, giv_lst (rn_pure w2 h2) w2.le rl⟩
theorem pd_tup {es : List Expr} {pos : Pos} {x1} {fs : M (List D)} (h : PA X es (dA C W fs)) : PE X (.Tuple es x1 pos) (dE C W (tupM fs)) :=
  pe_mono (pe_tup h) fun σ H Q h => by
    obtain ⟨G, ρ, α, w, h⟩ := h
    refine ⟨G, ρ, α, w, (Rn.bind (R' := RpL C) h).mono fun ys H2 ⟨G2, ρ2, α2, l, w2, s2, rl, h2⟩ => ?_⟩
    obtain ⟨hz, h2⟩ := rn_bnd h2
    exact ⟨by rw [rl.length]; exact hz, giv_tup (rn_pure w2 h2) w2.le rl⟩

/-! ### calls of built-ins by values -/
def CallOk (C : Ct) (r : List V → Hp → VK → Prop) (g : List D → Option D) : Prop := ∀ G H vs l d Q, Le G H → RpL C G l vs → g l = some d → Giv C G H d Q → r vs H Q
def callM (g : List D → Option D) (fs : M (List D)) : M D := fs >>= fun l => opt (g l)
theorem dE_call {r : List V → Hp → VK → Prop} {g : List D → Option D} (ok : CallOk C r g) {fs : M (List D)} {σ : L2.St} {H : Hp} {Q : VK} (h : dE C W (callM g fs) σ H Q) : tCB r (dA C W fs) σ H Q := by
  obtain ⟨G, ρ, α, w, h⟩ := h
  refine ⟨G, ρ, α, w, (Rn.bind (R' := RpL C) h).mono fun ys H2 ⟨G2, ρ2, α2, l, w2, s2, rl, h2⟩ => ?_⟩
  obtain ⟨d, e, q⟩ := rn_opt w2 h2
  exact ok G2 H2 ys l d Q w2.le rl e q
theorem pd_callB {r : List V → Hp → VK → Prop} {g : List D → Option D} {x : Str} {id : String} {p pos : Pos} {e : Expr} {es : List Expr} {fs : M (List D)} (hc : CallR X (.builtin id) r) (ok : CallOk C r g) (hg : Gl X x) (hm : X.mg x = none) (hv : bootBuiltins x = some (.builtin id)) (ha : PA X (e :: es) (dA C W fs))
    (hn : x ≠ "__name__" := by decide) (hdb : (x == ("__debug__" : Str)) = false := by decide) (he : starEach (e :: es) X.env = (false, eval e X.env) :: starEach es X.env := by rfl) (hpl : (backTo pos (starEach es X.env)).any (·.1) = false := by rfl) :
    PE X (.Call (.Name x p) (e :: es) [] pos) (dE C W (callM g fs)) := pe_mono (pe_callB hc hg hm hv ha hn hdb he hpl) fun _ _ _ h => dE_call ok h
theorem pd_callTy {r : List V → Hp → VK → Prop} {g : List D → Option D} {x : Str} {T : String} {p pos : Pos} {e : Expr} {es : List Expr} {fs : M (List D)} (hc : CallR X (.type T) r) (ok : CallOk C r g) (hg : Gl X x) (hm : X.mg x = none) (hv : bootBuiltins x = some (.type T)) (ha : PA X (e :: es) (dA C W fs))
    (hn : x ≠ "__name__" := by decide) (hdb : (x == ("__debug__" : Str)) = false := by decide) (he : starEach (e :: es) X.env = (false, eval e X.env) :: starEach es X.env := by rfl) (hpl : (backTo pos (starEach es X.env)).any (·.1) = false := by rfl) :
    PE X (.Call (.Name x p) (e :: es) [] pos) (dE C W (callM g fs)) := pe_mono (pe_callTy hc hg hm hv ha hn hdb he hpl) fun _ _ _ h => dE_call ok h
end
end Pd

set_option maxHeartbeats 4000000
namespace Pd
open PySem PySem.Spec PyProof.Rows L2

section
variable {C : Ct} {W : WX} {X : Cx}
/-! ### lists of one kind -/
def asInts : List D → Option (List Int)
  | [] => some []
  | .int i :: l => (asInts l).map (i :: ·)
  | _ => none
def asBls : List D → Option (List Bool)
  | [] => some []
  | .bl i :: l => (asBls l).map (i :: ·)
  | _ => none
def asStrs : List D → Option (List Str)
  | [] => some []
  | .str i :: l => (asStrs l).map (i :: ·)
  | _ => none
theorem rp_ints {G : Hp} : ∀ {l : List D} {ns : List Int} {xs : List V}, asInts l = some ns → RpL C G l xs → xs = ns.map V.int
  | [], _, _, e, r => by cases e; cases r; rfl
  | .int i :: l, _, _, e, r => by
    simp only [asInts] at e
    obtain ⟨ms, e1, rfl⟩ := Option.map_eq_some_iff.mp e
    obtain ⟨x, s, rfl, h1, h2⟩ := r
    cases h1
    rw [rp_ints e1 h2, List.map_cons]
  | .non :: _, _, _, e, _ => by cases e
  | .bl _ :: _, _, _, e, _ => by cases e
  | .str _ :: _, _, _, e, _ => by cases e
  | .lst _ :: _, _, _, e, _ => by cases e
  | .tup _ :: _, _, _, e, _ => by cases e
  | .ins _ _ :: _, _, _, e, _ => by cases e
  | .exc _ _ :: _, _, _, e, _ => by cases e
theorem rp_bls {G : Hp} : ∀ {l : List D} {ns : List Bool} {xs : List V}, asBls l = some ns → RpL C G l xs → xs = ns.map V.bl
  | [], _, _, e, r => by cases e; cases r; rfl
  | .bl i :: l, _, _, e, r => by
    simp only [asBls] at e
    obtain ⟨ms, e1, rfl⟩ := Option.map_eq_some_iff.mp e
    obtain ⟨x, s, rfl, h1, h2⟩ := r
    cases h1
    rw [rp_bls e1 h2, List.map_cons]
  | .non :: _, _, _, e, _ => by cases e
  | .int _ :: _, _, _, e, _ => by cases e
  | .str _ :: _, _, _, e, _ => by cases e
  | .lst _ :: _, _, _, e, _ => by cases e
  | .tup _ :: _, _, _, e, _ => by cases e
  | .ins _ _ :: _, _, _, e, _ => by cases e
  | .exc _ _ :: _, _, _, e, _ => by cases e
theorem rp_strs {G : Hp} : ∀ {l : List D} {ns : List Str} {xs : List V}, asStrs l = some ns → RpL C G l xs → xs = ns.map V.str
  | [], _, _, e, r => by cases e; cases r; rfl
  | .str i :: l, _, _, e, r => by
    simp only [asStrs] at e
    obtain ⟨ms, e1, rfl⟩ := Option.map_eq_some_iff.mp e
    obtain ⟨x, s, rfl, h1, h2⟩ := r
    cases h1
    rw [rp_strs e1 h2, List.map_cons]
  | .non :: _, _, _, e, _ => by cases e
  | .bl _ :: _, _, _, e, _ => by cases e
  | .int _ :: _, _, _, e, _ => by cases e
  | .lst _ :: _, _, _, e, _ => by cases e
  | .tup _ :: _, _, _, e, _ => by cases e
  | .ins _ _ :: _, _, _, e, _ => by cases e
  | .exc _ _ :: _, _, _, e, _ => by cases e
theorem rpL_ints {G : Hp} : ∀ ns : List Int, RpL C G (ns.map D.int) (ns.map V.int)
  | [] => rfl
  | _ :: ns => ⟨_, _, rfl, rfl, rpL_ints ns⟩
theorem rpL_strs {G : Hp} : ∀ ns : List Str, RpL C G (ns.map D.str) (ns.map V.str)
  | [] => rfl
  | _ :: ns => ⟨_, _, rfl, rfl, rpL_strs ns⟩
theorem asInts_map : ∀ ns : List Int, asInts (ns.map D.int) = some ns
  | [] => rfl
  | _ :: ns => by simp only [List.map_cons, asInts, asInts_map ns, Option.map_some]
theorem asBls_map : ∀ ns : List Bool, asBls (ns.map D.bl) = some ns
  | [] => rfl
  | _ :: ns => by simp only [List.map_cons, asBls, asBls_map ns, Option.map_some]
theorem asStrs_map : ∀ ns : List Str, asStrs (ns.map D.str) = some ns
  | [] => rfl
  | _ :: ns => by simp only [List.map_cons, asStrs, asStrs_map ns, Option.map_some]

/-! ### len, int, str, abs, min, max, sum, all, any -/
def lenD : D → Option D
  | .lst l => some (.int (l.length : Int))
  | .tup l => some (.int (l.length : Int))
  | .str x => if x.length ≤ sizeLine then some (.int (x.length : Int)) else none
  | _ => none
def one (g : D → Option D) : List D → Option D
  | [d] => g d
  | _ => none
def two (g : D → D → Option D) : List D → Option D
  | [a, b] => g a b
  | _ => none
theorem one_cases {g : D → Option D} {l : List D} {d : D} {G : Hp} {vs : List V} (e : one g l = some d) (r : RpL C G l vs) : ∃ a x, l = [a] ∧ vs = [x] ∧ Rp C G a x ∧ g a = some d := by
  match l, e with
  | [a], e =>
    obtain ⟨x, s, rfl, h1, h2⟩ := r
    cases h2
    exact ⟨a, x, rfl, rfl, h1, e⟩
theorem two_cases {g : D → D → Option D} {l : List D} {d : D} {G : Hp} {vs : List V} (e : two g l = some d) (r : RpL C G l vs) : ∃ a b x y, l = [a, b] ∧ vs = [x, y] ∧ Rp C G a x ∧ Rp C G b y ∧ g a b = some d := by
  match l, e with
  | [a, b], e =>
    obtain ⟨x, s, rfl, h1, h2⟩ := r
    obtain ⟨y, s, rfl, h2, h3⟩ := h2
    cases h3
    exact ⟨a, b, x, y, rfl, rfl, h1, h2, e⟩
theorem lenV_of {G H : Hp} {a : D} {x : V} {d : D} (le : Le G H) (r : Rp C G a x) (e : lenD a = some d) : ∃ n : Nat, d = .int n ∧ LenV C.K x H n := by
  cases a <;> first | (cases e; done) | skip
  · simp only [lenD] at e
    split at e
    · rename_i z hz
      cases e; cases r
      exact ⟨_, rfl, hz, rfl⟩
    · cases e
  · obtain ⟨p, xs, rfl, h1, h2⟩ := r
    cases e
    exact ⟨_, rfl, .inl ⟨xs, le_l le h1, h2.length.symm⟩⟩
  · obtain ⟨p, xs, rfl, h1, h2⟩ := r
    cases e
    exact ⟨_, rfl, .inr ⟨xs, le_t le h1, h2.length.symm⟩⟩
theorem ok_len : CallOk C (fun xs H Q => ∃ x n, xs = [x] ∧ LenV C.K x H n ∧ Q (.int n) H) (one lenD) := fun G H vs l d Q le r e q => by
  obtain ⟨a, x, rfl, rfl, ra, e⟩ := one_cases e r
  obtain ⟨n, rfl, h⟩ := lenV_of le ra e
  exact ⟨x, n, rfl, h, q.now le rfl⟩
def toInt : D → Option D
  | .int i => some (.int i)
  | .bl k => some (.int (if k then 1 else 0))
  | .str x => (PySem.intText? x).bind fun n => if x.length ≤ 640 then some (.int n) else none
  | _ => none
def rInt : List V → Hp → VK → Prop := fun vs H Q => ((∃ i, vs = [.int i] ∧ Q (.int i) H) ∨ ∃ k, vs = [.bl k] ∧ Q (.int (if k then 1 else 0)) H) ∨ ∃ (a : Str) (n : Int), vs = [.str a] ∧ PySem.intText? a = some n ∧ a.length ≤ 640 ∧ Q (.int n) H
theorem ok_toInt : CallOk C rInt (one toInt) := fun G H vs l d Q le r e q => by
  obtain ⟨a, x, rfl, rfl, ra, e⟩ := one_cases e r
  cases a <;> first | (cases e; done) | skip
  · cases e; cases ra
    exact .inl (.inr ⟨_, rfl, q.now le rfl⟩)
  · cases e; cases ra
    exact .inl (.inl ⟨_, rfl, q.now le rfl⟩)
  · simp only [toInt] at e
    obtain ⟨n, e1, e2⟩ := Option.bind_eq_some_iff.mp e
    split at e2
    · rename_i hz
      cases e2; cases ra
      exact .inr ⟨_, n, rfl, e1, hz, q.now le rfl⟩
    · cases e2
def toStr : D → Option D
  | .int i => if i.natAbs.log2 < 1920 then some (.str (toString i : Str)) else none
  | _ => none
theorem ok_toStr : CallOk C (fun xs H Q => ∃ i, xs = [.int i] ∧ i.natAbs.log2 < 1920 ∧ Q (.str (toString i)) H) (one toStr) := fun G H vs l d Q le r e q => by
  obtain ⟨a, x, rfl, rfl, ra, e⟩ := one_cases e r
  cases a <;> first | (cases e; done) | skip
  simp only [toStr] at e
  split at e
  · rename_i hz
    cases e; cases ra
    exact ⟨_, rfl, hz, q.now le rfl⟩
  · cases e
def absD : D → Option D
  | .int i => some (.int (if i < 0 then -i else i))
  | _ => none
def allD : D → Option D
  | .lst l => (asBls l).map fun bs => .bl (bs.all id)
  | _ => none
def anyD : D → Option D
  | .lst l => (asBls l).map fun bs => .bl (bs.any id)
  | _ => none
def sumD : D → Option D
  | .lst l => (asInts l).map fun ns => .int ns.sum
  | _ => none
theorem ok_all : CallOk C (rAll C.K) (one allD) := fun G H vs l d Q le r e q => by
  obtain ⟨a, x, rfl, rfl, ra, e⟩ := one_cases e r
  cases a <;> first | (cases e; done) | skip
  simp only [allD] at e
  obtain ⟨bs, e1, rfl⟩ := Option.map_eq_some_iff.mp e
  obtain ⟨p, xs, rfl, h1, h2⟩ := ra
  have z := rp_bls e1 h2
  subst z
  exact ⟨p, bs, rfl, le_l le h1, q.now le rfl⟩
theorem ok_any : CallOk C (rAny C.K) (one anyD) := fun G H vs l d Q le r e q => by
  obtain ⟨a, x, rfl, rfl, ra, e⟩ := one_cases e r
  cases a <;> first | (cases e; done) | skip
  simp only [anyD] at e
  obtain ⟨bs, e1, rfl⟩ := Option.map_eq_some_iff.mp e
  obtain ⟨p, xs, rfl, h1, h2⟩ := ra
  have z := rp_bls e1 h2
  subst z
  exact ⟨p, bs, rfl, le_l le h1, q.now le rfl⟩
theorem ok_sum : CallOk C (rSum C.K) (one sumD) := fun G H vs l d Q le r e q => by
  obtain ⟨a, x, rfl, rfl, ra, e⟩ := one_cases e r
  cases a <;> first | (cases e; done) | skip
  simp only [sumD] at e
  obtain ⟨bs, e1, rfl⟩ := Option.map_eq_some_iff.mp e
  obtain ⟨p, xs, rfl, h1, h2⟩ := ra
  have z := rp_ints e1 h2
  subst z
  exact ⟨p, bs, rfl, le_l le h1, q.now le rfl⟩
def minL : List Int → Option Int
  | [] => none
  | [a] => some a
  | a :: b :: l => (minL (b :: l)).map fun m => if m < a then m else a
def maxL : List Int → Option Int
  | [] => none
  | [a] => some a
  | a :: b :: l => (maxL (b :: l)).map fun m => if a < m then m else a
theorem minL_ok : ∀ {l : List Int} {m : Int}, minL l = some m → m ∈ l ∧ ∀ y ∈ l, m ≤ y
  | [], _, h => by cases h
  | [a], m, h => by
    cases h
    exact ⟨List.mem_singleton.mpr rfl, fun y hy => by rw [List.mem_singleton.mp hy]; exact Int.le_refl _⟩
  | a :: b :: l, m, h => by
    obtain ⟨k, e, rfl⟩ := Option.map_eq_some_iff.mp (show (minL (b :: l)).map _ = some m from h)
    obtain ⟨h1, h2⟩ := minL_ok e
    by_cases c : k < a
    · rw [if_pos c]
      exact ⟨List.mem_cons_of_mem _ h1, fun y hy => by
        rcases List.mem_cons.mp hy with z | z
        · rw [z]; omega
        · exact h2 y z⟩
    · rw [if_neg c]
      exact ⟨List.mem_cons_self, fun y hy => by
        rcases List.mem_cons.mp hy with z | z
        · rw [z]; exact Int.le_refl _
        · have := h2 y z; omega⟩
theorem maxL_ok : ∀ {l : List Int} {m : Int}, maxL l = some m → m ∈ l ∧ ∀ y ∈ l, y ≤ m
  | [], _, h => by cases h
  | [a], m, h => by
    cases h
    exact ⟨List.mem_singleton.mpr rfl, fun y hy => by rw [List.mem_singleton.mp hy]; exact Int.le_refl _⟩
  | a :: b :: l, m, h => by
    obtain ⟨k, e, rfl⟩ := Option.map_eq_some_iff.mp (show (maxL (b :: l)).map _ = some m from h)
    obtain ⟨h1, h2⟩ := maxL_ok e
    by_cases c : a < k
    · rw [if_pos c]
      exact ⟨List.mem_cons_of_mem _ h1, fun y hy => by
        rcases List.mem_cons.mp hy with z | z
        · rw [z]; omega
        · exact h2 y z⟩
    · rw [if_neg c]
      exact ⟨List.mem_cons_self, fun y hy => by
        rcases List.mem_cons.mp hy with z | z
        · rw [z]; exact Int.le_refl _
        · have := h2 y z; omega⟩
def minD : D → Option D
  | .lst l => (asInts l).bind fun ns => (minL ns).map .int
  | _ => none
def maxD : D → Option D
  | .lst l => (asInts l).bind fun ns => (maxL ns).map .int
  | _ => none
theorem ok_min : CallOk C (rMin C.K) (one minD) := fun G H vs l d Q le r e q => by
  obtain ⟨a, x, rfl, rfl, ra, e⟩ := one_cases e r
  cases a <;> first | (cases e; done) | skip
  simp only [minD] at e
  obtain ⟨ns, e1, e2⟩ := Option.bind_eq_some_iff.mp e
  obtain ⟨m, e3, rfl⟩ := Option.map_eq_some_iff.mp e2
  obtain ⟨p, xs, rfl, h1, h2⟩ := ra
  have z := rp_ints e1 h2
  subst z
  obtain ⟨k1, k2⟩ := minL_ok e3
  refine ⟨p, ns, rfl, le_l le h1, by cases ns with | nil => cases e3 | cons _ _ => simp, fun m' m1 m2 => ?_⟩
  have : m' = m := by
    have := k2 _ m1
    have := m2 _ k1
    omega
  subst this
  exact q.now le rfl
theorem ok_max : CallOk C (rMax C.K) (one maxD) := fun G H vs l d Q le r e q => by
  obtain ⟨a, x, rfl, rfl, ra, e⟩ := one_cases e r
  cases a <;> first | (cases e; done) | skip
  simp only [maxD] at e
  obtain ⟨ns, e1, e2⟩ := Option.bind_eq_some_iff.mp e
  obtain ⟨m, e3, rfl⟩ := Option.map_eq_some_iff.mp e2
  obtain ⟨p, xs, rfl, h1, h2⟩ := ra
  have z := rp_ints e1 h2
  subst z
  obtain ⟨k1, k2⟩ := maxL_ok e3
  refine ⟨p, ns, rfl, le_l le h1, by cases ns with | nil => cases e3 | cons _ _ => simp, fun m' m1 m2 => ?_⟩
  have : m' = m := by
    have := k2 _ m1
    have := m2 _ k1
    omega
  subst this
  exact q.now le rfl
def min2D : D → D → Option D
  | .int m, .int n => some (.int (if n < m then n else m))
  | _, _ => none
def max2D : D → D → Option D
  | .int m, .int n => some (.int (if n > m then n else m))
  | _, _ => none

/-! ### items -/
theorem atI_rp {G : Hp} {l : List D} {xs : List V} {i : Int} {d : D} (r : RpL C G l xs) (e : atI l i = some d) : ∃ x, atI xs i = some x ∧ Rp C G d x := by
  unfold atI at *
  obtain ⟨j, e1, e2⟩ := Option.bind_eq_some_iff.mp e
  obtain ⟨x, e3, rx⟩ := r.get e2
  exact ⟨x, by rw [r.length, e1]; exact e3, rx⟩
def ixD : D → D → Option D
  | .lst l, .int i => atI l i
  | .tup l, .int i => atI l i
  | .str z, .int i => if z.length ≤ sizeLine then (atI z.cps.toList i).map fun c => .str ⟨#[c]⟩ else none
  | _, _ => none
def rIxA (K : PySem.W.Frag) : R2 := fun x y H Q => rIxL K x y H Q ∨ (rIxT K x y H Q ∨ rIxS x y H Q)
theorem ix_any : IxR X (rIxA X.K) := ix_list.or (ix_tup.or ix_str)
theorem ok_ix : OpOk C (rIxA C.K) ixD := fun G H x y a b d Q le ra rb e q => by
  cases a <;> cases b <;> first | (cases e; done) | skip
  · simp only [ixD] at e
    split at e
    · rename_i hz
      obtain ⟨c, e1, rfl⟩ := Option.map_eq_some_iff.mp e
      cases ra; cases rb
      exact .inr (.inr ⟨_, _, c, rfl, rfl, hz, e1, q.now le rfl⟩)
    · cases e
  · obtain ⟨p, xs, rfl, h1, h2⟩ := ra
    cases rb
    obtain ⟨v, e1, rv⟩ := atI_rp h2 e
    exact .inl ⟨p, xs, _, v, rfl, rfl, le_l le h1, e1, q.now le rv⟩
  · obtain ⟨p, xs, rfl, h1, h2⟩ := ra
    cases rb
    obtain ⟨v, e1, rv⟩ := atI_rp h2 e
    exact .inr (.inl ⟨p, xs, _, v, rfl, rfl, le_t le h1, e1, q.now le rv⟩)
theorem pd_ix {a b : Expr} {pos : Pos} {fa fb : M D} (hC : C.K = X.K) (ha : PE X a (dE C W fa)) (hb : PE X b (dE C W fb)) (hs : PlainIx b := by exact fun _ _ => rfl) : PE X (.Subscript a b pos) (dE C W (op2 ixD fa fb)) :=
  pe_mono (pe_ix (r := rIxA C.K) (hC ▸ ix_any) ha hb hs) fun _ _ _ h => dE_op ok_ix h
end
end Pd

set_option maxHeartbeats 4000000
namespace Pd
open PySem PySem.Spec PyProof.Rows L2

theorem RpL.drop {C : Ct} {G : Hp} : ∀ {l : List D} {xs : List V} (n : Nat), RpL C G l xs → RpL C G (l.drop n) (xs.drop n)
  | _, _, 0, r => r
  | [], _, _ + 1, r => by cases r; rfl
  | _ :: _, _, n + 1, r => by
    obtain ⟨x, s, rfl, _, h2⟩ := r
    exact RpL.drop n h2
theorem RpL.take {C : Ct} {G : Hp} : ∀ {l : List D} {xs : List V} (n : Nat), RpL C G l xs → RpL C G (l.take n) (xs.take n)
  | _, _, 0, r => rfl
  | [], _, _ + 1, r => by cases r; rfl
  | _ :: _, _, n + 1, r => by
    obtain ⟨x, s, rfl, h1, h2⟩ := r
    exact ⟨x, s.take n, rfl, h1, RpL.take n h2⟩
section
variable {C : Ct} {W : WX} {X : Cx}
/-! ### slices -/
def dO (f : M (Option Int)) : TO := fun σ H Q => ∃ G ρ α, Wf C G H σ ρ α ∧ Rn C W (fun _ a b => b = a) f σ G H ρ α Q
theorem po_mono {e : Option Expr} {t t' : TO} (h : PO X e t) (k : ∀ σ H Q, t' σ H Q → t σ H Q) : PO X e t' := ⟨fun pins s σ H Q I q => h.run pins s σ H Q I (k σ H Q q)⟩
def partM (f : M D) : M (Option Int) := f >>= fun d => match d with
  | .int i => pure (some i)
  | _ => no
theorem pd_pnone : PO X none (dO (C := C) (W := W) (pure none)) := po_mono po_none fun σ H Q h => by
  obtain ⟨G, ρ, α, w, h⟩ := h
  exact h none G H α (.refl ..) w rfl
theorem pd_psome {e : Expr} {f : M D} (he : PE X e (dE C W f)) : PO X (some e) (dO (C := C) (W := W) (partM f)) := po_mono (po_some he) fun σ H Q h => by
  obtain ⟨G, ρ, α, w, h⟩ := h
  refine ⟨G, ρ, α, w, (Rn.bind (R' := RpE C) h).mono fun x H1 ⟨G1, ρ1, α1, a, w1, s1, ra, h1⟩ => ?_⟩
  cases a <;> first | (exact h1.elim) | skip
  cases ra
  exact ⟨_, rfl, h1 _ _ _ _ (.refl ..) w1 rfl⟩
def cut {β : Type} (xs : List β) (lo hi : Option Int) : List β := (xs.drop (HT.sIx xs.length 0 lo)).take (HT.sIx xs.length xs.length hi - HT.sIx xs.length 0 lo)
theorem cut_rp {G : Hp} {l : List D} {xs : List V} {lo hi : Option Int} (r : RpL C G l xs) : RpL C G (cut l lo hi) (cutV xs lo hi) := by
  unfold cut cutV
  rw [← r.length]
  exact (r.drop _).take _
def slD (d : D) (lo hi : Option Int) : Option D := match d with
  | .lst l => some (.lst (cut l lo hi))
  | .tup l => some (.tup (cut l lo hi))
  | .str z => if z.length ≤ sizeLine then some (.str (cutS z lo hi)) else none
  | _ => none
def sliceM (f : M D) (lo hi : M (Option Int)) : M D := f >>= fun d => lo >>= fun l => hi >>= fun h => opt (slD d l h)
def rSlAny (K : PySem.W.Frag) : V → Option Int → Option Int → Hp → VK → Prop := fun x lo hi H Q => rSlL K x lo hi H Q ∨ (rSlA K x lo hi H Q ∨ rSlS x lo hi H Q)
theorem sl_any : SlR X (rSlAny X.K) := sl_list.or (sl_tupA.or sl_str)
theorem cut_all {l : List D} {lo hi : Option Int} (h : HT.sIx l.length 0 lo = 0 ∧ HT.sIx l.length l.length hi = l.length) : cut l lo hi = l := by
  unfold cut
  rw [h.1, h.2, Nat.sub_zero, List.drop_zero, List.take_length]
theorem pd_slice {e : Expr} {lo hi : Option Expr} {pos p2 : Pos} {f : M D} {fl fh : M (Option Int)} (hC : C.K = X.K) (he : PE X e (dE C W f)) (hl : PO X lo (dO (C := C) (W := W) fl)) (hh : PO X hi (dO (C := C) (W := W) fh)) :
    PE X (.Subscript e (.Slice lo hi none p2) pos) (dE C W (sliceM f fl fh)) :=
  pe_mono (pe_slice (r := rSlAny C.K) (hC ▸ sl_any) he hl hh) fun σ H Q h => by
    obtain ⟨G, ρ, α, w, h⟩ := h
    refine ⟨G, ρ, α, w, (Rn.bind (R' := RpE C) h).mono fun x H1 ⟨G1, ρ1, α1, a, w1, s1, ra, h1⟩ => ?_⟩
    refine ⟨G1, ρ1, α1, w1, (Rn.bind (R' := fun _ a b => b = a) h1).mono fun l H2 ⟨G2, ρ2, α2, lo', w2, s2, rl, h2⟩ => ?_⟩
    refine ⟨G2, ρ2, α2, w2, (Rn.bind (R' := fun _ a b => b = a) h2).mono fun u H3 ⟨G3, ρ3, α3, hi', w3, s3, rh, h3⟩ => ?_⟩
    cases rl; cases rh
    obtain ⟨d, e, q⟩ := rn_opt w3 h3
    have ra3 : Rp C G3 a x := Rp.mono (s2.gg.trans s3.gg) ra
    cases a <;> first | (cases e; done) | skip
    · simp only [slD] at e
      split at e
      · rename_i hz
        cases e; cases ra3
        exact .inr (.inr ⟨_, rfl, hz, q.now w3.le rfl⟩)
      · cases e
    · cases e
      obtain ⟨p, xs, rfl, k1, k2⟩ := ra3
      exact .inl ⟨p, xs, rfl, le_l w3.le k1, giv_lst q w3.le (cut_rp k2)⟩
    · cases e
      obtain ⟨p, xs, rfl, k1, k2⟩ := ra3
      refine .inr (.inl ⟨p, xs, rfl, le_t w3.le k1, fun z => ?_, fun _ => giv_tup q w3.le (cut_rp k2)⟩)
      refine q.now w3.le ⟨p, xs, rfl, k1, ?_⟩
      rw [cut_all (by rw [← k2.length]; exact z)]
      exact k2

/-! ### texts: methods, f-strings -/
def splitD : D → D → Option D
  | .str a, .str b => if (b.length == 0) = false ∧ a.length + 2 ≤ sizeLine then some (.lst ((Txt.split a b).map .str)) else none
  | _, _ => none
def partitionD : D → D → Option D
  | .str a, .str b => if (b.length == 0) = false ∧ a.length ≤ sizeLine then some (.tup [.str (Txt.partition a b).1, .str (Txt.partition a b).2.1, .str (Txt.partition a b).2.2]) else none
  | _, _ => none
def joinD : D → D → Option D
  | .str a, .lst l => (asStrs l).bind fun ys => if (ys.map (·.length)).sum + ys.length * a.length ≤ 16777216 then some (.str (Txt.join a ys)) else none
  | _, _ => none
/-- the receiver is asked first whether it is a text -/
def m1M (g : D → D → Option D) (fa fb : M D) : M D := fa >>= fun a => match a with
  | .str z => fb >>= fun b => opt (g (.str z) b)
  | _ => no
theorem dE_m1' {r : V → List V → Hp → VK → Prop} {g : D → D → Option D} (ok : ∀ G H z y b d Q, Le G H → Rp C G b y → g (.str z) b = some d → Giv C G H d Q → r (.str z) [y] H Q)
    {fa fb : M D} {σ : L2.St} {H : Hp} {Q : VK} (h : dE C W (m1M g fa fb) σ H Q) : tM1 r (dE C W fa) (dE C W fb) σ H Q := by
  obtain ⟨G, ρ, α, w, h⟩ := h
  refine ⟨G, ρ, α, w, (Rn.bind (R' := RpE C) h).mono fun x H1 ⟨G1, ρ1, α1, a, w1, s1, ra, h1⟩ => ?_⟩
  cases a <;> first | (exact h1.elim) | skip
  cases ra
  refine ⟨⟨_, rfl⟩, G1, ρ1, α1, w1, (Rn.bind (R' := RpE C) h1).mono fun y H2 ⟨G2, ρ2, α2, b, w2, s2, rb, h2⟩ => ?_⟩
  obtain ⟨d, e, q⟩ := rn_opt w2 h2
  exact ok G2 H2 _ y b d Q w2.le rb e q
theorem pd_split {o e : Expr} {apos pos : Pos} {fa fb : M D} (ho : PE X o (dE C W fa)) (he : PE X e (dE C W fb)) (hs : starEach [e] X.env = [(false, eval e X.env)] := by rfl) (hbase : attributeBase o "split" X.env (eval o X.env) = eval o X.env := by rfl) (hline : (apos.endLine == pos.line) = true := by rfl) :
    PE X (.Call (.Attribute o "split" apos) [e] [] pos) (dE C W (m1M splitD fa fb)) :=
  pe_mono (pe_split ho he hs hbase hline) fun _ _ _ h => dE_m1' (fun G H z y b d Q le rb e q => by
    cases b <;> first | (cases e; done) | skip
    cases rb
    simp only [splitD] at e
    split at e
    · rename_i hz
      cases e
      refine ⟨_, _, rfl, rfl, hz.1, hz.2, fun p n => giv_lst q le (rpL_strs _) p n⟩
    · cases e) h
theorem pd_partition {o e : Expr} {apos pos : Pos} {fa fb : M D} (ho : PE X o (dE C W fa)) (he : PE X e (dE C W fb)) (hs : starEach [e] X.env = [(false, eval e X.env)] := by rfl) (hbase : attributeBase o "partition" X.env (eval o X.env) = eval o X.env := by rfl) (hline : (apos.endLine == pos.line) = true := by rfl) :
    PE X (.Call (.Attribute o "partition" apos) [e] [] pos) (dE C W (m1M partitionD fa fb)) :=
  pe_mono (pe_partition ho he hs hbase hline) fun _ _ _ h => dE_m1' (fun G H z y b d Q le rb e q => by
    cases b <;> first | (cases e; done) | skip
    cases rb
    simp only [partitionD] at e
    split at e
    · rename_i hz
      cases e
      exact ⟨_, _, rfl, rfl, hz.1, hz.2, fun p n => giv_tup q le ⟨_, _, rfl, rfl, _, _, rfl, rfl, _, _, rfl, rfl, rfl⟩ p n⟩
    · cases e) h
theorem pd_join {o e : Expr} {apos pos : Pos} {fa fb : M D} (hC : C.K = X.K) (ho : PE X o (dE C W fa)) (he : PE X e (dE C W fb)) (hs : starEach [e] X.env = [(false, eval e X.env)] := by rfl) (hbase : attributeBase o "join" X.env (eval o X.env) = eval o X.env := by rfl) (hline : (apos.endLine == pos.line) = true := by rfl) :
    PE X (.Call (.Attribute o "join" apos) [e] [] pos) (dE C W (m1M joinD fa fb)) :=
  pe_mono (pe_join ho he hs hbase hline) fun _ _ _ h => dE_m1' (fun G H z y b d Q le rb e q => by
    cases b <;> first | (cases e; done) | skip
    obtain ⟨p, xs, rfl, k1, k2⟩ := rb
    simp only [joinD] at e
    obtain ⟨ys, e1, e2⟩ := Option.bind_eq_some_iff.mp e
    split at e2
    · rename_i hz
      cases e2
      have z := rp_strs e1 k2
      subst z
      exact ⟨_, p, ys, rfl, rfl, .inl (hC ▸ le_l le k1), hz, q.now le rfl⟩
    · cases e2) h
/-- {x} in an f-string -/
def fmtD : D → Option D
  | .str y => if y.length ≤ sizeLine then some (.str y) else none
  | .int i => if i.natAbs.log2 < 1920 then some (.str (toString i : Str)) else none
  | _ => none
theorem pd_fmt {e : Expr} {pos : Pos} {f : M D} (he : PE X e (dE C W f)) : PE X (.FormattedValue e (-1) none pos) (dE C W (unD fmtD f)) :=
  pe_mono (pe_fmt he) fun σ H Q h => by
    obtain ⟨G, ρ, α, w, h⟩ := h
    refine ⟨G, ρ, α, w, (Rn.bind (R' := RpE C) h).mono fun x H1 ⟨G1, ρ1, α1, a, w1, s1, ra, h1⟩ => ?_⟩
    obtain ⟨d, e, q⟩ := rn_opt w1 h1
    cases a <;> first | (cases e; done) | skip
    · simp only [fmtD] at e
      split at e
      · rename_i hz
        cases e; cases ra
        exact .inr ⟨_, rfl, hz, q.now w1.le rfl⟩
      · cases e
    · simp only [fmtD] at e
      split at e
      · rename_i hz
        cases e; cases ra
        exact .inl ⟨_, rfl, hz, q.now w1.le rfl⟩
      · cases e
def joinedM : List (M D) → Str → M D
  | [], acc => pure (.str acc)
  | f :: fs, acc => f >>= fun d => match d with
    | .str y => bnd (acc ++ y).length (joinedM fs (acc ++ y))
    | _ => no
theorem dE_joined {σ : L2.St} {Q : VK} : ∀ (fs : List (M D)) (acc : Str) (H : Hp), (∃ G ρ α, Wf C G H σ ρ α ∧ Rn C W (RpE C) (joinedM fs acc) σ G H ρ α Q) → tJs (fs.map (dE C W)) acc σ H fun out H1 => Q (.str out) H1
  | [], acc, H, h => by
    obtain ⟨G, ρ, α, w, h⟩ := h
    exact (rn_pure w h).now w.le rfl
  | f :: fs, acc, H, h => by
    obtain ⟨G, ρ, α, w, h⟩ := h
    refine ⟨G, ρ, α, w, (Rn.bind (R' := RpE C) h).mono fun x H1 ⟨G1, ρ1, α1, a, w1, s1, ra, h1⟩ => ?_⟩
    cases a <;> first | (exact h1.elim) | skip
    cases ra
    obtain ⟨hz, h2⟩ := rn_bnd h1
    exact ⟨_, rfl, hz, dE_joined fs _ H1 ⟨G1, ρ1, α1, w1, h2⟩⟩
theorem pd_joined {v1 v2 : Expr} {rest : List Expr} {fs : List (M D)} {pos : Pos} (h : PJ X (v1 :: v2 :: rest) (fs.map (dE C W))) : PE X (.JoinedStr (v1 :: v2 :: rest) pos) (dE C W (joinedM fs Str.empty)) :=
  pe_mono (pe_joined h) fun _ _ _ h => dE_joined fs _ _ h
theorem pdj_nil : PJ X [] (([] : List (M D)).map (dE C W)) := .nil
theorem pdj_cons {e : Expr} {es : List Expr} {f : M D} {fs : List (M D)} (h : PE X e (dE C W f)) (r : PJ X es (fs.map (dE C W))) : PJ X (e :: es) ((f :: fs).map (dE C W)) := .cons h r
end
end Pd

set_option maxHeartbeats 4000000
namespace Pd
open PySem PySem.Spec PyProof.Rows L2

/-! ### a look at lists of one's own: the value does not stay -/
def frz1 : Slot → Slot
  | .ls l => .va (.lst l)
  | .ow t => .va t.toD
  | .pa _ _ => .un
  | s => s
def frz (ρ : Ev) : Ev := ρ.map frz1
def scalar : D → Bool
  | .non => true | .bl _ => true | .int _ => true | .str _ => true
  | _ => false
theorem bind_ok {β γ : Type} {m : M β} {k : β → M γ} {ρ ρ' : Ev} {b : β} (e : m ρ = .ok b ρ') : (m >>= k) ρ = k b ρ' := by
  show M.bind m k ρ = _
  unfold M.bind
  rw [e]
theorem bind_ex {β γ : Type} {m : M β} {k : β → M γ} {ρ ρ' : Ev} {c : Str} {l : List D} (e : m ρ = .ex c l ρ') : (m >>= k) ρ = .ex c l ρ' := by
  show M.bind m k ρ = _
  unfold M.bind
  rw [e]
theorem bind_no {β γ : Type} {m : M β} {k : β → M γ} {ρ : Ev} (e : m ρ = .no) : (m >>= k) ρ = .no := by
  show M.bind m k ρ = _
  unfold M.bind
  rw [e]
def peek (f : M D) : M D := fun ρ => match f (frz ρ) with
  | .ok d _ => if scalar d then .ok d ρ else .no
  | _ => .no
theorem scalar_rp {C : Ct} {G G' : Hp} {d : D} {v : V} (h : scalar d = true) (r : Rp C G d v) : Rp C G' d v := by
  cases d <;> first | exact r | (simp [scalar] at h)
theorem frz_at {ρ : Ev} {i : Nat} : (frz ρ)[i]? = (ρ[i]?).map frz1 := by unfold frz; rw [List.getElem?_map]

section
variable {C : Ct} {W : WX} {X : Cx}
open Classical in
theorem Wf.frzAll {G H : Hp} {σ : L2.St} {ρ : Ev} {α : Nat → List Addr} (w : Wf C G H σ ρ α) :
    ∃ G', Le G G' ∧ (∀ i a, a ∈ α i → G' a = H a) ∧ Wf C G' H σ (frz ρ) noα := by
  let G' : Hp := fun a => if ∃ i, a ∈ α i then H a else G a
  have gin : ∀ i a, a ∈ α i → G' a = H a := fun i a m => if_pos ⟨i, m⟩
  have gout : ∀ a, (¬ ∃ i, a ∈ α i) → G' a = G a := fun a h => if_neg h
  have gg : Le G G' := fun a o e => by
    have n : ¬ ∃ i, a ∈ α i := fun ⟨i, m⟩ => by
      have := (w.ng i a m).1
      rw [this] at e; cases e
    rw [gout a n]; exact e
  refine ⟨G', gg, gin, ⟨fun a o e => ?_, ?_, fun i x r e1 e2 => ?_, fun i _ => rfl, fun i => List.nodup_nil, (fun i j a m1 _ => nomatch m1), (fun i a m => nomatch m)⟩⟩
  · by_cases n : ∃ i, a ∈ α i
    · obtain ⟨i, h2⟩ := n
      rw [gin i a h2] at e; exact e
    · rw [gout a n] at e; exact w.le a o e
  · unfold frz; rw [List.length_map]; exact w.len
  · rw [frz_at] at e2
    obtain ⟨s, e3, rfl⟩ := Option.map_eq_some_iff.mp e2
    have k := w.sl i x s e1 e3
    show SlotOk C G' H x (frz1 s) []
    cases s with
    | un => exact rfl
    | va d =>
      obtain ⟨k1, v, k2, k3⟩ := k
      exact ⟨rfl, v, k2, k3.mono gg⟩
    | ls l =>
      obtain ⟨p, xs, k1, k2, k3, k4⟩ := k
      refine ⟨rfl, .ref p, k1, p, xs, rfl, ?_, k4.mono gg⟩
      refine .of ?_
      rw [gin i p (by rw [k2]; exact List.mem_singleton.mpr rfl)]
      exact k3
    | sc ns =>
      obtain ⟨k1, p, k2, k3⟩ := k
      exact ⟨rfl, p, k2, le_l gg k3⟩
    | ow t =>
      obtain ⟨k1, v, k2, k3⟩ := k
      exact ⟨rfl, v, k2, k3.toD gg fun a m => gin i a (by rw [k1]; exact m)⟩
    | pa k d => exact rfl
theorem peek_core {ρ' : Ev} {σ : L2.St} {G H G' G2 H2 : Hp} {ρ : Ev} {α α2 : Nat → List Addr} (w : Wf C G H σ ρ α) (gg : Le G G') (gin : ∀ i a, a ∈ α i → G' a = H a)
    (st : Step G' H noα G2 H2 α2) (w2 : Wf C G2 H2 σ ρ' α2) : Step G H α G H2 α ∧ Wf C G H2 σ ρ α := by
  have hh : Le H H2 := st.le fun _ => rfl
  have cell : ∀ i a, a ∈ α i → H2 a = H a := fun i a m => by
    obtain ⟨_, o, h⟩ := w.ng i a m
    rw [hh a o h, h]
  refine ⟨⟨Le.refl G, fun a o e _ => hh a o e, fun a o e => .inl e, fun i a m => .inl ⟨i, m⟩, st.fz⟩, ⟨fun a o e => hh a o (w.le a o e), w.len, fun i x r e1 e2 => (w.sl i x r e1 e2).keep (Le.refl G) fun a m => cell i a m, w.out, w.nd, w.dj, fun i a m => ?_⟩⟩
  obtain ⟨k1, o, k2⟩ := w.ng i a m
  exact ⟨k1, o, by rw [cell i a m]; exact k2⟩
theorem dE_peek {f : M D} {σ : L2.St} {H : Hp} {Q : VK} (h : dE C W (peek f) σ H Q) : dE C W f σ H Q := by
  obtain ⟨G, ρ, α, w, h⟩ := h
  obtain ⟨G', gg, gin, w'⟩ := w.frzAll
  refine ⟨G', frz ρ, _, w', ?_⟩
  unfold Rn peek at h
  unfold Rn
  cases e : f (frz ρ) with
  | no => rw [e] at h; exact h
  | ex c l ρ' => rw [e] at h; exact h.elim
  | ok d ρ' =>
    rw [e] at h
    simp only at h
    by_cases hs : scalar d = true
    · rw [if_pos hs] at h
      intro v G2 H2 α2 st w2 rv
      obtain ⟨st3, w3⟩ := peek_core w gg gin st w2
      exact h v G H2 α st3 w3 (scalar_rp hs rv)
    · rw [if_neg hs] at h; exact h.elim
theorem dT_peek {f : M D} {σ : L2.St} {H : Hp} {Q : Bool → Hp → Prop} (h : dT C W (tst (peek f)) σ H Q) : dT C W (tst f) σ H Q := by
  obtain ⟨G, ρ, α, w, h⟩ := h
  obtain ⟨G', gg, gin, w'⟩ := w.frzAll
  refine ⟨G', frz ρ, _, w', ?_⟩
  unfold Rn at h ⊢
  cases e : f (frz ρ) with
  | no =>
    unfold tst at h
    rw [bind_no (show peek f ρ = .no by unfold peek; rw [e])] at h
    exact h.elim
  | ex c l ρ' =>
    unfold tst at h
    rw [bind_no (show peek f ρ = .no by unfold peek; rw [e])] at h
    exact h.elim
  | ok d ρ' =>
    by_cases hs : scalar d = true
    · unfold tst at h ⊢
      rw [bind_ok (show peek f ρ = .ok d ρ by unfold peek; rw [e]; exact if_pos hs)] at h
      rw [bind_ok e]
      cases d <;> first | (exact h.elim) | skip
      intro c G2 H2 α2 st w2 rc
      obtain ⟨st3, w3⟩ := peek_core w gg gin st w2
      exact h c G H2 α st3 w3 rc
    · unfold tst at h
      rw [bind_no (show peek f ρ = .no by unfold peek; rw [e]; exact if_neg hs)] at h
      exact h.elim
theorem pd_peek {e : Expr} {f : M D} (h : PE X e (dE C W f)) : PE X e (dE C W (peek f)) := pe_mono h fun _ _ _ h => dE_peek h
theorem pd_tpeek {e : Expr} {f : M D} (h : PT X e (dT C W (tst f))) : PT X e (dT C W (tst (peek f))) := pt_mono h fun σ H Q h => dT_peek h
/-! ### items and length of a list that stays one's own -/
theorem Rn.eq {β γ : Type} {R : Hp → β → γ → Prop} {m m' : M β} {σ : L2.St} {G H : Hp} {ρ : Ev} {α : Nat → List Addr} {Q : γ → Hp → Prop} (e : m ρ = m' ρ) (h : Rn C W R m σ G H ρ α Q) : Rn C W R m' σ G H ρ α Q := by
  unfold Rn at *
  rw [← e]
  exact h
theorem Rn.no {β γ : Type} {R : Hp → β → γ → Prop} {m : M β} {σ : L2.St} {G H : Hp} {ρ : Ev} {α : Nat → List Addr} {Q : γ → Hp → Prop} (e : m ρ = .no) (h : Rn C W R m σ G H ρ α Q) : False := by
  unfold Rn at h
  rw [e] at h
  exact h
def has (i : Nat) (ρ : Ev) : Bool := match ρ[i]? with
  | some (.va _) => true
  | some (.ls _) => true
  | _ => false
theorem has_val {G H : Hp} {σ : L2.St} {ρ : Ev} {α : Nat → List Addr} {i : Nat} (w : Wf C G H σ ρ α) (h : has i ρ = true) : ∃ v, σ[i]? = some (some v) := by
  unfold has at h
  cases e : ρ[i]? with
  | none => rw [e] at h; cases h
  | some r =>
    rw [e] at h
    have hs : i < σ.length := by rw [w.len]; exact (List.getElem?_eq_some_iff.mp e).1
    have k := w.sl i σ[i] r (List.getElem?_eq_getElem hs) e
    cases r <;> first | (cases h; done) | skip
    · obtain ⟨_, v, k2, _⟩ := k
      exact ⟨v, by rw [List.getElem?_eq_getElem hs, k2]⟩
    · obtain ⟨p, _, k1, _⟩ := k
      exact ⟨.ref p, by rw [List.getElem?_eq_getElem hs, k1]⟩
/-- the data at a slot, as it stands -/
def look (i : Nat) (ρ : Ev) : Option D := match ρ[i]? with
  | some (.va d) => some d
  | some (.ls l) => some (.lst l)
  | _ => none
def withv (i : Nat) (fk : M D) (g : D → D → Option D) : M D := fun ρ => if has i ρ then (fk >>= fun k => fun ρ' => match look i ρ' with
  | some d => opt (g d k) ρ'
  | none => .no) ρ else .no
abbrev ixv (i : Nat) (fk : M D) : M D := withv i fk ixD
/-- what a slot's data gives at the heap itself: the items stand in G, the list's own cell in H -/
theorem look_at {G H : Hp} {σ : L2.St} {ρ : Ev} {α : Nat → List Addr} {i : Nat} {d : D} {v : V} (w : Wf C G H σ ρ α) (hv : σ[i]? = some (some v)) (h : look i ρ = some d) :
    Rp C G d v ∨ ∃ l p xs, d = .lst l ∧ v = .ref p ∧ H p = some (.lst xs) ∧ RpL C G l xs := by
  unfold look at h
  cases e : ρ[i]? with
  | none => rw [e] at h; cases h
  | some r =>
    rw [e] at h
    have k := w.sl i _ r hv e
    cases r <;> first | (cases h; done) | skip
    · cases h
      obtain ⟨_, v', k2, k3⟩ := k
      cases k2
      exact .inl k3
    · cases h
      obtain ⟨p, xs, k1, _, k3, k4⟩ := k
      cases k1
      exact .inr ⟨_, p, xs, rfl, rfl, k3, k4⟩
theorem pd_ixv (i : Nat) {b : Expr} {x : Str} {pos p2 : Pos} {fk : M D} (hC : C.K = X.K) (hb : PE X b (dE C W fk)) (hs : PlainIx b := by exact fun _ _ => rfl)
    (hN : X.N[i]? = some x := by rfl) (hv : Vis X.env.scope x := by first | exact Or.inl rfl | exact Or.inr (Or.inl rfl) | exact Or.inr (Or.inr rfl)) (hd : (x == ("__debug__" : Str)) = false := by decide)
    (hcd : (x == ("__classdict__" : Str)) = false := by decide) : PE X (.Subscript (.Name x p2) b pos) (dE C W (ixv i fk)) :=
  pe_mono (pe_ix (r := rIxA C.K) (hC ▸ ix_any) (pe_var (i := i) hN hv hd hcd) hb hs) fun σ H Q h => by
    obtain ⟨G, ρ, α, w, h⟩ := h
    by_cases hh : has i ρ = true
    · obtain ⟨v, ev⟩ := has_val w hh
      have h' : Rn C W (RpE C) (fk >>= fun k => fun ρ' => match look i ρ' with
        | some d => opt (ixD d k) ρ'
        | none => .no) σ G H ρ α Q := h.eq (if_pos hh)
      refine ⟨v, ev, G, ρ, α, w, (Rn.bind (R' := RpE C) h').mono fun y H1 ⟨G1, ρ1, α1, k, w1, s1, rk, h1⟩ => ?_⟩
      cases el : look i ρ1 with
      | none => exact (h1.no (by simp only [el])).elim
      | some d =>
        have h2 : Rn C W (RpE C) (opt (ixD d k)) σ G1 H1 ρ1 α1 Q := h1.eq (by simp only [el])
        obtain ⟨r, e, q⟩ := rn_opt w1 h2
        rcases look_at w1 ev el with rv | ⟨l, p, xs, rfl, rfl, k1, k2⟩
        · exact ok_ix G1 H1 v y d k r Q w1.le rv rk e q
        · cases k <;> first | (cases e; done) | skip
          cases rk
          obtain ⟨z, e1, rz⟩ := atI_rp k2 e
          exact .inl ⟨p, xs, _, z, rfl, rfl, .of k1, e1, q.now w1.le rz⟩
    · exact (h.no (if_neg hh)).elim
/-- len of a name -/
def lenv (i : Nat) : M D := fun ρ => match look i ρ with
  | some d => opt (lenD d) ρ
  | none => .no
theorem pd_lenv (i : Nat) {x : Str} {pos p1 p2 : Pos} (hC : C.K = X.K) (hg : Gl X "len") (hm : X.mg "len" = none) (hN : X.N[i]? = some x := by rfl) (hv : Vis X.env.scope x := by first | exact Or.inl rfl | exact Or.inr (Or.inl rfl) | exact Or.inr (Or.inr rfl)) (hd : (x == ("__debug__" : Str)) = false := by decide)
    (hcd : (x == ("__classdict__" : Str)) = false := by decide) (he : starEach [(.Name x p2 : Expr)] X.env = (false, eval (.Name x p2) X.env) :: starEach [] X.env := by rfl) (hpl : (backTo pos (starEach [] X.env)).any (·.1) = false := by rfl) :
    PE X (.Call (.Name "len" p1) [.Name x p2] [] pos) (dE C W (lenv i)) :=
  pe_mono (pe_callB call_len hg hm PySem.boot_len (pa_cons (pe_var (i := i) hN hv hd hcd) pa_nil he) (by decide) (by decide) he hpl) fun σ H Q h => by
    obtain ⟨G, ρ, α, w, h⟩ := h
    cases el : look i ρ with
    | none => exact (h.no (by unfold lenv; rw [el])).elim
    | some d =>
      have h2 : Rn C W (RpE C) (opt (lenD d)) σ G H ρ α Q := h.eq (by unfold lenv; rw [el])
      obtain ⟨r, e, q⟩ := rn_opt w h2
      have hh : has i ρ = true := by
        unfold look at el
        unfold has
        cases z : ρ[i]? with
        | none => rw [z] at el; cases el
        | some r => rw [z] at el; cases r <;> first | rfl | cases el
      obtain ⟨v, ev⟩ := has_val w hh
      refine ⟨v, ev, v, ?_⟩
      rcases look_at w ev el with rv | ⟨l, p, xs, rfl, rfl, k1, k2⟩
      · obtain ⟨n, rfl, z⟩ := lenV_of w.le rv e
        exact ⟨n, rfl, hC ▸ z, q.now w.le rfl⟩
      · cases e
        exact ⟨l.length, rfl, .inl ⟨xs, .of k1, k2.length.symm⟩, q.now w.le rfl⟩
end
end Pd

set_option maxHeartbeats 4000000
namespace Pd
open PySem PySem.Spec PyProof.Rows L2

section
variable {C : Ct} {W : WX} {X : Cx}
/-! ### targets -/
def put (i : Nat) (r : Slot) (ρ : Ev) : Ev := ρ.set i r
def setv (i : Nat) (d : D) : M Unit := fun ρ => if i < ρ.length then .ok () (ρ.set i (.va d)) else .no
abbrev offα (i : Nat) (α : Nat → List Addr) : Nat → List Addr := fun j => if j = i then [] else α j
theorem offα_sub {i j : Nat} {α : Nat → List Addr} {a : Addr} (m : a ∈ offα i α j) : j ≠ i ∧ a ∈ α j := by
  unfold offα at m
  by_cases z : j = i
  · rw [if_pos z] at m; cases m
  · rw [if_neg z] at m; exact ⟨z, m⟩
theorem Step.off (G H : Hp) (α : Nat → List Addr) (i : Nat) : Step G H α G H (offα i α) := ⟨Le.refl G, fun _ _ h _ => h, fun _ _ h => .inl h, fun j a m => .inl ⟨j, (offα_sub m).2⟩, fun _ _ _ e => e⟩
theorem Wf.setv {G H : Hp} {σ : L2.St} {ρ : Ev} {α : Nat → List Addr} {i : Nat} {d : D} {v : V} (w : Wf C G H σ ρ α) (hi : i < ρ.length) (r : Rp C G d v) : Wf C G H (σ.set i (some v)) (ρ.set i (.va d)) (offα i α) where
  le := w.le
  len := by rw [List.length_set, List.length_set]; exact w.len
  sl := fun j x s e1 e2 => by
    by_cases z : j = i
    · subst z
      rw [List.getElem?_set_self (by rw [w.len]; exact hi)] at e1
      rw [List.getElem?_set_self hi] at e2
      cases e1; cases e2
      show SlotOk C G H _ _ (if j = j then [] else α j)
      rw [if_pos rfl]
      exact ⟨rfl, v, rfl, r⟩
    · rw [List.getElem?_set_ne (Ne.symm z)] at e1 e2
      show SlotOk C G H _ _ (if j = i then [] else α j)
      rw [if_neg z]
      exact w.sl j x s e1 e2
  out := fun j hj => by
    rw [List.length_set] at hj
    show (if j = i then [] else α j) = []
    split
    · rfl
    · exact w.out j hj
  nd := fun j => by
    show (if j = i then ([] : List Addr) else α j).Nodup
    split
    · exact List.nodup_nil
    · exact w.nd j
  dj := fun j k a m1 m2 => w.dj j k a (offα_sub m1).2 (offα_sub m2).2
  ng := fun j a m => w.ng j a (offα_sub m).2
def RnG (C : Ct) (vs : List Nat) (m : M Unit) (σ : L2.St) (G H : Hp) (ρ : Ev) (α : Nat → List Addr) (Q : L2.St → Hp → Prop) : Prop := match m ρ with
  | .ok _ ρ' => ∀ σ' G' H' α', Step G H α G' H' α' → Wf C G' H' σ' ρ' α' → σ'.length = σ.length → (∀ j, j ∉ vs → σ'[j]? = σ[j]?) → Q σ' H'
  | _ => False
def dG (C : Ct) (vs : List Nat) (bt : D → M Unit) : TG := fun v σ H Q => ∃ G ρ α d, Wf C G H σ ρ α ∧ Rp C G d v ∧ RnG C vs (bt d) σ G H ρ α Q
def dGs (C : Ct) (vs : List Nat) (bt : List D → M Unit) : TGs := fun us σ H Q => ∃ G ρ α l, Wf C G H σ ρ α ∧ RpL C G l us ∧ RnG C vs (bt l) σ G H ρ α Q
theorem pg_mono {e : Expr} {t t' : TG} (h : PG X e t) (k : ∀ v σ H Q, t' v σ H Q → t v σ H Q) : PG X e t' := ⟨fun pins s σ H v u Q I r q => h.run pins s σ H v u Q I r (k v σ H Q q)⟩
theorem pgs_mono {es : List Expr} {t t' : TGs} (h : PGs X es t) (k : ∀ v σ H Q, t' v σ H Q → t v σ H Q) : PGs X es t' := ⟨fun pins s σ H v u Q I r q => h.run pins s σ H v u Q I r (k v σ H Q q)⟩
theorem pd_gname (i : Nat) {x : Str} {pos : Pos} (hN : X.N.Nodup) (hi : X.N[i]? = some x) (hx : Loc X.env.scope x) (hf : X.fn x = true ∨ X.env.scope.names.lookup x = some .local := by first | exact .inl rfl | exact .inr rfl | assumption) : PG X (.Name x pos) (dG C [i] (setv i)) :=
  pg_mono (pg_name (i := i) hN hi hx hf) fun v σ H Q h => by
    obtain ⟨G, ρ, α, d, w, r, h⟩ := h
    unfold RnG Pd.setv at h
    by_cases hi : i < ρ.length
    · rw [if_pos hi] at h
      refine h _ G H _ (Step.off ..) (w.setv hi r) (List.length_set ..) fun j hj => ?_
      have : j ≠ i := fun z => hj (by rw [z]; exact List.mem_singleton.mpr rfl)
      rw [List.getElem?_set_ne (Ne.symm this)]
    · rw [if_neg hi] at h; exact h.elim
def gnil : List D → M Unit
  | [] => pure ()
  | _ => no
def gcons (b : D → M Unit) (bs : List D → M Unit) : List D → M Unit
  | d :: l => b d >>= fun _ => bs l
  | [] => no
theorem pd_gnil : PGs X [] (dGs C [] gnil) := pgs_mono pgs_nil fun us σ H Q h => by
  obtain ⟨G, ρ, α, l, w, r, h⟩ := h
  cases l with
  | nil =>
    cases r
    exact ⟨rfl, h σ G H α (.refl ..) w rfl fun _ _ => rfl⟩
  | cons => exact h.elim
theorem pd_gcons {e : Expr} {es : List Expr} {vs ws : List Nat} {b : D → M Unit} {bs : List D → M Unit} (h1 : PG X e (dG C vs b)) (h2 : PGs X es (dGs C ws bs)) (hs : (assignEach (e :: es) X.env).map (·.2) = assign e X.env :: (assignEach es X.env).map (·.2) := by rfl) :
    PGs X (e :: es) (dGs C (vs ++ ws) (gcons b bs)) := pgs_mono (pgs_cons h1 h2 hs) fun us σ H Q h => by
  obtain ⟨G, ρ, α, l, w, r, h⟩ := h
  cases l with
  | nil => exact h.elim
  | cons d l =>
    obtain ⟨x, xs, rfl, r1, r2⟩ := r
    refine ⟨x, xs, rfl, G, ρ, α, d, w, r1, ?_⟩
    unfold RnG at h ⊢
    cases e : b d ρ with
    | no => rw [show gcons b bs (d :: l) ρ = .no from bind_no e] at h; exact h.elim
    | ex c m ρ' => rw [show gcons b bs (d :: l) ρ = .ex c m ρ' from bind_ex e] at h; exact h.elim
    | ok u ρ1 =>
      rw [show gcons b bs (d :: l) ρ = bs l ρ1 from bind_ok e] at h
      intro σ1 G1 H1 α1 st w1 len1 out1
      refine ⟨G1, ρ1, α1, l, w1, r2.mono st.gg, ?_⟩
      unfold RnG
      cases e2 : bs l ρ1 with
      | no => rw [e2] at h; exact h
      | ex c m ρ' => rw [e2] at h; exact h
      | ok u ρ2 =>
        rw [e2] at h
        intro σ2 G2 H2 α2 st2 w2 len2 out2
        refine h σ2 G2 H2 α2 (st.trans st2) w2 (len2.trans len1) fun j hj => ?_
        have n1 : j ∉ vs := fun z => hj (List.mem_append_left _ z)
        have n2 : j ∉ ws := fun z => hj (List.mem_append_right _ z)
        rw [out2 j n2, out1 j n1]
def gtup (bs : List D → M Unit) : D → M Unit
  | .tup l => bs l
  | _ => no
theorem gcons_len {C : Ct} {n : Nat} {es : List Expr} : True := trivial
/-- a, b = a tuple -/
theorem pd_gtup {es : List Expr} {k : Nat} {pos : Pos} {vs : List Nat} {bs : List D → M Unit} {n : Nat} (hC : C.K = X.K) (hc : X.calm = true) (h : PGs X es (dGs C vs bs)) (hl : ∀ l ρ, l.length ≠ n → ∀ u ρ', bs l ρ ≠ .ok u ρ')
    (hn : (assignEach es X.env).length = n := by rfl) (hst : (assignEach es X.env).findIdx? (·.1) = none := by rfl) : PG X (.Tuple es k pos) (dG C vs (gtup bs)) :=
  pg_mono (pg_tup hc h hn hst) fun v σ H Q h => by
    obtain ⟨G, ρ, α, d, w, r, h⟩ := h
    cases d <;> first | (exact h.elim) | skip
    rename_i l
    obtain ⟨a, xs, rfl, r1, r2⟩ := r
    have h' : RnG C vs (bs l) σ G H ρ α Q := h
    refine ⟨a, xs, rfl, hC ▸ le_t w.le r1, ?_, G, ρ, α, l, w, r2, h'⟩
    rw [r2.length]
    refine Classical.byContradiction fun z => ?_
    unfold RnG at h'
    cases e : bs l ρ with
    | no => rw [e] at h'; exact h'
    | ex c m ρ' => rw [e] at h'; exact h'
    | ok u ρ' => exact hl l ρ z u ρ' e
theorem gnil_len : ∀ (l : List D) (ρ : Ev), l.length ≠ 0 → ∀ u ρ', gnil l ρ ≠ .ok u ρ'
  | [], _, h, _, _ => absurd rfl h
  | _ :: _, _, _, _, _ => fun e => by cases e
theorem gcons_len' {b : D → M Unit} {bs : List D → M Unit} {n : Nat} (h : ∀ (l : List D) (ρ : Ev), l.length ≠ n → ∀ u ρ', bs l ρ ≠ .ok u ρ') : ∀ (l : List D) (ρ : Ev), l.length ≠ n + 1 → ∀ u ρ', gcons b bs l ρ ≠ .ok u ρ'
  | [], _, _, _, _ => fun e => by cases e
  | d :: l, ρ, hn, u, ρ' => fun e => by
    have hl : l.length ≠ n := fun z => hn (by rw [List.length_cons, z])
    cases e1 : b d ρ with
    | no => rw [show gcons b bs (d :: l) ρ = .no from bind_no e1] at e; cases e
    | ex c m ρ2 => rw [show gcons b bs (d :: l) ρ = .ex c m ρ2 from bind_ex e1] at e; cases e
    | ok v ρ1 =>
      rw [show gcons b bs (d :: l) ρ = bs l ρ1 from bind_ok e1] at e
      exact h l ρ1 hl u ρ' e

/-! ### what is walked -/
/-- J gives the data of l, one turn after the other -/
def IterOk (C : Ct) (J : It) (l : List D) (G : Hp) : Prop := ∃ (Gd : Hp → Prop) (Y : Nat → Hp → V → Hp → Prop), Walk J l.length Gd Y ∧ (∀ G2 H2, Le G G2 → Le G2 H2 → Gd H2) ∧
  ∀ i H2 G2 x H3 d, Le G G2 → Le G2 H2 → l[i]? = some d → Y i H2 x H3 → ∃ G3, Ext G2 H2 G3 H3 ∧ Rp C G3 d x
def dI (C : Ct) (W : WX) (fi : M (List D)) : TI := fun σ H R => ∃ G ρ α, Wf C G H σ ρ α ∧ Rn C W (fun G l J => IterOk C J l G) fi σ G H ρ α R
theorem pi_mono {tg iter : Expr} {t t' : TI} (h : PI X tg iter t) (k : ∀ σ H R, t' σ H R → t σ H R) : PI X tg iter t' := ⟨fun pins s σ H R I q => h.run pins s σ H R I (k σ H R q)⟩
theorem iter_list {G : Hp} {p : Addr} {xs : List V} {l : List D} (h : SqL C.K G p xs) (r : RpL C G l xs) : IterOk C (Itl C.K p) l G := by
  refine ⟨fun H => SqL C.K H p xs, YAt xs, ?_, fun G2 H2 g le => le_l le (le_l g h), fun i H2 G2 x H3 d g le e y => ?_⟩
  · rw [← r.length]; exact walk_list
  · obtain ⟨rfl, y⟩ := y
    obtain ⟨x', e1, rx⟩ := r.get e
    rw [y] at e1; cases e1
    exact ⟨G2, .refl le, rx.mono g⟩
theorem iter_tup {G : Hp} {p : Addr} {xs : List V} {l : List D} (h : SqT C.K G p xs) (r : RpL C G l xs) : IterOk C (Itt C.K p) l G := by
  refine ⟨fun H => SqT C.K H p xs, YAt xs, ?_, fun G2 H2 g le => le_t le (le_t g h), fun i H2 G2 x H3 d g le e y => ?_⟩
  · rw [← r.length]; exact walk_tup
  · obtain ⟨rfl, y⟩ := y
    obtain ⟨x', e1, rx⟩ := r.get e
    rw [y] at e1; cases e1
    exact ⟨G2, .refl le, rx.mono g⟩
def asL : D → Option (List D)
  | .lst l => some l
  | _ => none
def asT : D → Option (List D)
  | .tup l => some l
  | _ => none
theorem pd_ilist {tg l : Expr} {f : M D} (hC : C.K = X.K) (h : PE X l (dE C W f)) : PI X tg l (dI C W (f >>= fun d => opt (asL d))) :=
  pi_mono (pi_list h) fun σ H R h => by
    obtain ⟨G, ρ, α, w, h⟩ := h
    refine ⟨G, ρ, α, w, (Rn.bind (R' := RpE C) h).mono fun x H1 ⟨G1, ρ1, α1, a, w1, s1, ra, h1⟩ => ?_⟩
    cases a <;> first | (exact h1.elim) | skip
    obtain ⟨p, xs, rfl, k1, k2⟩ := ra
    exact ⟨p, rfl, ⟨xs, hC ▸ le_l w1.le k1⟩, h1 _ _ _ _ (.refl ..) w1 (hC ▸ iter_list k1 k2)⟩
theorem pd_itup {tg l : Expr} {f : M D} (hC : C.K = X.K) (h : PE X l (dE C W f)) : PI X tg l (dI C W (f >>= fun d => opt (asT d))) :=
  pi_mono (pi_tup h) fun σ H R h => by
    obtain ⟨G, ρ, α, w, h⟩ := h
    refine ⟨G, ρ, α, w, (Rn.bind (R' := RpE C) h).mono fun x H1 ⟨G1, ρ1, α1, a, w1, s1, ra, h1⟩ => ?_⟩
    cases a <;> first | (exact h1.elim) | skip
    obtain ⟨p, xs, rfl, k1, k2⟩ := ra
    exact ⟨p, rfl, ⟨xs, hC ▸ le_t w1.le k1⟩, h1 _ _ _ _ (.refl ..) w1 (hC ▸ iter_tup k1 k2)⟩
/-- a text, sign by sign -/
def signs : D → Option (List D)
  | .str z => some (z.cps.toList.map fun c => .str ⟨#[c]⟩)
  | _ => none
theorem pd_istr {tg l : Expr} {f : M D} (h : PE X l (dE C W f)) : PI X tg l (dI C W (f >>= fun d => opt (signs d))) :=
  pi_mono (pi_str h) fun σ H R h => by
    obtain ⟨G, ρ, α, w, h⟩ := h
    refine ⟨G, ρ, α, w, (Rn.bind (R' := RpE C) h).mono fun x H1 hx => ?_⟩
    obtain ⟨G1, ρ1, α1, a, w1, s1, ra, h1⟩ := hx
    cases a <;> first | (exact h1.elim) | skip
    rename_i z0
    cases ra
    refine ⟨z0, rfl, h1 _ _ _ _ (.refl ..) w1 ⟨fun _ => True, (fun i H v H' => H' = H ∧ ∃ c, z0.cps[i]? = some c ∧ v = .str ⟨#[c]⟩), ?_, fun _ _ _ _ => trivial, fun i H2 G2 x H3 d g le e y => ?_⟩⟩
    · rw [List.length_map, Array.length_toList]; exact walk_str
    · obtain ⟨rfl, c, e1, rfl⟩ := y
      refine ⟨G2, .refl le, ?_⟩
      rw [List.getElem?_map, Array.getElem?_toList, e1] at e
      cases e
      rfl
/-- range -/
def rngL (lo : Int) (n : Nat) : List D := (List.range n).map fun (i : Nat) => D.int (lo + (i : Int))
theorem iter_rng {lo : Int} {n : Nat} {G : Hp} : IterOk C (Itr lo n) (rngL lo n) G := by
  refine ⟨fun _ => True, YFn fun i => .int (lo + i), ?_, fun _ _ _ _ => trivial, fun i H2 G2 x H3 d g le e y => ?_⟩
  · unfold rngL; rw [List.length_map, List.length_range]; exact walk_range
  · obtain ⟨rfl, rfl⟩ := y
    refine ⟨G2, .refl le, ?_⟩
    unfold rngL at e
    rw [List.getElem?_map] at e
    obtain ⟨j, e1, rfl⟩ := Option.map_eq_some_iff.mp e
    obtain ⟨h1, h2⟩ := List.getElem?_eq_some_iff.mp e1
    rw [List.getElem_range] at h2
    subst h2
    rfl
def rng1 : List D → Option (List D)
  | [.int j] => if -(2 ^ 62) ≤ j ∧ j < 2 ^ 62 then some (rngL 0 j.toNat) else none
  | _ => none
def rng2 : List D → Option (List D)
  | [.int i, .int j] => if -(2 ^ 62) ≤ i ∧ i < 2 ^ 62 ∧ -(2 ^ 62) ≤ j ∧ j < 2 ^ 62 then some (rngL i (j - i).toNat) else none
  | _ => none
theorem pd_irng1 {tg a : Expr} {p pos : Pos} {fs : M (List D)} (hg : Gl X "range") (hm : X.mg "range" = none) (ha : PA X [a] (dA C W fs)) (hs : starEach [a] X.env = [(false, eval a X.env)] := by rfl) :
    PI X tg (.Call (.Name "range" p) [a] [] pos) (dI C W (fs >>= fun l => opt (rng1 l))) :=
  pi_mono (pi_range1 hg hm ha hs) fun σ H R h => by
    obtain ⟨G, ρ, α, w, h⟩ := h
    refine ⟨G, ρ, α, w, (Rn.bind (R' := RpL C) h).mono fun x H1 ⟨G1, ρ1, α1, l, w1, s1, ra, h1⟩ => ?_⟩
    match l, h1, ra with
    | [.int j], h1, ra =>
      obtain ⟨y, s, rfl, rfl, rfl⟩ := ra
      simp only [rng1] at h1
      by_cases hz : -(2 ^ 62) ≤ j ∧ j < 2 ^ 62
      · rw [if_pos hz] at h1
        exact ⟨j, rfl, hz.1, hz.2, h1 _ _ _ _ (.refl ..) w1 iter_rng⟩
      · rw [if_neg hz] at h1; exact h1.elim
theorem pd_irng2 {tg a b : Expr} {p pos : Pos} {fs : M (List D)} (hg : Gl X "range") (hm : X.mg "range" = none) (ha : PA X [a, b] (dA C W fs)) (hs : starEach [a, b] X.env = [(false, eval a X.env), (false, eval b X.env)] := by rfl) (hs2 : starEach [b] X.env = [(false, eval b X.env)] := by rfl) :
    PI X tg (.Call (.Name "range" p) [a, b] [] pos) (dI C W (fs >>= fun l => opt (rng2 l))) :=
  pi_mono (pi_range2 hg hm ha hs hs2) fun σ H R h => by
    obtain ⟨G, ρ, α, w, h⟩ := h
    refine ⟨G, ρ, α, w, (Rn.bind (R' := RpL C) h).mono fun x H1 ⟨G1, ρ1, α1, l, w1, s1, ra, h1⟩ => ?_⟩
    match l, h1, ra with
    | [.int i, .int j], h1, ra =>
      obtain ⟨y, s, rfl, rfl, z, t, rfl, rfl, rfl⟩ := ra
      simp only [rng2] at h1
      by_cases hz : -(2 ^ 62) ≤ i ∧ i < 2 ^ 62 ∧ -(2 ^ 62) ≤ j ∧ j < 2 ^ 62
      · rw [if_pos hz] at h1
        exact ⟨i, j, rfl, hz, h1 _ _ _ _ (.refl ..) w1 iter_rng⟩
      · rw [if_neg hz] at h1; exact h1.elim
/-- enumerate, zip: new pairs -/
theorem ext_pair {G H : Hp} {T : Addr} {a b : D} {x y : V} (le : Le G H) (n : H T = none) (ra : Rp C G a x) (rb : Rp C G b y) : ∃ G3, Ext G H G3 (upd H T (.tup [x, y])) ∧ Rp C G3 (.tup [a, b]) (.ref T) :=
  ⟨upd G T (.tup [x, y]), .new le n, T, [x, y], rfl, .inl (.inl upd_same), _, _, rfl, ra.mono (Ext.new le n).gg, _, _, rfl, rb.mono (Ext.new le n).gg, rfl⟩
def enumL (l : List D) : List D := l.zipIdx.map fun p => .tup [.int (p.2 : Int), p.1]
def enum1 : List D → Option (List D)
  | [.lst m] => some (enumL m)
  | _ => none
theorem enum1_some {l : List D} {r : List D} (h : enum1 l = some r) : ∃ m, l = [.lst m] ∧ r = enumL m := by
  unfold enum1 at h
  split at h
  · cases h; exact ⟨_, rfl, rfl⟩
  · cases h
theorem pd_ienum {e : Expr} {p pos tpos : Pos} {elts : List Expr} {kk : Nat} {fs : M (List D)} (hC : C.K = X.K) (hg : Gl X "enumerate") (hm : X.mg "enumerate" = none) (ha : PA X [e] (dA C W fs)) (hs : starEach [e] X.env = [(false, eval e X.env)] := by rfl) :
    PI X (.Tuple elts kk tpos) (.Call (.Name "enumerate" p) [e] [] pos) (dI C W (fs >>= fun l => opt (enum1 l))) :=
  pi_mono (pi_enum hg hm ha hs) fun σ H R h => by
    obtain ⟨G, ρ, α, w, h⟩ := h
    refine ⟨G, ρ, α, w, (Rn.bind (R' := RpL C) h).mono fun x H1 ⟨G1, ρ1, α1, l, w1, s1, ra, h1⟩ => ?_⟩
    cases ez : enum1 l with
    | none => rw [ez] at h1; exact h1.elim
    | some r =>
      rw [ez] at h1
      obtain ⟨m, rfl, rfl⟩ := enum1_some ez
      obtain ⟨y, s, rfl, ⟨q, xs, rfl, k1, k2⟩, rfl⟩ := ra
      have k1' : SqL X.K G1 q xs := hC ▸ k1
      refine ⟨q, xs, rfl, le_l w1.le k1', h1 _ _ _ _ (.refl ..) w1 ⟨fun H => SqL X.K H q xs, YPair (fun i => some (.int (i : Nat))) (fun i => xs[i]?), ?_, fun G2 H2 g le => le_l le (le_l g k1'), fun i H2 G2 x H3 d g le e y => ?_⟩⟩
      · unfold enumL
        rw [List.length_map, List.length_zipIdx, ← k2.length]
        exact walk_enum
      · obtain ⟨T, x1, x2, rfl, nT, rfl, f1, f2⟩ := y
        cases f1
        unfold enumL at e
        rw [List.getElem?_map] at e
        obtain ⟨pr, e1, rfl⟩ := Option.map_eq_some_iff.mp e
        rw [List.getElem?_zipIdx] at e1
        obtain ⟨d', e2, rfl⟩ := Option.map_eq_some_iff.mp e1
        obtain ⟨x', e3, rx⟩ := k2.get e2
        have f3 : xs[i]? = some x2 := f2
        rw [f3] at e3; cases e3
        exact ext_pair le nT (by show V.int _ = V.int _; simp) (rx.mono g)
def zipL (l m : List D) : List D := (l.zip m).map fun p => .tup [p.1, p.2]
def zip2 : List D → Option (List D)
  | [.lst l, .lst m] => some (zipL l m)
  | _ => none
theorem zip2_some {l : List D} {r : List D} (h : zip2 l = some r) : ∃ a b, l = [.lst a, .lst b] ∧ r = zipL a b := by
  unfold zip2 at h
  split at h
  · cases h; exact ⟨_, _, rfl, rfl⟩
  · cases h
theorem pd_izip {e e2 : Expr} {p pos tpos : Pos} {elts : List Expr} {kk : Nat} {fs : M (List D)} (hC : C.K = X.K) (hg : Gl X "zip") (hm : X.mg "zip" = none) (ha : PA X [e, e2] (dA C W fs))
    (hs : starEach [e, e2] X.env = (false, eval e X.env) :: starEach [e2] X.env := by rfl) (hpl : (backTo pos (starEach [e2] X.env)).any (·.1) = false := by rfl) :
    PI X (.Tuple elts kk tpos) (.Call (.Name "zip" p) [e, e2] [] pos) (dI C W (fs >>= fun l => opt (zip2 l))) :=
  pi_mono (pi_zip hg hm ha hs hpl) fun σ H R h => by
    obtain ⟨G, ρ, α, w, h⟩ := h
    refine ⟨G, ρ, α, w, (Rn.bind (R' := RpL C) h).mono fun x H1 ⟨G1, ρ1, α1, l, w1, s1, ra, h1⟩ => ?_⟩
    cases ez : zip2 l with
    | none => rw [ez] at h1; exact h1.elim
    | some r =>
      rw [ez] at h1
      obtain ⟨a, b, rfl, rfl⟩ := zip2_some ez
      obtain ⟨y, s, rfl, ⟨q, xs, rfl, k1, k2⟩, y2, s2, rfl, ⟨q2, ys, rfl, k3, k4⟩, rfl⟩ := ra
      have k1' : SqL X.K G1 q xs := hC ▸ k1
      have k3' : SqL X.K G1 q2 ys := hC ▸ k3
      refine ⟨q, q2, xs, ys, rfl, le_l w1.le k1', le_l w1.le k3', h1 _ _ _ _ (.refl ..) w1 ⟨fun H => SqL X.K H q xs ∧ SqL X.K H q2 ys, YPair (fun i => xs[i]?) (fun i => ys[i]?), ?_, fun G2 H2 g le => ⟨le_l le (le_l g k1'), le_l le (le_l g k3')⟩, fun i H2 G2 x H3 d g le e y => ?_⟩⟩
      · unfold zipL
        rw [List.length_map, List.length_zip]
        exact walk_zip (by rw [k2.length, k4.length])
      · obtain ⟨T, x1, x2, rfl, nT, rfl, f1, f2⟩ := y
        unfold zipL at e
        rw [List.getElem?_map] at e
        obtain ⟨pr, e1, rfl⟩ := Option.map_eq_some_iff.mp e
        obtain ⟨d1, d2⟩ := pr
        obtain ⟨e2, e3⟩ := List.getElem?_zip_eq_some.mp e1
        obtain ⟨x', g1, rx⟩ := k2.get e2
        obtain ⟨y', g2, ry⟩ := k4.get e3
        have f3 : xs[i]? = some x1 := f1
        have f4 : ys[i]? = some x2 := f2
        rw [f3] at g1; cases g1
        rw [f4] at g2; cases g2
        exact ext_pair le nT (rx.mono g) (ry.mono g)
end
end Pd

set_option maxHeartbeats 4000000
namespace Pd
open PySem PySem.Spec PyProof.Rows L2

section
variable {C : Ct} {W : WX} {X : Cx}
abbrev W0 : WX := fun _ _ _ _ => False
def wipeE (ρ : Ev) : List Nat → Ev
  | [] => ρ
  | v :: vs => (wipeE ρ vs).set v .un
def offs (vs : List Nat) (α : Nat → List Addr) : Nat → List Addr := fun j => if j ∈ vs then [] else α j
theorem offs_sub {vs : List Nat} {j : Nat} {α : Nat → List Addr} {a : Addr} (m : a ∈ offs vs α j) : j ∉ vs ∧ a ∈ α j := by
  unfold offs at m
  by_cases z : j ∈ vs
  · rw [if_pos z] at m; cases m
  · rw [if_neg z] at m; exact ⟨z, m⟩
theorem wipeE_length (ρ : Ev) : ∀ vs : List Nat, (wipeE ρ vs).length = ρ.length
  | [] => rfl
  | v :: vs => by unfold wipeE; rw [List.length_set, wipeE_length ρ vs]
theorem wipe_out' {σ : L2.St} : ∀ {vs : List Nat} {j : Nat}, j ∉ vs → (wipe σ vs)[j]? = σ[j]?
  | [], _, _ => rfl
  | v :: vs, j, h => by
    unfold wipe
    rw [List.getElem?_set_ne (fun z => h (by rw [z]; exact List.mem_cons_self)), wipe_out' fun z => h (List.mem_cons_of_mem _ z)]
theorem wipeE_out {ρ : Ev} : ∀ {vs : List Nat} {j : Nat}, j ∉ vs → (wipeE ρ vs)[j]? = ρ[j]?
  | [], _, _ => rfl
  | v :: vs, j, h => by
    unfold wipeE
    rw [List.getElem?_set_ne (fun z => h (by rw [z]; exact List.mem_cons_self)), wipeE_out fun z => h (List.mem_cons_of_mem _ z)]
theorem wipeE_in {ρ : Ev} : ∀ {vs : List Nat} {j : Nat} {r : Slot}, j ∈ vs → (wipeE ρ vs)[j]? = some r → r = .un
  | v :: vs, j, r, h, e => by
    unfold wipeE at e
    by_cases z : v = j
    · subst z
      by_cases hl : v < (wipeE ρ vs).length
      · rw [List.getElem?_set_self hl] at e; cases e; rfl
      · rw [List.getElem?_eq_none (by simpa using hl)] at e; cases e
    · rw [List.getElem?_set_ne z] at e
      exact wipeE_in (by rcases List.mem_cons.mp h with q | q; exact absurd q.symm z; exact q) e
theorem wipe_ext : ∀ {σ τ : L2.St} {vs : List Nat}, σ.length = τ.length → (∀ j, j ∉ vs → σ[j]? = τ[j]?) → wipe σ vs = wipe τ vs := fun {σ τ vs} hl h => by
  refine List.ext_getElem? fun j => ?_
  by_cases hj : j ∈ vs
  · have key : ∀ {ρ : L2.St} {us : List Nat}, j ∈ us → (wipe ρ us)[j]? = if j < ρ.length then some none else none := fun {ρ us} => by
      induction us with
      | nil => intro m; cases m
      | cons u us ih =>
        intro m
        unfold wipe
        by_cases z : u = j
        · subst z
          rw [List.getElem?_set]
          simp [wipe_length]
        · rw [List.getElem?_set_ne z]
          exact ih (by rcases List.mem_cons.mp m with q | q; exact absurd q.symm z; exact q)
    rw [key hj, key hj, hl]
  · rw [wipe_out' hj, wipe_out' hj, h j hj]
theorem wipe_agree {σ τ : L2.St} {vs : List Nat} (h : wipe σ vs = wipe τ vs) : ∀ j, j ∉ vs → σ[j]? = τ[j]? := fun j hj => by
  rw [← wipe_out' (σ := σ) hj, h, wipe_out' hj]
theorem Wf.wipe {G H : Hp} {σ : L2.St} {ρ : Ev} {α : Nat → List Addr} (w : Wf C G H σ ρ α) (vs : List Nat) : Wf C G H (L2.wipe σ vs) (wipeE ρ vs) (offs vs α) where
  le := w.le
  len := by rw [wipe_length, wipeE_length]; exact w.len
  sl := fun j x r e1 e2 => by
    show SlotOk C G H x r (if j ∈ vs then [] else α j)
    by_cases hj : j ∈ vs
    · rw [if_pos hj, wipeE_in hj e2]
      exact rfl
    · rw [if_neg hj]
      rw [wipe_out' hj] at e1
      rw [wipeE_out hj] at e2
      exact w.sl j x r e1 e2
  out := fun j hj => by
    rw [wipeE_length] at hj
    show (if j ∈ vs then [] else α j) = []
    split
    · rfl
    · exact w.out j hj
  nd := fun j => by
    show (if j ∈ vs then ([] : List Addr) else α j).Nodup
    split
    · exact List.nodup_nil
    · exact w.nd j
  dj := fun j k a m1 m2 => w.dj j k a (offs_sub m1).2 (offs_sub m2).2
  ng := fun j a m => w.ng j a (offs_sub m).2
theorem Step.offs (G H : Hp) (α : Nat → List Addr) (vs : List Nat) : Step G H α G H (offs vs α) := ⟨Le.refl G, fun _ _ h _ => h, fun _ _ h => .inl h, fun j a m => .inl ⟨j, (offs_sub m).2⟩, fun _ _ _ e => e⟩
def keepS : Option Slot → Slot
  | some (.va d) => .va d
  | some (.sc ns) => .sc ns
  | _ => .un
def backE (ρ1 ρ2 : Ev) : List Nat → Ev
  | [] => ρ2
  | v :: vs => (backE ρ1 ρ2 vs).set v (keepS ρ1[v]?)
theorem backE_length (ρ1 ρ2 : Ev) : ∀ vs : List Nat, (backE ρ1 ρ2 vs).length = ρ2.length
  | [] => rfl
  | v :: vs => by unfold backE; rw [List.length_set, backE_length ρ1 ρ2 vs]
theorem backE_out {ρ1 ρ2 : Ev} : ∀ {vs : List Nat} {j : Nat}, j ∉ vs → (backE ρ1 ρ2 vs)[j]? = ρ2[j]?
  | [], _, _ => rfl
  | v :: vs, j, h => by
    unfold backE
    rw [List.getElem?_set_ne (fun z => h (by rw [z]; exact List.mem_cons_self)), backE_out fun z => h (List.mem_cons_of_mem _ z)]
theorem backE_in {ρ1 ρ2 : Ev} : ∀ {vs : List Nat} {j : Nat} {r : Slot}, j ∈ vs → (backE ρ1 ρ2 vs)[j]? = some r → r = keepS ρ1[j]?
  | v :: vs, j, r, h, e => by
    unfold backE at e
    by_cases z : v = j
    · subst z
      by_cases hl : v < (backE ρ1 ρ2 vs).length
      · rw [List.getElem?_set_self hl] at e; cases e; rfl
      · rw [List.getElem?_eq_none (by simpa using hl)] at e; cases e
    · rw [List.getElem?_set_ne z] at e
      exact backE_in (by rcases List.mem_cons.mp h with q | q; exact absurd q.symm z; exact q) e

/-! ### comprehensions -/
def lcGo (bt : D → M Unit) (tt : M Bool) (te : M D) (vs : List Nat) : List D → List D → Ev → O (List D)
  | [], acc, ρ => .ok acc ρ
  | d :: l, acc, ρ => match bt d (wipeE ρ vs) with
    | .ok _ ρ1 => (match tt ρ1 with
      | .ok true ρ2 => (match te ρ2 with
        | .ok y ρ3 => if acc.length < sizeLine then lcGo bt tt te vs l (acc ++ [y]) ρ3 else .no
        | _ => .no)
      | .ok false ρ2 => lcGo bt tt te vs l acc ρ2
      | _ => .no)
    | _ => .no
def lcEnd (bt : D → M Unit) (tt : M Bool) (te : M D) (vs : List Nat) (l : List D) : M (List D) := fun ρ1 => match lcGo bt tt te vs l [] ρ1 with
  | .ok acc ρ2 => .ok acc (backE ρ1 ρ2 vs)
  | _ => .no
def lcM (fi : M (List D)) (bt : D → M Unit) (tt : M Bool) (te : M D) (vs : List Nat) : M (List D) := fi >>= fun l => lcEnd bt tt te vs l
/-- an expression that gives a new list, which nobody else holds -/
def RnL (C : Ct) (W : WX) (m : M (List D)) (σ : L2.St) (G H : Hp) (ρ : Ev) (α : Nat → List Addr) (Q : VK) : Prop := match m ρ with
  | .ok l ρ' => ∀ p xs G' H' α', Step G H α G' H' α' → Wf C G' H' σ ρ' α' → H' p = some (.lst xs) → RpL C G' l xs → G' p = none → (∀ i, p ∉ α' i) → ((∃ i, p ∈ α i) ∨ H p = none) → Q (.ref p) H'
  | .ex c l ρ' => ∀ cls dct G' H' α', Step G H α G' H' α' → Wf C G' H' σ ρ' α' → ExOk C c l cls dct G' H' → W cls dct σ H'
  | .no => False
def dL (C : Ct) (W : WX) (f : M (List D)) : TE := fun σ H Q => ∃ G ρ α, Wf C G H σ ρ α ∧ RnL C W f σ G H ρ α Q
theorem rn_ok {β γ : Type} {R : Hp → β → γ → Prop} {m : M β} {σ : L2.St} {G H : Hp} {ρ ρ' : Ev} {α : Nat → List Addr} {b : β} {Q : γ → Hp → Prop} (e : m ρ = .ok b ρ') (h : ∀ c G' H' α', Step G H α G' H' α' → Wf C G' H' σ ρ' α' → R G' b c → Q c H') : Rn C W R m σ G H ρ α Q := by
  unfold Rn
  rw [e]
  exact h
theorem rn_ok_of {β γ : Type} {R : Hp → β → γ → Prop} {m : M β} {σ : L2.St} {G H : Hp} {ρ ρ' : Ev} {α : Nat → List Addr} {b : β} {Q : γ → Hp → Prop} (e : m ρ = .ok b ρ') (h : Rn C W R m σ G H ρ α Q) : ∀ c G' H' α', Step G H α G' H' α' → Wf C G' H' σ ρ' α' → R G' b c → Q c H' := by
  unfold Rn at h
  rw [e] at h
  exact h
/-- what is not of the state is left by a step -/
theorem Step.other {G H G' H' : Hp} {α α' : Nat → List Addr} {a : Addr} {o : HO} (s : Step G H α G' H' α') (h : H a = some o) (g : G a = none) (n : ∀ i, a ∉ α i) : H' a = some o ∧ G' a = none ∧ ∀ i, a ∉ α' i :=
  ⟨s.hh a o h n, by
    cases q : G' a with
    | none => rfl
    | some u =>
      rcases s.fr a u q with z | z | ⟨i, z⟩
      · rw [g] at z; cases z
      · rw [h] at z; cases z
      · exact (n i z).elim, fun i m => by
    rcases s.aa i a m with ⟨j, z⟩ | z
    · exact n j z
    · rw [h] at z; cases z⟩
/-- the heap has one thing more, or that thing is changed: a is no part of the state -/
theorem Wf.side {G H : Hp} {σ : L2.St} {ρ : Ev} {α : Nat → List Addr} {a : Addr} {o : HO} (w : Wf C G H σ ρ α) (g : G a = none) (n : ∀ i, a ∉ α i) : Wf C G (upd H a o) σ ρ α where
  le := fun b u e => by
    have ne : b ≠ a := fun z => by rw [z, g] at e; cases e
    rw [upd_ne ne]; exact w.le b u e
  len := w.len
  sl := fun i x r e1 e2 => (w.sl i x r e1 e2).keep (Le.refl G) fun b m => upd_ne fun z => n i (by rw [← z]; exact m)
  out := w.out
  nd := w.nd
  dj := w.dj
  ng := fun i b m => by
    obtain ⟨k1, u, k2⟩ := w.ng i b m
    exact ⟨k1, u, by rw [upd_ne (fun z => n i (by rw [← z]; exact m))]; exact k2⟩
theorem Step.side {G H G' H' : Hp} {α α' : Nat → List Addr} {a : Addr} {o : HO} (s : Step G H α G' H' α') (h : H a = none) (nf : nfz o = true := by rfl) : Step G H α G' (upd H' a o) α' := ⟨s.gg, fun b u e n => by
    have ne : b ≠ a := fun z => by rw [z, h] at e; cases e
    rw [upd_ne ne]; exact s.hh b u e n, s.fr, s.aa, fun b ob u e => s.fz b ob u (nfz_upd nf e)⟩
theorem Step.new' {G H G' H' : Hp} {α α' : Nat → List Addr} (s : Step G H α G' H' α') {p : Addr} (h : (∃ i, p ∈ α' i) ∨ H' p = none) : (∃ i, p ∈ α i) ∨ H p = none := by
  rcases h with ⟨i, h⟩ | h
  · exact s.aa i p h
  · by_cases n : ∃ i, p ∈ α i
    · exact .inl n
    · cases q : H p with
      | none => exact .inr rfl
      | some u => rw [s.hh p u q fun i m => n ⟨i, m⟩] at h; cases h
theorem RnL.bind {δ ε : Type} {R' : Hp → δ → ε → Prop} {m : M δ} {k : δ → M (List D)} {σ : L2.St} {G H : Hp} {ρ : Ev} {α : Nat → List Addr} {Q : VK} (h : RnL C W (m >>= k) σ G H ρ α Q) :
    Rn C W R' m σ G H ρ α (fun c H1 => ∃ G1 ρ1 α1 b, Wf C G1 H1 σ ρ1 α1 ∧ Step G H α G1 H1 α1 ∧ R' G1 b c ∧ RnL C W (k b) σ G1 H1 ρ1 α1 Q) := by
  unfold RnL at h
  unfold Rn
  cases e : m ρ with
  | ok b ρ1 =>
    rw [bind_ok e] at h
    intro c G1 H1 α1 s w r
    refine ⟨G1, ρ1, α1, b, w, s, r, ?_⟩
    unfold RnL
    cases e2 : k b ρ1 with
    | ok l ρ' =>
      rw [e2] at h
      exact fun p xs G' H' α' s2 w2 h1 h2 h3 h4 h5 => h p xs G' H' α' (s.trans s2) w2 h1 h2 h3 h4 (s.new' h5)
    | ex c l ρ' =>
      rw [e2] at h
      exact fun cls dct G' H' α' s2 w2 r2 => h cls dct G' H' α' (s.trans s2) w2 r2
    | no =>
      rw [e2] at h
      exact h
  | ex c l ρ' =>
    rw [bind_ex e] at h
    exact h
  | no =>
    rw [bind_no e] at h
    exact h
theorem RnL.no {m : M (List D)} {σ : L2.St} {G H : Hp} {ρ : Ev} {α : Nat → List Addr} {Q : VK} (e : m ρ = .no) (h : RnL C W m σ G H ρ α Q) : False := by
  unfold RnL at h
  rw [e] at h
  exact h
/-- the new list becomes a value -/
theorem dL_dE {f : M (List D)} {σ : L2.St} {H : Hp} {Q : VK} (h : dE C W (f >>= fun l => pure (.lst l)) σ H Q) : dL C W f σ H Q := by
  obtain ⟨G, ρ, α, w, h⟩ := h
  refine ⟨G, ρ, α, w, ?_⟩
  unfold Rn at h
  unfold RnL
  cases e : f ρ with
  | no => rw [bind_no e] at h; exact h
  | ex c l ρ' => rw [bind_ex e] at h; exact h
  | ok l ρ1 =>
    rw [bind_ok e] at h
    intro p xs G' H' α' s w' h1 h2 h3 h4 h5
    have gg : Le G' (upd G' p (.lst xs)) := fun a u e => by
      have ne : a ≠ p := fun z => by rw [z, h3] at e; cases e
      rw [upd_ne ne]; exact e
    have le : Le (upd G' p (.lst xs)) H' := fun a u e => by
      by_cases z : a = p
      · subst z; rw [upd_same] at e; cases e; exact h1
      · rw [upd_ne z] at e; exact w'.le a u e
    refine h (.ref p) (upd G' p (.lst xs)) H' α' ⟨s.gg.trans gg, s.hh, fun a o e => ?_, s.aa, s.fz⟩ ⟨le, w'.len, fun i x r e1 e2 => ?_, w'.out, w'.nd, w'.dj, fun i a m => ?_⟩ ⟨p, xs, rfl, .of upd_same, h2.mono gg⟩
    · by_cases z : a = p
      · subst z
        exact h5.elim (fun z => .inr (.inr z)) fun z => .inr (.inl z)
      · rw [upd_ne z] at e; exact s.fr a o e
    · exact (w'.sl i x r e1 e2).keep gg fun _ _ => rfl
    · obtain ⟨k1, k2⟩ := w'.ng i a m
      refine ⟨?_, k2⟩
      rw [upd_ne (fun z => h4 i (by rw [← z]; exact m))]; exact k1
theorem pd_of_l {e : Expr} {f : M (List D)} (h : PE X e (dL C W f)) : PE X e (dE C W (f >>= fun l => pure (.lst l))) := pe_mono h fun _ _ _ h => dL_dE h
/-- a display of a new list -/
def dspL (fs : M (List D)) : M (List D) := fs >>= fun l => bnd l.length (pure l)
theorem pl_lst {es : List Expr} {pos : Pos} {fs : M (List D)} (h : PA X es (dA C W fs)) : PE X (.List es pos) (dL C W (dspL fs)) :=
  pe_mono (pe_lst h) fun σ H Q h => by
    obtain ⟨G, ρ, α, w, h⟩ := h
    refine ⟨G, ρ, α, w, (RnL.bind (R' := RpL C) h).mono fun ys H2 hx => ?_⟩
    obtain ⟨G2, ρ2, α2, l, w2, s2, rl, h2⟩ := hx
    by_cases hz : l.length ≤ sizeLine
    · unfold RnL bnd at h2
      rw [if_pos hz] at h2
      refine ⟨by rw [rl.length]; exact hz, fun p n => ?_⟩
      have gp : G2 p = none := by
        cases q : G2 p with
        | none => rfl
        | some u => rw [w2.le p u q] at n; cases n
      have ap : ∀ i, p ∉ α2 i := fun i m => by
        obtain ⟨_, o, k⟩ := w2.ng i p m
        rw [n] at k; cases k
      exact h2 p ys G2 _ α2 ((Step.refl ..).side n) (w2.side gp ap) upd_same rl gp ap (.inr n)
    · exact (h2.no (by unfold bnd; rw [if_neg hz]; rfl)).elim
theorem dL_lc {fi : M (List D)} {bt : D → M Unit} {tt : M Bool} {te : M D} {vs vt : List Nat} (hv : ∀ j ∈ vt, j ∈ vs) {σ : L2.St} {H : Hp} {Q : VK} (h : dL C W (lcM fi bt tt te vs) σ H Q) :
    tLc (dI C W fi) (dG C vt bt) (dT C W0 tt) (dE C W0 te) vs σ H Q := by
  obtain ⟨G0, ρ0, α0, w0, h⟩ := h
  refine ⟨G0, ρ0, α0, w0, (RnL.bind (R' := fun G l J => IterOk C J l G) h).mono fun J H1 hx => ?_⟩
  obtain ⟨G1, ρ1, α1, l, w1, s1, ⟨Gd, Y, wk, hGd, hY⟩, h1⟩ := hx
  intro Dn nD
  have gD : G1 Dn = none := by
    cases q : G1 Dn with
    | none => rfl
    | some u => rw [w1.le Dn u q] at nD; cases nD
  have aD : ∀ i, Dn ∉ α1 i := fun i m => by
    obtain ⟨_, o, k⟩ := w1.ng i Dn m
    rw [nD] at k; cases k
  cases el : lcGo bt tt te vs l [] ρ1 with
  | no => exact (h1.no (by unfold lcEnd; rw [el])).elim
  | ex c m ρ' => exact (h1.no (by unfold lcEnd; rw [el])).elim
  | ok fin ρf =>
    have hend := h1
    unfold RnL at hend
    rw [show lcEnd bt tt te vs l ρ1 = .ok fin (backE ρ1 ρf vs) by unfold lcEnd; rw [el]] at hend
    refine lc_it wk (fun i H2 => ∃ G2 ρ2 α2 acc xs σ2, L2.wipe σ2 vs = L2.wipe σ vs ∧ σ2.length = σ.length ∧ Wf C G2 H2 σ2 ρ2 α2 ∧ Step G1 H1 α1 G2 H2 α2 ∧ H2 Dn = some (.lst xs) ∧ RpL C G2 acc xs ∧ G2 Dn = none ∧ (∀ j, Dn ∉ α2 j) ∧ lcGo bt tt te vs (l.drop i) acc ρ2 = .ok fin ρf) ?_ ?_ ?_ ?_
    · exact ⟨G1, ρ1, α1, [], [], σ, rfl, rfl, w1.side gD aD, (Step.refl ..).side nD, upd_same, rfl, gD, aD, el⟩
    · rintro i H2 _ ⟨G2, ρ2, α2, acc, xs, σ2, _, _, w2, s2, _⟩
      exact hGd G2 H2 s2.gg w2.le
    · rintro i x H2 H3 hi ⟨G2, ρ2, α2, acc, xs, σ2, e1, e2, w2, s2, d2, r2, g2, a2, go⟩ hy
      obtain ⟨d, ed⟩ : ∃ d, l[i]? = some d := ⟨l[i], List.getElem?_eq_getElem hi⟩
      obtain ⟨G3, x3, rx⟩ := hY i H2 G2 x H3 d s2.gg w2.le ed hy
      have hdrop : l.drop i = d :: l.drop (i + 1) := by
        obtain ⟨h1, h2⟩ := List.getElem?_eq_some_iff.mp ed
        rw [← h2]
        exact (List.drop_eq_getElem_cons h1)
      rw [hdrop] at go
      have w3 := (w2.ext x3).wipe vs
      rw [e1] at w3
      have st3 : Step G2 H2 α2 G3 H3 (offs vs α2) := (x3.step (α := α2)).trans (Step.offs G3 H3 α2 vs)
      obtain ⟨d3, g3, a3⟩ := st3.other d2 g2 a2
      refine ⟨G3, wipeE ρ2 vs, offs vs α2, d, w3, rx, ?_⟩
      unfold lcGo at go
      unfold RnG
      cases eb : bt d (wipeE ρ2 vs) with
      | no => rw [eb] at go; cases go
      | ex c m ρ' => rw [eb] at go; cases go
      | ok u ρ3 =>
        rw [eb] at go
        simp only at go
        intro σ4 G4 H4 α4 st4 w4 l4 out4
        obtain ⟨d4, g4, a4⟩ := st4.other d3 g3 a3
        have ew : L2.wipe σ4 vs = L2.wipe σ vs := by
          have z : L2.wipe σ4 vs = L2.wipe (L2.wipe σ vs) vs := wipe_ext l4 fun j hj => out4 j fun m => hj (hv j m)
          rw [z]
          exact wipe_ext (wipe_length σ vs) fun j hj => wipe_out' hj
        refine ⟨ew, G4, ρ3, α4, w4, ?_⟩
        unfold Rn
        cases et : tt ρ3 with
        | no => rw [et] at go; cases go
        | ex c m ρ' => rw [et] at go; cases go
        | ok b ρ5 =>
          rw [et] at go
          intro c G5 H5 α5 st5 w5 rc
          cases rc
          obtain ⟨d5, g5, a5⟩ := st5.other d4 g4 a4
          have l5 : σ4.length = σ.length := l4.trans (wipe_length σ vs)
          have stA : Step G1 H1 α1 G5 H5 α5 := (s2.trans (st3.trans st4)).trans st5
          cases b with
          | false =>
            rw [if_neg Bool.false_ne_true]
            exact ⟨G5, ρ5, α5, acc, xs, σ4, ew, l5, w5, stA, d5, r2.mono ((st3.trans st4).trans st5).gg, g5, a5, go⟩
          | true =>
            rw [if_pos rfl]
            simp only at go
            refine ⟨G5, ρ5, α5, w5, ?_⟩
            unfold Rn
            cases ee : te ρ5 with
            | no => rw [ee] at go; cases go
            | ex c m ρ' => rw [ee] at go; cases go
            | ok y ρ6 =>
              rw [ee] at go
              simp only at go
              intro vy G6 H6 α6 st6 w6 ry
              obtain ⟨d6, g6, a6⟩ := st6.other d5 g5 a5
              by_cases hz : acc.length < sizeLine
              · rw [if_pos hz] at go
                have r6 := r2.mono (((st3.trans st4).trans st5).trans st6).gg
                refine ⟨xs, d6, by rw [r6.length]; exact hz, ?_⟩
                exact ⟨G6, ρ6, α6, acc ++ [y], xs ++ [vy], σ4, ew, l5, w6.side g6 a6, (stA.trans st6).side nD, upd_same, r6.append ⟨vy, [], rfl, ry, rfl⟩, g6, a6, go⟩
              · rw [if_neg hz] at go; cases go
    · rintro H2 ⟨G2, ρ2, α2, acc, xs, σ2, e1, e2, w2, s2, d2, r2, g2, a2, go⟩
      rw [List.drop_length] at go
      unfold lcGo at go
      cases go
      refine hend Dn xs G2 H2 (Pd.offs vs α2) ⟨s2.gg, s2.hh, s2.fr, fun j a m => s2.aa j a (offs_sub m).2, s2.fz⟩ ⟨w2.le, ?_, fun j x r q1 q2 => ?_, fun j hj => ?_, fun j => ?_, fun j k a m1 m2 => w2.dj j k a (offs_sub m1).2 (offs_sub m2).2, fun j a m => w2.ng j a (offs_sub m).2⟩ d2 r2 g2 (fun j m => a2 j (offs_sub m).2) (.inr nD)
      · rw [backE_length, ← w2.len, e2]
      · show SlotOk C _ H2 x r (if j ∈ vs then [] else α2 j)
        by_cases hj : j ∈ vs
        · rw [if_pos hj, backE_in hj q2]
          cases er : ρ1[j]? with
          | none => exact rfl
          | some s =>
            have k := w1.sl j x s q1 er
            cases s with
            | va d =>
              obtain ⟨_, v, k2, k3⟩ := k
              exact ⟨rfl, v, k2, k3.mono s2.gg⟩
            | sc ns =>
              obtain ⟨_, p, k2, k3⟩ := k
              exact ⟨rfl, p, k2, le_l s2.gg k3⟩
            | un => exact rfl
            | ls l => exact rfl
            | ow t => exact rfl
            | pa _ _ => exact rfl
        · rw [if_neg hj]
          rw [backE_out hj] at q2
          rw [← wipe_agree e1 j hj] at q1
          exact w2.sl j x r q1 q2
      · show (if j ∈ vs then [] else α2 j) = []
        rw [backE_length] at hj
        split
        · rfl
        · exact w2.out j hj
      · show (if j ∈ vs then ([] : List Addr) else α2 j).Nodup
        split
        · exact List.nodup_nil
        · exact w2.nd j
theorem pts_mono {es : List Expr} {t t' : TT} (h : PTs X es t) (k : ∀ σ H Q, t' σ H Q → t σ H Q) : PTs X es t' := ⟨fun pins s σ H Q I q => h.run pins s σ H Q I (k σ H Q q)⟩
theorem pd_yes : PTs X [] (dT C W (pure true)) := pts_mono pts_nil fun σ H Q h => by
  obtain ⟨G, ρ, α, w, h⟩ := h
  exact h true G H α (.refl ..) w rfl
/-- [elt for tg in iter if ..] -/
theorem pl_lc {elt tg iter : Expr} {ifs : List Expr} {scope : Scope} {own : List (Str × Nat)} {pos : Pos} {fi : M (List D)} {bt : D → M Unit} {tt : M Bool} {te : M D} {vt : List Nat} (hc : X.calm = true) (hN : X.N.Nodup) (hi : PI X tg iter (dI C W fi))
    (ok : BlkOk X.N X.env.scope scope own)
    (hg : ∀ (s : Shared) (H : Hp) (Ca : Addr) (cl : List (Str × Addr)) (fp : List Addr), PG (X.blk s H scope (compEnvC scope cl Ca X.env) fp) tg (dG C vt bt))
    (ht : ∀ (s : Shared) (H : Hp) (Ca : Addr) (cl : List (Str × Addr)) (fp : List Addr), PTs (X.blk s H scope (compEnvC scope cl Ca X.env) fp) ifs (dT C W0 tt))
    (he : ∀ (s : Shared) (H : Hp) (Ca : Addr) (cl : List (Str × Addr)) (fp : List Addr), PE (X.blk s H scope (compEnvC scope cl Ca X.env) fp) elt (dE C W0 te))
    (hv : ∀ j ∈ vt, j ∈ own.map (·.2) := by decide) (hs : ∀ x, foldedSetIterable iter X.env x = pure x := by intro _; rfl) :
    PE X (.ListComp elt [⟨tg, iter, ifs, 0⟩] scope pos) (dL C W (lcM fi bt tt te (own.map (·.2)))) :=
  pe_mono (pe_lc hc hN hi ok hg ht he hs) fun _ _ _ h => dL_lc hv h
end
end Pd

set_option maxHeartbeats 4000000
namespace Pd
open PySem PySem.Spec PyProof.Rows L2

section
variable {C : Ct} {W : WX} {X : Cx}
/-! ### what may be bound to a name: a value, or a new list -/
def RnX (C : Ct) (W : WX) (m : M Slot) (σ : L2.St) (G H : Hp) (ρ : Ev) (α : Nat → List Addr) (Q : VK) : Prop := match m ρ with
  | .ok s ρ' => ∀ v as G' H' α', Step G H α G' H' α' → Wf C G' H' σ ρ' α' → SlotOk C G' H' (some v) s as → Pend G' H' α' as → (∀ a ∈ as, (∃ i, a ∈ α i) ∨ H a = none) → Q v H'
  | .ex c l ρ' => ∀ cls dct G' H' α', Step G H α G' H' α' → Wf C G' H' σ ρ' α' → ExOk C c l cls dct G' H' → W cls dct σ H'
  | .no => False
def dX (C : Ct) (W : WX) (f : M Slot) : TE := fun σ H Q => ∃ G ρ α, Wf C G H σ ρ α ∧ RnX C W f σ G H ρ α Q
def vaM (f : M D) : M Slot := f >>= fun d => pure (.va d)
def lsM (f : M (List D)) : M Slot := f >>= fun l => pure (.ls l)
theorem pend_nil {G H : Hp} {α : Nat → List Addr} : Pend G H α [] := ⟨List.nodup_nil, fun _ h => by cases h⟩
theorem dX_va {f : M D} {σ : L2.St} {H : Hp} {Q : VK} (h : dX C W (vaM f) σ H Q) : dE C W f σ H Q := by
  obtain ⟨G, ρ, α, w, h⟩ := h
  refine ⟨G, ρ, α, w, ?_⟩
  unfold RnX vaM at h
  unfold Rn
  cases e : f ρ with
  | no => rw [bind_no e] at h; exact h
  | ex c l ρ' => rw [bind_ex e] at h; exact h
  | ok d ρ1 =>
    rw [bind_ok e] at h
    exact fun v G' H' α' s w' r => h v [] G' H' α' s w' ⟨rfl, v, rfl, r⟩ pend_nil fun _ m => by cases m
theorem dX_ls {f : M (List D)} {σ : L2.St} {H : Hp} {Q : VK} (h : dX C W (lsM f) σ H Q) : dL C W f σ H Q := by
  obtain ⟨G, ρ, α, w, h⟩ := h
  refine ⟨G, ρ, α, w, ?_⟩
  unfold RnX lsM at h
  unfold RnL
  cases e : f ρ with
  | no => rw [bind_no e] at h; exact h
  | ex c l ρ' => rw [bind_ex e] at h; exact h
  | ok l ρ1 =>
    rw [bind_ok e] at h
    intro p xs G' H' α' s w' h1 h2 h3 h4 h5
    refine h (.ref p) [p] G' H' α' s w' ⟨p, xs, rfl, rfl, h1, h2⟩ ⟨by simp, fun a m => ?_⟩ fun a m => ?_
    · rw [List.mem_singleton.mp m]; exact ⟨h3, ⟨_, h1⟩, h4⟩
    · rw [List.mem_singleton.mp m]; exact h5
theorem px_va {e : Expr} {f : M D} (h : PE X e (dE C W f)) : PE X e (dX C W (vaM f)) := pe_mono h fun _ _ _ h => dX_va h
theorem px_ls {e : Expr} {f : M (List D)} (h : PE X e (dL C W f)) : PE X e (dX C W (lsM f)) := pe_mono h fun _ _ _ h => dX_ls h
/-- what waits is left by a step -/
theorem Pend.step {G H G' H' : Hp} {α α' : Nat → List Addr} {as : List Addr} {x : Option V} {s : Slot} (st : Step G H α G' H' α') (p : Pend G H α as) (k : SlotOk C G H x s as) : SlotOk C G' H' x s as ∧ Pend G' H' α' as := by
  have at_ : ∀ a ∈ as, ∀ o, H a = some o → H' a = some o ∧ G' a = none ∧ ∀ i, a ∉ α' i := fun a m o e => st.other e (p.2 a m).1 (p.2 a m).2.2
  refine ⟨?_, p.1, fun a m => ?_⟩
  · refine k.keep st.gg fun a m => ?_
    obtain ⟨o, e⟩ := (p.2 a m).2.1
    rw [(at_ a m o e).1, e]
  · obtain ⟨h1, ⟨o, h2⟩, h3⟩ := p.2 a m
    obtain ⟨k1, k2, k3⟩ := at_ a m o h2
    exact ⟨k2, ⟨o, k1⟩, k3⟩
/-- a slot is bound -/
def setS (i : Nat) (s : Slot) : M Unit := fun ρ => if i < ρ.length then .ok () (ρ.set i s) else .no
def onα (i : Nat) (as : List Addr) (α : Nat → List Addr) : Nat → List Addr := fun j => if j = i then as else α j
theorem Wf.setS {G H : Hp} {σ : L2.St} {ρ : Ev} {α : Nat → List Addr} {i : Nat} {s : Slot} {v : V} {as : List Addr} (w : Wf C G H σ ρ α) (hi : i < ρ.length) (k : SlotOk C G H (some v) s as) (p : Pend G H α as) : Wf C G H (σ.set i (some v)) (ρ.set i s) (onα i as α) where
  le := w.le
  len := by rw [List.length_set, List.length_set]; exact w.len
  sl := fun j x r e1 e2 => by
    show SlotOk C G H _ _ (if j = i then as else α j)
    by_cases z : j = i
    · subst z
      rw [List.getElem?_set_self (by rw [w.len]; exact hi)] at e1
      rw [List.getElem?_set_self hi] at e2
      cases e1; cases e2
      rw [if_pos rfl]
      exact k
    · rw [List.getElem?_set_ne (Ne.symm z)] at e1 e2
      rw [if_neg z]
      exact w.sl j x r e1 e2
  out := fun j hj => by
    rw [List.length_set] at hj
    show (if j = i then as else α j) = []
    rw [if_neg (by omega)]
    exact w.out j hj
  nd := fun j => by
    show (if j = i then as else α j).Nodup
    split
    · exact p.1
    · exact w.nd j
  dj := fun j l a m1 m2 => by
    have q1 : a ∈ (if j = i then as else α j) := m1
    have q2 : a ∈ (if l = i then as else α l) := m2
    by_cases z1 : j = i <;> by_cases z2 : l = i
    · rw [z1, z2]
    · rw [if_pos z1] at q1; rw [if_neg z2] at q2; exact ((p.2 a q1).2.2 l q2).elim
    · rw [if_neg z1] at q1; rw [if_pos z2] at q2; exact ((p.2 a q2).2.2 j q1).elim
    · rw [if_neg z1] at q1; rw [if_neg z2] at q2; exact w.dj j l a q1 q2
  ng := fun j a m => by
    have q1 : a ∈ (if j = i then as else α j) := m
    by_cases z1 : j = i
    · rw [if_pos z1] at q1; exact ⟨(p.2 a q1).1, (p.2 a q1).2.1⟩
    · rw [if_neg z1] at q1; exact w.ng j a q1
theorem Step.onS {G H G' H' : Hp} {α α' : Nat → List Addr} {i : Nat} {as : List Addr} (s : Step G H α G' H' α') (h : ∀ a ∈ as, (∃ j, a ∈ α j) ∨ H a = none) : Step G H α G' H' (onα i as α') := ⟨s.gg, s.hh, s.fr, fun j a m => (by
  have q1 : a ∈ (if j = i then as else α' j) := m
  by_cases z1 : j = i
  · rw [if_pos z1] at q1; exact h a q1
  · rw [if_neg z1] at q1; exact s.aa j a q1), s.fz⟩

theorem Wf.dropS {G H : Hp} {σ : L2.St} {ρ : Ev} {α : Nat → List Addr} (w : Wf C G H σ ρ α) (i : Nat) : Step G H α G H (onα i [] α) ∧ Wf C G H σ (ρ.set i .un) (onα i [] α) := by
  have sub : ∀ j a, a ∈ onα i [] α j → j ≠ i ∧ a ∈ α j := fun j a m => by
    have m' : a ∈ (if j = i then [] else α j) := m
    by_cases z : j = i
    · rw [if_pos z] at m'; cases m'
    · rw [if_neg z] at m'; exact ⟨z, m'⟩
  refine ⟨⟨Le.refl G, fun _ _ e _ => e, fun _ _ e => .inl e, fun j a m => .inl ⟨j, (sub j a m).2⟩, fun _ _ _ e => e⟩, ⟨w.le, by rw [List.length_set]; exact w.len, fun j x r e1 e2 => ?_, fun j hj => ?_, fun j => ?_, fun j k a m1 m2 => w.dj j k a (sub j a m1).2 (sub k a m2).2, fun j a m => w.ng j a (sub j a m).2⟩⟩
  · show SlotOk C G H x r (if j = i then [] else α j)
    by_cases z : j = i
    · subst z
      rw [if_pos rfl]
      by_cases hl : j < ρ.length
      · rw [List.getElem?_set_self hl] at e2; cases e2; exact rfl
      · rw [List.getElem?_eq_none (by simpa using hl)] at e2; cases e2
    · rw [List.getElem?_set_ne (Ne.symm z)] at e2
      rw [if_neg z]
      exact w.sl j x r e1 e2
  · rw [List.length_set] at hj
    show (if j = i then [] else α j) = []
    split
    · rfl
    · exact w.out j hj
  · show (if j = i then ([] : List Addr) else α j).Nodup
    split
    · exact List.nodup_nil
    · exact w.nd j

/-! ### statements -/
theorem RnS.no {m : M Fl} {G H : Hp} {ρ : Ev} {α : Nat → List Addr} {E : Ends} (e : m ρ = .no) (h : RnS C W m G H ρ α E) : False := by
  unfold RnS at h
  rw [e] at h
  exact h
/-- a statement's rest, a state further on -/
theorem RnS.step {m : M Fl} {G H G1 H1 : Hp} {ρ : Ev} {α α1 : Nat → List Addr} {E : Ends} (st : Step G H α G1 H1 α1)
    (h : match m ρ with
      | .ok .nx ρ' => ∀ σ' G' H' α', Step G H α G' H' α' → Wf C G' H' σ' ρ' α' → E.nx σ' H'
      | .ok (.rt d) ρ' => ∀ v σ' G' H' α', Step G H α G' H' α' → Wf C G' H' σ' ρ' α' → Rp C G' d v → E.rt v H'
      | .ok (.ro l) ρ' => ∀ p xs σ' G' H' α', Step G H α G' H' α' → Wf C G' H' σ' ρ' α' → H' p = some (.lst xs) → RpL C G' l xs → G' p = none → (∀ i, p ∉ α' i) → ((∃ i, p ∈ α i) ∨ H p = none) → E.rt (.ref p) H'
      | .ok (.rw k) ρ' => ∀ t v σ' G' H' α', k t → Step G H α G' H' α' → Wf C G' H' σ' ρ' α' → RpO C G' H' t v → Pend G' H' α' t.adr → (∀ a ∈ t.adr, (∃ i, a ∈ α i) ∨ H a = none) → E.rt v H'
      | .ok .bk ρ' => ∀ σ' G' H' α', Step G H α G' H' α' → Wf C G' H' σ' ρ' α' → E.bk σ' H'
      | .ok .ct ρ' => ∀ σ' G' H' α', Step G H α G' H' α' → Wf C G' H' σ' ρ' α' → E.ct σ' H'
      | .ex c l ρ' => ∀ cls dct σ' G' H' α', Step G H α G' H' α' → Wf C G' H' σ' ρ' α' → ExOk C c l cls dct G' H' → W cls dct σ' H'
      | .no => False) : RnS C W m G1 H1 ρ α1 E := by
  unfold RnS
  cases e : m ρ with
  | no => rw [e] at h; exact h
  | ex c l ρ' =>
    rw [e] at h
    exact fun cls dct σ' G' H' α' s w r => h cls dct σ' G' H' α' (st.trans s) w r
  | ok f ρ' =>
    rw [e] at h
    cases f with
    | nx => exact fun σ' G' H' α' s w => h σ' G' H' α' (st.trans s) w
    | rt d => exact fun v σ' G' H' α' s w r => h v σ' G' H' α' (st.trans s) w r
    | ro l => exact fun p xs σ' G' H' α' s w a b c c2 d => h p xs σ' G' H' α' (st.trans s) w a b c c2 (st.new' d)
    | rw k => exact fun t v σ' G' H' α' hk s w r pd nw => h t v σ' G' H' α' hk (st.trans s) w r pd fun a m => st.new' (nw a m)
    | bk => exact fun σ' G' H' α' s w => h σ' G' H' α' (st.trans s) w
    | ct => exact fun σ' G' H' α' s w => h σ' G' H' α' (st.trans s) w
/-- an expression ahead of the rest of a statement -/
theorem RnS.bind {δ ε : Type} {R' : Hp → δ → ε → Prop} {m : M δ} {k : δ → M Fl} {σ : L2.St} {G H : Hp} {ρ : Ev} {α : Nat → List Addr} {E : Ends} (h : RnS C W (m >>= k) G H ρ α E) :
    Rn C W R' m σ G H ρ α (fun c H1 => ∃ G1 ρ1 α1 b, Wf C G1 H1 σ ρ1 α1 ∧ Step G H α G1 H1 α1 ∧ R' G1 b c ∧ RnS C W (k b) G1 H1 ρ1 α1 E) := by
  unfold RnS at h
  unfold Rn
  cases e : m ρ with
  | no => rw [bind_no e] at h; exact h
  | ex c l ρ' =>
    rw [bind_ex e] at h
    exact fun cls dct G' H' α' s w r => h cls dct σ G' H' α' s w r
  | ok b ρ1 =>
    rw [bind_ok e] at h
    exact fun c G1 H1 α1 s w r => ⟨G1, ρ1, α1, b, w, s, r, RnS.step s h⟩
def seqM (f g : M Fl) : M Fl := f >>= fun r => match r with
  | .nx => g
  | r => pure r
theorem pds_nil : PSs X [] (dS C W (pure .nx)) := pss_mono pss_nil fun E σ H h => by
  obtain ⟨G, ρ, α, w, h⟩ := h
  exact h σ G H α (.refl ..) w
theorem pds_one {st : Stmt} {f : M Fl} (h : PS X st (dS C W f)) : PSs X [st] (dS C W f) := pss_one h
theorem pds_cons {st : Stmt} {rest : List Stmt} {f g : M Fl} (h1 : PS X st (dS C W f)) (h2 : PSs X rest (dS C W g)) : PSs X (st :: rest) (dS C W (seqM f g)) :=
  pss_mono (pss_cons h1 h2) fun E σ H h => by
    obtain ⟨G, ρ, α, w, h⟩ := h
    refine ⟨G, ρ, α, w, ?_⟩
    unfold RnS seqM at h
    unfold RnS
    cases e : f ρ with
    | no => rw [bind_no e] at h; exact h
    | ex c l ρ' => rw [bind_ex e] at h; exact h
    | ok r ρ1 =>
      rw [bind_ok e] at h
      cases r with
      | nx => exact fun σ1 G1 H1 α1 s w1 => ⟨G1, ρ1, α1, w1, RnS.step s h⟩
      | rt d => exact h
      | ro l => exact h
      | rw k => exact h
      | bk => exact h
      | ct => exact h
theorem pds_pass {pos : Pos} : PS X (.Pass pos) (dS C W (pure .nx)) := ps_mono ps_pass fun E σ H h => by
  obtain ⟨G, ρ, α, w, h⟩ := h
  exact h σ G H α (.refl ..) w
theorem pds_break {pos : Pos} : PS X (.Break pos) (dS C W (pure .bk)) := ps_mono ps_break fun E σ H h => by
  obtain ⟨G, ρ, α, w, h⟩ := h
  exact h σ G H α (.refl ..) w
theorem pds_continue {pos : Pos} : PS X (.Continue pos) (dS C W (pure .ct)) := ps_mono ps_continue fun E σ H h => by
  obtain ⟨G, ρ, α, w, h⟩ := h
  exact h σ G H α (.refl ..) w
theorem pds_if {c : Expr} {a b : List Stmt} {pos : Pos} {fc : M Bool} {fa fb : M Fl} (hc : PT X c (dT C W fc)) (ha : PSs X a (dS C W fa)) (hb : PSs X b (dS C W fb)) : PS X (.If c a b pos) (dS C W (iteM fc fa fb)) :=
  ps_mono (ps_if hc ha hb) fun E σ H h => by
    obtain ⟨G, ρ, α, w, h⟩ := h
    refine ⟨G, ρ, α, w, (RnS.bind (R' := RpT) h).mono fun x H1 hx => ?_⟩
    obtain ⟨G1, ρ1, α1, a, w1, s1, ra, h1⟩ := hx
    cases ra
    cases x with
    | true => exact ⟨G1, ρ1, α1, w1, h1⟩
    | false => exact ⟨G1, ρ1, α1, w1, h1⟩
def dropM (f : M D) : M Fl := f >>= fun _ => pure .nx
theorem pds_expr {e : Expr} {pos : Pos} {f : M D} (he : PE X e (dE C W f)) (hs : swapsWith e none pos.line X.env = pure false := by rfl) : PS X (.Expr e pos) (dS C W (dropM f)) :=
  ps_mono (ps_expr he hs) fun E σ H h => by
    obtain ⟨G, ρ, α, w, h⟩ := h
    refine ⟨G, ρ, α, w, (RnS.bind (R' := RpE C) h).mono fun x H1 hx => ?_⟩
    obtain ⟨G1, ρ1, α1, a, w1, s1, ra, h1⟩ := hx
    exact h1 σ G1 H1 α1 (.refl ..) w1
def retM (f : M D) : M Fl := f >>= fun d => pure (.rt d)
theorem pds_ret {e : Expr} {pos : Pos} {f : M D} (he : PE X e (dE C W f)) : PS X (.Return (some e) pos) (dS C W (retM f)) :=
  ps_mono (ps_ret he) fun E σ H h => by
    obtain ⟨G, ρ, α, w, h⟩ := h
    refine ⟨G, ρ, α, w, (RnS.bind (R' := RpE C) h).mono fun x H1 hx => ?_⟩
    obtain ⟨G1, ρ1, α1, a, w1, s1, ra, h1⟩ := hx
    exact h1 x σ G1 H1 α1 (.refl ..) w1 ra
theorem pds_retN {pos : Pos} : PS X (.Return none pos) (dS C W (pure (.rt .non))) := ps_mono ps_retN fun E σ H h => by
  obtain ⟨G, ρ, α, w, h⟩ := h
  exact h .non σ G H α (.refl ..) w rfl
/-- a new list is returned as one's own -/
def retoM (f : M (List D)) : M Fl := f >>= fun l => pure (.ro l)
theorem pds_reto {e : Expr} {pos : Pos} {f : M (List D)} (he : PE X e (dL C W f)) : PS X (.Return (some e) pos) (dS C W (retoM f)) :=
  ps_mono (ps_ret he) fun E σ H h => by
    obtain ⟨G, ρ, α, w, h⟩ := h
    refine ⟨G, ρ, α, w, ?_⟩
    unfold RnS retoM at h
    unfold RnL
    cases e : f ρ with
    | no => rw [bind_no e] at h; exact h
    | ex c l ρ' =>
      rw [bind_ex e] at h
      exact fun cls dct G' H' α' s w r => h cls dct σ G' H' α' s w r
    | ok l ρ1 =>
      rw [bind_ok e] at h
      exact fun p xs G' H' α' s w' a b c d e => h p xs σ G' H' α' s w' a b c d e
/-- return x, x a list of one's own -/
def rovM (i : Nat) : M Fl := fun ρ => match ρ[i]? with
  | some (.ls l) => .ok (.ro l) (ρ.set i .un)
  | some (.va d) => .ok (.rt d) ρ
  | _ => .no
theorem pds_rov (i : Nat) {x : Str} {pos p2 : Pos} (hN : X.N[i]? = some x := by rfl) (hv : Vis X.env.scope x := by first | exact Or.inl rfl | exact Or.inr (Or.inl rfl) | exact Or.inr (Or.inr rfl)) (hd : (x == ("__debug__" : Str)) = false := by decide)
    (hcd : (x == ("__classdict__" : Str)) = false := by decide) : PS X (.Return (some (.Name x p2)) pos) (dS C W (rovM i)) :=
  ps_mono (ps_ret (pe_var (i := i) hN hv hd hcd)) fun E σ H h => by
    obtain ⟨G, ρ, α, w, h⟩ := h
    unfold RnS rovM at h
    cases e : ρ[i]? with
    | none => rw [e] at h; exact h.elim
    | some r =>
      rw [e] at h
      have hs : i < σ.length := by rw [w.len]; exact (List.getElem?_eq_some_iff.mp e).1
      have k := w.sl i σ[i] r (List.getElem?_eq_getElem hs) e
      cases r with
      | va d =>
        obtain ⟨_, v, k2, k3⟩ := k
        exact ⟨v, by rw [List.getElem?_eq_getElem hs, k2], h v σ G H α (.refl ..) w k3⟩
      | ls l =>
        obtain ⟨p, xs, k1, k2, k3, k4⟩ := k
        have m : p ∈ α i := by rw [k2]; exact List.mem_singleton.mpr rfl
        obtain ⟨st, w'⟩ := w.dropS i
        exact ⟨.ref p, by rw [List.getElem?_eq_getElem hs, k1], h p xs σ G H _ st w' k3 k4 (w.ng i p m).1 (fun j mj => by
          have mj' : p ∈ (if j = i then [] else α j) := mj
          by_cases z : j = i
          · rw [if_pos z] at mj'; cases mj'
          · rw [if_neg z] at mj'; exact z (w.dj j i p mj' m)) (.inl ⟨i, m⟩)⟩
      | un => exact h.elim
      | sc _ => exact h.elim
      | ow _ => exact h.elim
      | pa _ _ => exact h.elim
/-- x = e -/
def letM (i : Nat) (f : M Slot) : M Fl := f >>= fun s => setS i s >>= fun _ => pure .nx
theorem dS_let {i : Nat} {f : M Slot} {E : Ends} {σ : L2.St} {H : Hp} (h : dS C W (letM i f) E σ H) : tAsg (dX C W f) (gName i) E σ H := by
  obtain ⟨G, ρ, α, w, h⟩ := h
  refine ⟨G, ρ, α, w, ?_⟩
  unfold RnS letM at h
  unfold RnX
  cases e : f ρ with
  | no => rw [bind_no e] at h; exact h
  | ex c l ρ' =>
    rw [bind_ex e] at h
    exact fun cls dct G' H' α' s w r => h cls dct σ G' H' α' s w r
  | ok s ρ1 =>
    rw [bind_ok e] at h
    intro v as G' H' α' st w' k p n
    by_cases hi : i < ρ1.length
    · rw [bind_ok (show setS i s ρ1 = .ok () (ρ1.set i s) from if_pos hi)] at h
      exact h _ G' H' _ (st.onS n) (w'.setS hi k p)
    · rw [bind_no (show setS i s ρ1 = .no from if_neg hi)] at h
      exact h.elim
theorem pds_let (i : Nat) {x : Str} {e : Expr} {pos p2 : Pos} {f : M Slot} (hN : X.N.Nodup) (he : PE X e (dX C W f)) (hi : X.N[i]? = some x := by rfl) (hx : Loc X.env.scope x := by first | exact Or.inl rfl | exact Or.inr rfl) (hf : X.fn x = true ∨ X.env.scope.names.lookup x = some .local := by first | exact .inl rfl | exact .inr rfl | assumption)
    (hs : swapsWithSole [.Name x p2] e pos.line X.env = pure false := by rfl) (hw : swappedStores [.Name x p2] e X.env = pure none := by rfl) (h1 : (assignEach [.Name x p2] X.env).map (·.2) = [assign (.Name x p2) X.env] := by rfl) :
    PS X (.Assign [.Name x p2] e pos) (dS C W (letM i f)) :=
  ps_mono (ps_asg he (pg_name (i := i) hN hi hx hf) hs hw h1) fun _ _ _ h => dS_let h
/-- a target of values: tuples, .. -/
def bindT (bt : D → M Unit) (d : D) : M Fl := fun ρ => match bt d ρ with
  | .ok _ ρ' => .ok .nx ρ'
  | _ => .no
def asgM (f : M D) (bt : D → M Unit) : M Fl := f >>= bindT bt
theorem pds_asg {tg e : Expr} {pos : Pos} {f : M D} {bt : D → M Unit} {vs : List Nat} (he : PE X e (dE C W f)) (hg : PG X tg (dG C vs bt)) (hs : swapsWithSole [tg] e pos.line X.env = pure false := by rfl) (hw : swappedStores [tg] e X.env = pure none := by rfl)
    (h1 : (assignEach [tg] X.env).map (·.2) = [assign tg X.env] := by rfl) : PS X (.Assign [tg] e pos) (dS C W (asgM f bt)) :=
  ps_mono (ps_asg he hg hs hw h1) fun E σ H h => by
    obtain ⟨G, ρ, α, w, h⟩ := h
    refine ⟨G, ρ, α, w, (RnS.bind (R' := RpE C) h).mono fun x H1 hx => ?_⟩
    obtain ⟨G1, ρ1, α1, a, w1, s1, ra, h1⟩ := hx
    refine ⟨G1, ρ1, α1, a, w1, ra, ?_⟩
    unfold RnS bindT at h1
    unfold RnG
    cases e : bt a ρ1 with
    | no => rw [e] at h1; exact h1
    | ex c l ρ' => rw [e] at h1; exact h1
    | ok u ρ2 =>
      rw [e] at h1
      exact fun σ' G' H' α' s w' _ _ => h1 σ' G' H' α' s w'
end
end Pd

set_option maxHeartbeats 4000000
namespace Pd
open PySem PySem.Spec PyProof.Rows L2

section
variable {C : Ct} {W : WX} {X : Cx}
/-! ### defs, by what their bodies do -/
def unE (n : Nat) (args : Ev) : Ev := args ++ List.replicate (n - args.length) .un
def spG (C : Ct) (n np : Nat) (f : M Fl) : Sp := fun vs H Q E => ∃ G args α, args.length = np ∧ Wf C G H (vs.map some) args α ∧ RnS C (fun c d _ H' => E c d H') f G H (unE n args) α { nx := fun _ H' => Q .non H', rt := Q }
theorem unE_length {n : Nat} {args : Ev} (h : args.length ≤ n) : (unE n args).length = n := by
  unfold unE
  rw [List.length_append, List.length_replicate]
  omega
theorem Wf.start {G H : Hp} {vs : List V} {args : Ev} {α : Nat → List Addr} {N : List Str} (w : Wf C G H (vs.map some) args α) : Wf C G H (L2.start N vs) (unE N.length args) α := by
  have hl : vs.length = args.length := by rw [← w.len, List.length_map]
  refine ⟨w.le, ?_, fun i x r e1 e2 => ?_, fun i hi => ?_, w.nd, w.dj, w.ng⟩
  · unfold L2.start unE
    rw [List.length_append, List.length_append, List.length_map, List.length_replicate, List.length_replicate, hl]
  · unfold L2.start at e1
    unfold unE at e2
    by_cases hi : i < args.length
    · rw [List.getElem?_append_left (by rw [List.length_map, hl]; exact hi)] at e1
      rw [List.getElem?_append_left hi] at e2
      exact w.sl i x r e1 e2
    · rw [List.getElem?_append_right (by omega)] at e2
      have := List.eq_of_mem_replicate (List.mem_of_getElem? e2)
      subst this
      exact w.out i (by omega)
  · unfold unE at hi
    rw [List.length_append, List.length_replicate] at hi
    exact w.out i (by omega)
theorem fn_g {P : Program} {w : World} {K : PySem.W.Frag} {mg : Str → Option Value} {base : Heap} {k : Nat} {x qual : Str} {params : Arguments} {body : List Stmt} {scope : Scope} {dvs : List V} {kws : List (Str × V)} {f : Addr} {fd : FuncData} {N ps : List Str} {g : M Fl}
    (F : FunD K x qual params body scope dvs kws f fd) (S : FnScope N ps scope)
    (hbody : ∀ (cdv : Value) (A : Around) (outer : List Env) (s : Shared) (H : Hp) (E : XK), Room k (A.deeper (envOfC qual scope s.heap.objs.size f cdv)) → PSs (cxOf (L2.CX P w) P w K mg base N qual scope f cdv A outer s H E) body (dS C (fun c d _ H' => E c d H') g)) :
    FnOk P w K mg base (L2.CX P w) (k + 1) f fd ps (spG C N.length ps.length g) :=
  F.ok S (fun vs H Q E h => by
    obtain ⟨G, args, α, hl, w, _⟩ := h
    rw [← hl, ← w.len, List.length_map]) fun cdv A outer s H vs Q E hr h => by
    obtain ⟨G, args, α, hl, w, h⟩ := h
    exact ⟨_, hbody cdv A outer s H E hr, G, _, α, w.start, h⟩
theorem Step.ext {G H G' H' : Hp} {α α' : Nat → List Addr} (s : Step G H α G' H' α') (h : ∀ i, α i = []) (le : Le G' H') : Ext G H G' H' := ⟨s.gg, le, s.le h, fun a o e => (by
  rcases s.fr a o e with z | z | ⟨i, z⟩
  · exact .inl z
  · exact .inr z
  · rw [h i] at z; cases z), s.fz⟩
theorem RpL.slots {G H : Hp} (le : Le G H) : ∀ {ds : List D} {vs : List V}, RpL C G ds vs → Wf C G H (vs.map some) (ds.map .va) noα := fun {ds vs} r => by
  refine ⟨le, by rw [List.length_map, List.length_map]; exact r.length, fun i x s e1 e2 => ?_, fun i _ => rfl, fun i => List.nodup_nil, (fun i j a m _ => nomatch m), (fun i a m => nomatch m)⟩
  rw [List.getElem?_map] at e1 e2
  obtain ⟨d, e3, rfl⟩ := Option.map_eq_some_iff.mp e2
  obtain ⟨v, e4, rfl⟩ := Option.map_eq_some_iff.mp e1
  obtain ⟨v', e5, rv⟩ := r.get e3
  rw [e4] at e5; cases e5
  exact ⟨rfl, v, rfl, rv⟩
/-- a new own list becomes a value -/
theorem Ext.freeze {G H G' H' : Hp} {p : Addr} {xs : List V} (e : Ext G H G' H') (h : H' p = some (.lst xs)) (g : G' p = none) (n : H p = none) : Ext G H (upd G' p (.lst xs)) H' where
  fz := e.fz
  gg := fun a o z => by
    have ne : a ≠ p := fun q => by rw [q] at z; rw [e.gg p o z] at g; cases g
    rw [upd_ne ne]; exact e.gg a o z
  le := fun a o z => by
    by_cases q : a = p
    · subst q; rw [upd_same] at z; cases z; exact h
    · rw [upd_ne q] at z; exact e.le a o z
  hh := e.hh
  fr := fun a o z => by
    by_cases q : a = p
    · subst q; exact .inr n
    · rw [upd_ne q] at z; exact e.fr a o z
theorem le_upd {G : Hp} {p : Addr} {o : HO} (g : G p = none) : Le G (upd G p o) := fun a u z => by
  have ne : a ≠ p := fun q => by rw [q, g] at z; cases z
  rw [upd_ne ne]; exact z
/-- f(e, ..), values in, a value out -/
def outM (ρ1 : Ev) : O Fl → O D
  | .ok (.rt d) _ => .ok d ρ1
  | .ok .nx _ => .ok .non ρ1
  | .ok (.ro l) _ => .ok (.lst l) ρ1
  | .ex c l _ => .ex c l ρ1
  | _ => .no
def callF (n np : Nat) (f : M Fl) (ds : List D) : M D := fun ρ1 => if ds.length = np then outM ρ1 (f (unE n (ds.map .va))) else .no
def callG (n np : Nat) (f : M Fl) (fa : M (List D)) : M D := fa >>= fun ds => callF n np f ds
/-- .., a new list out -/
def outL (ρ1 : Ev) : O Fl → O (List D)
  | .ok (.ro l) _ => .ok l ρ1
  | .ex c l _ => .ex c l ρ1
  | _ => .no
def callFL (n np : Nat) (f : M Fl) (ds : List D) : M (List D) := fun ρ1 => if ds.length = np then outL ρ1 (f (unE n (ds.map .va))) else .no
def callL (n np : Nat) (f : M Fl) (fa : M (List D)) : M (List D) := fa >>= fun ds => callFL n np f ds
theorem dE_callG {n np : Nat} {f : M Fl} {fa : M (List D)} {σ : L2.St} {H : Hp} {Q : VK} (h : dE C W (callG n np f fa) σ H Q) : tCallS (spG C n np f) (WE W) (dA C W fa) σ H Q := by
  obtain ⟨G, ρ, α, w, h⟩ := h
  refine ⟨G, ρ, α, w, (Rn.bind (R' := RpL C) h).mono fun vs H1 hx => ?_⟩
  obtain ⟨G1, ρ1, α1, ds, w1, s1, rl, h1⟩ := hx
  by_cases hl : ds.length = np
  · refine ⟨G1, ds.map .va, noα, by rw [List.length_map]; exact hl, rl.slots w1.le, ?_⟩
    unfold Rn callF at h1
    rw [if_pos hl] at h1
    unfold RnS
    cases e : f (unE n (ds.map .va)) with
    | no => rw [e] at h1; exact h1
    | ex c l ρ' =>
      rw [e] at h1
      intro cls dct σ' G' H' α' st w' r
      have x := st.ext (fun _ => rfl) w'.le
      exact h1 cls dct G' H' α1 x.step (w1.ext x) r
    | ok fl ρ' =>
      rw [e] at h1
      cases fl with
      | nx =>
        intro σ' G' H' α' st w'
        have x := st.ext (fun _ => rfl) w'.le
        exact h1 .non G' H' α1 x.step (w1.ext x) rfl
      | rt d =>
        intro v σ' G' H' α' st w' r
        have x := st.ext (fun _ => rfl) w'.le
        exact h1 v G' H' α1 x.step (w1.ext x) r
      | ro l =>
        intro p xs σ' G' H' α' st w' k1 k2 k3 k4 k5
        have x := (st.ext (fun _ => rfl) w'.le).freeze k1 k3 (k5.elim (fun ⟨i, m⟩ => nomatch m) id)
        exact h1 (.ref p) _ H' α1 x.step (w1.ext x) ⟨p, xs, rfl, .of upd_same, k2.mono (le_upd k3)⟩
      | rw k => exact h1.elim
      | bk => exact h1.elim
      | ct => exact h1.elim
  · exact (h1.no (by unfold callF; rw [if_neg hl])).elim
theorem dL_callG {n np : Nat} {f : M Fl} {fa : M (List D)} {σ : L2.St} {H : Hp} {Q : VK} (h : dL C W (callL n np f fa) σ H Q) : tCallS (spG C n np f) (WE W) (dA C W fa) σ H Q := by
  obtain ⟨G, ρ, α, w, h⟩ := h
  refine ⟨G, ρ, α, w, (RnL.bind (R' := RpL C) h).mono fun vs H1 hx => ?_⟩
  obtain ⟨G1, ρ1, α1, ds, w1, s1, rl, h1⟩ := hx
  by_cases hl : ds.length = np
  · refine ⟨G1, ds.map .va, noα, by rw [List.length_map]; exact hl, rl.slots w1.le, ?_⟩
    unfold RnL callFL at h1
    rw [if_pos hl] at h1
    unfold RnS
    cases e : f (unE n (ds.map .va)) with
    | no => rw [e] at h1; exact h1
    | ex c l ρ' =>
      rw [e] at h1
      intro cls dct σ' G' H' α' st w' r
      have x := st.ext (fun _ => rfl) w'.le
      exact h1 cls dct G' H' α1 x.step (w1.ext x) r
    | ok fl ρ' =>
      rw [e] at h1
      cases fl with
      | ro l =>
        intro p xs σ' G' H' α' st w' k1 k2 k3 k4 k5
        have x := st.ext (fun _ => rfl) w'.le
        have hp : H1 p = none := k5.elim (fun ⟨i, m⟩ => nomatch m) id
        refine h1 p xs G' H' α1 x.step (w1.ext x) k1 k2 k3 (fun i m => ?_) (.inr hp)
        obtain ⟨_, o, z⟩ := w1.ng i p m
        rw [hp] at z; cases z
      | nx => exact h1.elim
      | rt d => exact h1.elim
      | rw k => exact h1.elim
      | bk => exact h1.elim
      | ct => exact h1.elim
  · exact (h1.no (by unfold callFL; rw [if_neg hl])).elim
section
variable {n np : Nat} {f : M Fl} {fa : M (List D)} {k : Nat} {fA : Addr} {fd : FuncData} {ps : List Str} {x : Str} {e : Expr} {es : List Expr} {p pos : Pos}
theorem pd_call (F : FnOk X.prog X.w X.K X.mg X.base (L2.CX X.prog X.w) k fA fd ps (spG C n np f)) (hr : Room k X.A) (hm : X.mg x = some (.ref fA)) (hk : PySem.W.keepIn X.K (.ref fA) = true) (hb : Binds X.K fd ps []) (tk : Takes X W) (ha : PA X (e :: es) (dA C W fa))
    (hg : Gl X x := by rfl) (hdb : (x == ("__debug__" : Str)) = false := by decide) (he : starEach (e :: es) X.env = (false, eval e X.env) :: starEach es X.env := by rfl) (hpl : (backTo pos (starEach es X.env)).any (·.1) = false := by rfl) :
    PE X (.Call (.Name x p) (e :: es) [] pos) (dE C W (callG n np f fa)) :=
  pe_mono (pe_callS F hr hg hm hk hb (fun σ => passAt tk σ) ha hdb he hpl) fun _ _ _ h => dE_callG h
theorem pl_call (F : FnOk X.prog X.w X.K X.mg X.base (L2.CX X.prog X.w) k fA fd ps (spG C n np f)) (hr : Room k X.A) (hm : X.mg x = some (.ref fA)) (hk : PySem.W.keepIn X.K (.ref fA) = true) (hb : Binds X.K fd ps []) (tk : Takes X W) (ha : PA X (e :: es) (dA C W fa))
    (hg : Gl X x := by rfl) (hdb : (x == ("__debug__" : Str)) = false := by decide) (he : starEach (e :: es) X.env = (false, eval e X.env) :: starEach es X.env := by rfl) (hpl : (backTo pos (starEach es X.env)).any (·.1) = false := by rfl) :
    PE X (.Call (.Name x p) (e :: es) [] pos) (dL C W (callL n np f fa)) :=
  pe_mono (pe_callS F hr hg hm hk hb (fun σ => passAt tk σ) ha hdb he hpl) fun _ _ _ h => dL_callG h
end

/-! ### a def that is handed own things, first of all -/
def sameRoot : T → T → Bool
  | .v p _, .v q _ => p == q
  | .l p _, .l q _ => p == q
  | .o p _ _ _, .o q _ _ _ => p == q
  | _, _ => false
theorem sameRoot_val {G H G' H' : Hp} {t t' : T} {v v' : V} (h : sameRoot t t' = true) (r : RpO C G H t v) (r' : RpO C G' H' t' v') : v' = v := by
  cases t <;> cases t' <;> first | (cases h; done) | skip
  · obtain ⟨_, rfl, _⟩ := r
    obtain ⟨_, rfl, _⟩ := r'
    rw [show _ = _ from beq_iff_eq.mp h]
  · obtain ⟨_, rfl, _⟩ := r
    obtain ⟨_, rfl, _⟩ := r'
    rw [show _ = _ from beq_iff_eq.mp h]
  · obtain ⟨_, _, rfl, _⟩ := r
    obtain ⟨_, _, rfl, _⟩ := r'
    rw [show _ = _ from beq_iff_eq.mp h]
/-- behind a def that was handed slot i's things: t' is what they are now -/
def backO {β : Type} (i : Nat) (t : T) (b : β) (ρ1 ρ' : Ev) : O β := match ρ' with
  | .ow t' :: _ => if sameRoot t t' then .ok b (ρ1.set i (.ow t')) else .no
  | _ => .no
def backX {β : Type} (i : Nat) (t : T) (c : Str) (l : List D) (ρ1 ρ' : Ev) : O β := match ρ' with
  | .ow t' :: _ => if sameRoot t t' then .ex c l (ρ1.set i (.ow t')) else .no
  | _ => .no
theorem backO_ok {β : Type} {i : Nat} {t : T} {b : β} {ρ1 ρ' : Ev} : backO i t b ρ1 ρ' = .no ∨ ∃ t', ρ'[0]? = some (.ow t') ∧ sameRoot t t' = true ∧ backO i t b ρ1 ρ' = .ok b (ρ1.set i (.ow t')) := by
  unfold backO
  split
  · rename_i t' _
    by_cases h : sameRoot t t' = true
    · exact .inr ⟨t', rfl, h, by rw [if_pos h]⟩
    · exact .inl (by rw [if_neg h])
  · exact .inl rfl
theorem backX_ok {β : Type} {i : Nat} {t : T} {c : Str} {l : List D} {ρ1 ρ' : Ev} : (backX i t c l ρ1 ρ' : O β) = .no ∨ ∃ t', ρ'[0]? = some (.ow t') ∧ sameRoot t t' = true ∧ (backX i t c l ρ1 ρ' : O β) = .ex c l (ρ1.set i (.ow t')) := by
  unfold backX
  split
  · rename_i t' _
    by_cases h : sameRoot t t' = true
    · exact .inr ⟨t', rfl, h, by rw [if_pos h]⟩
    · exact .inl (by rw [if_neg h])
  · exact .inl rfl
theorem Wf.back {G1 H1 G' H' : Hp} {σ σ' : L2.St} {ρ1 ρ' : Ev} {α1 α' : Nat → List Addr} {i : Nat} {t t' : T} {v : V} (w1 : Wf C G1 H1 σ ρ1 α1) (e : ρ1[i]? = some (.ow t)) (hv : σ[i]? = some (some v)) (rv : RpO C G1 H1 t v)
    (st : Step G1 H1 (fun j => if j = 0 then α1 i else []) G' H' α') (w' : Wf C G' H' σ' ρ' α') (e' : ρ'[0]? = some (.ow t')) (hs : sameRoot t t' = true) : Step G1 H1 α1 G' H' (onα i t'.adr α1) ∧ Wf C G' H' σ (ρ1.set i (.ow t')) (onα i t'.adr α1) := by
  have hi : i < ρ1.length := (List.getElem?_eq_some_iff.mp e).1
  have h0 : 0 < σ'.length := by rw [w'.len]; exact (List.getElem?_eq_some_iff.mp e').1
  obtain ⟨q1, v', q2, q3⟩ := w'.sl 0 σ'[0] _ (List.getElem?_eq_getElem h0) e'
  have ev := sameRoot_val hs rv q3
  subst ev
  have a0 : ∀ a, a ∈ t'.adr → a ∈ α' 0 := fun a m => by rw [q1]; exact m
  have sub : ∀ {j : Nat} {a : Addr}, a ∈ (if j = 0 then α1 i else []) → a ∈ α1 i := fun {j a} m => by
    by_cases z : j = 0
    · rw [if_pos z] at m; exact m
    · rw [if_neg z] at m; cases m
  have old : ∀ a, a ∈ t'.adr → a ∈ α1 i ∨ H1 a = none := fun a m => (st.aa 0 a (a0 a m)).elim (fun ⟨j, z⟩ => .inl (sub z)) .inr
  have nin : ∀ {j : Nat} {a : Addr}, a ∈ onα i t'.adr α1 j → (j = i ∧ a ∈ t'.adr) ∨ (j ≠ i ∧ a ∈ α1 j) := fun {j a} m => by
    have m' : a ∈ (if j = i then t'.adr else α1 j) := m
    by_cases z : j = i
    · rw [if_pos z] at m'; exact .inl ⟨z, m'⟩
    · rw [if_neg z] at m'; exact .inr ⟨z, m'⟩
  have keepH : ∀ {j : Nat} {a : Addr} {o : HO}, j ≠ i → a ∈ α1 j → H1 a = some o → H' a = some o := fun {j a o} z m ho => st.hh a o ho fun k km => z (w1.dj j i a m (sub km))
  refine ⟨⟨st.gg, fun a o ho n => st.hh a o ho fun k km => n i (sub km), fun a o ho => (st.fr a o ho).imp id fun z => z.imp id fun ⟨k, km⟩ => ⟨i, sub km⟩, fun j a m => ?_, st.fz⟩, ⟨w'.le, by rw [List.length_set]; exact w1.len, fun j x r e1 e2 => ?_, fun j hj => ?_, fun j => ?_, fun j k a m1 m2 => ?_, fun j a m => ?_⟩⟩
  · rcases nin m with ⟨_, m⟩ | ⟨_, m⟩
    · exact (old a m).elim (fun z => .inl ⟨i, z⟩) .inr
    · exact .inl ⟨j, m⟩
  · show SlotOk C G' H' x r (if j = i then t'.adr else α1 j)
    by_cases z : j = i
    · subst z
      rw [List.getElem?_set_self hi] at e2
      cases e2
      rw [hv] at e1
      cases e1
      rw [if_pos rfl]
      exact ⟨rfl, v', rfl, q3⟩
    · rw [List.getElem?_set_ne (Ne.symm z)] at e2
      rw [if_neg z]
      refine (w1.sl j x r e1 e2).keep st.gg fun a m => ?_
      obtain ⟨_, o, ho⟩ := w1.ng j a m
      rw [keepH z m ho, ho]
  · rw [List.length_set] at hj
    show (if j = i then t'.adr else α1 j) = []
    rw [if_neg (by omega)]
    exact w1.out j hj
  · show (if j = i then t'.adr else α1 j).Nodup
    split
    · rw [← q1]; exact w'.nd 0
    · exact w1.nd j
  · rcases nin m1 with ⟨z1, m1⟩ | ⟨z1, m1⟩ <;> rcases nin m2 with ⟨z2, m2⟩ | ⟨z2, m2⟩
    · rw [z1, z2]
    · rcases old a m1 with z | z
      · exact absurd (w1.dj k i a m2 z) z2
      · obtain ⟨_, o, ho⟩ := w1.ng k a m2
        rw [z] at ho; cases ho
    · rcases old a m2 with z | z
      · exact absurd (w1.dj j i a m1 z) z1
      · obtain ⟨_, o, ho⟩ := w1.ng j a m1
        rw [z] at ho; cases ho
    · exact w1.dj j k a m1 m2
  · rcases nin m with ⟨z, m⟩ | ⟨z, m⟩
    · exact w'.ng 0 a (a0 a m)
    · obtain ⟨k1, o, k2⟩ := w1.ng j a m
      have k3 := keepH z m k2
      refine ⟨?_, o, k3⟩
      cases q : G' a with
      | none => rfl
      | some u =>
        rcases st.fr a u q with y | y | ⟨k, y⟩
        · rw [k1] at y; cases y
        · rw [k2] at y; cases y
        · exact absurd (w1.dj j i a m (sub y)) z
def outO (i : Nat) (t : T) (ρ1 : Ev) : O Fl → O D
  | .ok (.rt d) ρ' => backO i t d ρ1 ρ'
  | .ok .nx ρ' => backO i t .non ρ1 ρ'
  | .ok (.ro l) ρ' => backO i t (.lst l) ρ1 ρ'
  | .ex c l ρ' => backX i t c l ρ1 ρ'
  | _ => .no
def callFO (n np i : Nat) (f : M Fl) (ds : List D) : M D := fun ρ1 => match ρ1[i]? with
  | some (.ow t) => if ds.length + 1 = np then outO i t ρ1 (f (unE n (.ow t :: ds.map .va))) else .no
  | _ => .no
def isOw (i : Nat) (ρ : Ev) : Bool := match ρ[i]? with
  | some (.ow _) => true
  | _ => false
def callO (n np i : Nat) (f : M Fl) (fa : M (List D)) : M D := fun ρ => if isOw i ρ then (fa >>= fun ds => callFO n np i f ds) ρ else .no
theorem ow_val {G H : Hp} {σ : L2.St} {ρ : Ev} {α : Nat → List Addr} {i : Nat} {t : T} (w : Wf C G H σ ρ α) (e : ρ[i]? = some (.ow t)) : ∃ v, σ[i]? = some (some v) ∧ RpO C G H t v ∧ α i = t.adr := by
  have hs : i < σ.length := by rw [w.len]; exact (List.getElem?_eq_some_iff.mp e).1
  obtain ⟨k1, v, k2, k3⟩ := w.sl i σ[i] _ (List.getElem?_eq_getElem hs) e
  exact ⟨v, by rw [List.getElem?_eq_getElem hs, k2], k3, k1⟩
theorem RpL.slotsO {G H : Hp} {σ : L2.St} {ρ1 : Ev} {α1 : Nat → List Addr} {i : Nat} {t : T} {v : V} {ds : List D} {vs : List V} (w1 : Wf C G H σ ρ1 α1) (e : ρ1[i]? = some (.ow t)) (rv : RpO C G H t v) (ea : α1 i = t.adr) (r : RpL C G ds vs) :
    Wf C G H ((v :: vs).map some) (.ow t :: ds.map .va) (fun j => if j = 0 then α1 i else []) := by
  have w0 := r.slots w1.le
  have sub : ∀ {j : Nat} {a : Addr}, a ∈ (if j = 0 then α1 i else []) → j = 0 ∧ a ∈ α1 i := fun {j a} m => by
    by_cases z : j = 0
    · rw [if_pos z] at m; exact ⟨z, m⟩
    · rw [if_neg z] at m; cases m
  refine ⟨w1.le, by rw [List.length_map, List.length_cons, List.length_cons, List.length_map, r.length], fun j x s e1 e2 => ?_, fun j hj => ?_, fun j => ?_, fun j k a m1 m2 => by rw [(sub m1).1, (sub m2).1], fun j a m => w1.ng i a (sub m).2⟩
  · cases j with
    | zero =>
      cases (show some (some v) = some x from e1)
      cases (show some (Slot.ow t) = some s from e2)
      exact ⟨ea, v, rfl, rv⟩
    | succ j =>
      exact w0.sl j x s (by simpa using e1) (by simpa using e2)
  · show (if j = 0 then α1 i else []) = []
    rw [if_neg (by rw [List.length_cons] at hj; omega)]
  · show (if j = 0 then α1 i else []).Nodup
    split
    · exact w1.nd i
    · exact List.nodup_nil
theorem dE_callO {n np i : Nat} {f : M Fl} {fa : M (List D)} {σ : L2.St} {H : Hp} {Q : VK} (h : dE C W (callO n np i f fa) σ H Q) : tCallS (spG C n np f) (WE W) (tCons (tVar i) (dA C W fa)) σ H Q := by
  obtain ⟨G, ρ, α, w, h⟩ := h
  by_cases h0 : isOw i ρ = true
  · have h0' := h0
    unfold isOw at h0'
    cases e0 : ρ[i]? with
    | none => rw [e0] at h0'; cases h0'
    | some s0 =>
      rw [e0] at h0'
      cases s0 <;> first | (cases h0'; done) | skip
      rename_i t0
      obtain ⟨v0, hv0, _, _⟩ := ow_val w e0
      refine ⟨v0, hv0, G, ρ, α, w, (Rn.bind (R' := RpL C) (Rn.eq (m' := fa >>= fun ds => callFO n np i f ds) (by unfold callO; rw [if_pos h0]) h)).mono fun vs H1 hx => ?_⟩
      obtain ⟨G1, ρ1, α1, ds, w1, s1, rl, h1⟩ := hx
      cases e : ρ1[i]? with
      | none => exact (h1.no (by unfold callFO; rw [e])).elim
      | some s =>
        have z : ∃ t, s = .ow t := by
          unfold Rn callFO at h1
          rw [e] at h1
          cases s with
          | ow t => exact ⟨t, rfl⟩
          | _ => exact h1.elim
        obtain ⟨t, rfl⟩ := z
        obtain ⟨v, hv, rv, ea⟩ := ow_val w1 e
        rw [hv0] at hv
        cases hv
        by_cases hl : ds.length + 1 = np
        · refine ⟨G1, _, _, by rw [List.length_cons, List.length_map]; exact hl, RpL.slotsO w1 e rv ea rl, ?_⟩
          unfold Rn callFO at h1
          rw [e] at h1
          simp only [if_pos hl] at h1
          unfold RnS
          cases e2 : f (unE n (.ow t :: ds.map .va)) with
          | no => rw [e2] at h1; exact h1
          | ex c l ρ' =>
            rw [e2] at h1
            rcases backX_ok (β := D) (i := i) (t := t) (c := c) (l := l) (ρ1 := ρ1) (ρ' := ρ') with z | ⟨t', z1, z2, z3⟩
            · rw [show outO i t ρ1 (.ex c l ρ') = .no from z] at h1; exact h1.elim
            · rw [show outO i t ρ1 (.ex c l ρ') = _ from z3] at h1
              intro cls dct σ' G' H' α' st w' r
              obtain ⟨b1, b2⟩ := Wf.back w1 e hv0 rv st w' z1 z2
              exact h1 cls dct G' H' _ b1 b2 r
          | ok fl ρ' =>
            rw [e2] at h1
            cases fl with
            | nx =>
              rcases backO_ok (i := i) (t := t) (b := D.non) (ρ1 := ρ1) (ρ' := ρ') with z | ⟨t', z1, z2, z3⟩
              · rw [show outO i t ρ1 (.ok .nx ρ') = .no from z] at h1; exact h1.elim
              · rw [show outO i t ρ1 (.ok .nx ρ') = _ from z3] at h1
                intro σ' G' H' α' st w'
                obtain ⟨b1, b2⟩ := Wf.back w1 e hv0 rv st w' z1 z2
                exact h1 .non G' H' _ b1 b2 rfl
            | rt d =>
              rcases backO_ok (i := i) (t := t) (b := d) (ρ1 := ρ1) (ρ' := ρ') with z | ⟨t', z1, z2, z3⟩
              · rw [show outO i t ρ1 (.ok (.rt d) ρ') = .no from z] at h1; exact h1.elim
              · rw [show outO i t ρ1 (.ok (.rt d) ρ') = _ from z3] at h1
                intro v σ' G' H' α' st w' r
                obtain ⟨b1, b2⟩ := Wf.back w1 e hv0 rv st w' z1 z2
                exact h1 v G' H' _ b1 b2 r
            | ro l =>
              rcases backO_ok (i := i) (t := t) (b := D.lst l) (ρ1 := ρ1) (ρ' := ρ') with z | ⟨t', z1, z2, z3⟩
              · rw [show outO i t ρ1 (.ok (.ro l) ρ') = .no from z] at h1; exact h1.elim
              · rw [show outO i t ρ1 (.ok (.ro l) ρ') = _ from z3] at h1
                intro p xs σ' G' H' α' st w' k1 k2 k3 k4 k5
                obtain ⟨b1, b2⟩ := Wf.back w1 e hv0 rv st w' z1 z2
                -- the list is no part of what the caller owns
                have np : ∀ j, p ∉ onα i t'.adr α1 j := fun j m => by
                  have m' : p ∈ (if j = i then t'.adr else α1 j) := m
                  by_cases z : j = i
                  · rw [if_pos z] at m'
                    have h0 : 0 < σ'.length := by rw [w'.len]; exact (List.getElem?_eq_some_iff.mp z1).1
                    obtain ⟨q1, _⟩ := w'.sl 0 σ'[0] _ (List.getElem?_eq_getElem h0) z1
                    exact k4 0 (by rw [q1]; exact m')
                  · rw [if_neg z] at m'
                    rcases k5 with ⟨k, km⟩ | hn
                    · have km' : p ∈ (if k = 0 then α1 i else []) := km
                      by_cases zk : k = 0
                      · rw [if_pos zk] at km'; exact z (w1.dj j i p m' km')
                      · rw [if_neg zk] at km'; cases km'
                    · obtain ⟨_, o, ho⟩ := w1.ng j p m'
                      rw [hn] at ho; cases ho
                refine h1 (.ref p) (upd G' p (.lst xs)) H' _ ⟨b1.gg.trans (le_upd k3), b1.hh, fun a o ho => ?_, b1.aa, b1.fz⟩ ⟨fun a o ho => ?_, b2.len, fun j x r e1 e2 => (b2.sl j x r e1 e2).keep (le_upd k3) fun _ _ => rfl, b2.out, b2.nd, b2.dj, fun j a m => ?_⟩ ⟨p, xs, rfl, .of upd_same, k2.mono (le_upd k3)⟩
                · by_cases q : a = p
                  · subst q
                    rcases k5 with ⟨k, km⟩ | hn
                    · have km' : a ∈ (if k = 0 then α1 i else []) := km
                      by_cases zk : k = 0
                      · rw [if_pos zk] at km'; exact .inr (.inr ⟨i, km'⟩)
                      · rw [if_neg zk] at km'; cases km'
                    · exact .inr (.inl hn)
                  · rw [upd_ne q] at ho; exact b1.fr a o ho
                · by_cases q : a = p
                  · subst q; rw [upd_same] at ho; cases ho; exact k1
                  · rw [upd_ne q] at ho; exact b2.le a o ho
                · obtain ⟨g1, g2⟩ := b2.ng j a m
                  refine ⟨?_, g2⟩
                  rw [upd_ne (fun z => np j (by rw [← z]; exact m))]; exact g1
            | rw k => exact h1.elim
            | bk => exact h1.elim
            | ct => exact h1.elim
        · exact (h1.no (by unfold callFO; rw [e]; exact if_neg hl)).elim
  · exact (h.no (by unfold callO; rw [if_neg h0])).elim
section
variable {n np : Nat} {f : M Fl} {fa : M (List D)} {k : Nat} {fA : Addr} {fd : FuncData} {ps : List Str} {x y : Str} {es : List Expr} {p p2 pos : Pos}
theorem pd_callO (i : Nat) (F : FnOk X.prog X.w X.K X.mg X.base (L2.CX X.prog X.w) k fA fd ps (spG C n np f)) (hr : Room k X.A) (hm : X.mg x = some (.ref fA)) (hk : PySem.W.keepIn X.K (.ref fA) = true) (hb : Binds X.K fd ps []) (tk : Takes X W) (ha : PA X es (dA C W fa))
    (hN : X.N[i]? = some y := by rfl) (hv : Vis X.env.scope y := by first | exact Or.inl rfl | exact Or.inr (Or.inl rfl) | exact Or.inr (Or.inr rfl)) (hd : (y == ("__debug__" : Str)) = false := by decide)
    (hcd : (y == ("__classdict__" : Str)) = false := by decide) (hs : starEach (.Name y p2 :: es) X.env = (false, eval (.Name y p2) X.env) :: starEach es X.env := by rfl)
    (hg : Gl X x := by rfl) (hdb : (x == ("__debug__" : Str)) = false := by decide) (hpl : (backTo pos (starEach es X.env)).any (·.1) = false := by rfl) :
    PE X (.Call (.Name x p) (.Name y p2 :: es) [] pos) (dE C W (callO n np i f fa)) :=
  pe_mono (pe_callS F hr hg hm hk hb (fun σ => passAt tk σ) (pa_cons (pe_var (i := i) hN hv hd hcd) ha hs) hdb hs hpl) fun _ _ _ h => dE_callO h
end
end
end Pd

set_option maxHeartbeats 4000000
namespace Pd
open PySem PySem.Spec PyProof.Rows L2

section
variable {C : Ct} {W : WX} {X : Cx}
/-! ### for -/
def forGo (bt : D → M Unit) (body : M Fl) : List D → M Fl
  | [] => pure .nx
  | d :: l => fun ρ => match bt d ρ with
    | .ok _ ρ1 => (match body ρ1 with
      | .ok .nx ρ2 => forGo bt body l ρ2
      | .ok .ct ρ2 => forGo bt body l ρ2
      | .ok .bk ρ2 => .ok .nx ρ2
      | r => r)
    | _ => .no
def forM (fi : M (List D)) (bt : D → M Unit) (body : M Fl) : M Fl := fi >>= fun l => forGo bt body l
theorem dS_for {fi : M (List D)} {bt : D → M Unit} {body : M Fl} {vt : List Nat} {E : Ends} {σ : L2.St} {H : Hp} (h : dS C W (forM fi bt body) E σ H) : tFor (dI C W fi) (dG C vt bt) (dS C W body) E σ H := by
  obtain ⟨G0, ρ0, α0, w0, h⟩ := h
  refine ⟨G0, ρ0, α0, w0, (RnS.bind (R' := fun G l J => IterOk C J l G) h).mono fun J H1 hx => ?_⟩
  obtain ⟨G1, ρ1, α1, l, w1, s1, ⟨Gd, Y, wk, hGd, hY⟩, h1⟩ := hx
  refine for_it wk (fun i σ2 H2 => ∃ G2 ρ2 α2, Wf C G2 H2 σ2 ρ2 α2 ∧ Le G1 G2 ∧ RnS C W (forGo bt body (l.drop i)) G2 H2 ρ2 α2 E) ⟨G1, ρ1, α1, w1, Le.refl G1, h1⟩ ?_ ?_ ?_
  · rintro i σ2 H2 hi ⟨G2, ρ2, α2, w2, g2, _⟩
    exact hGd G2 H2 g2 w2.le
  · rintro i x σ2 H2 H3 hi ⟨G2, ρ2, α2, w2, g2, h2⟩ y
    have ed : l[i]? = some l[i] := List.getElem?_eq_getElem hi
    obtain ⟨G3, e3, r3⟩ := hY i H2 G2 x H3 l[i] g2 w2.le ed y
    have w3 := w2.ext e3
    refine ⟨G3, ρ2, α2, l[i], w3, r3, ?_⟩
    have edrop : l.drop i = l[i] :: l.drop (i + 1) := List.drop_eq_getElem_cons hi
    rw [edrop] at h2
    unfold RnS at h2
    unfold RnG
    cases eb : bt l[i] ρ2 with
    | no =>
      rw [show forGo bt body (l[i] :: l.drop (i + 1)) ρ2 = .no by unfold forGo; rw [eb]] at h2
      exact h2.elim
    | ex c m ρ' =>
      rw [show forGo bt body (l[i] :: l.drop (i + 1)) ρ2 = .no by unfold forGo; rw [eb]] at h2
      exact h2.elim
    | ok u ρ3 =>
      intro σ3 G4 H4 α4 st4 w4 _ _
      refine ⟨G4, ρ3, α4, w4, ?_⟩
      have st := e3.step.trans st4
      have ego : ∀ r, body ρ3 = r → forGo bt body (l[i] :: l.drop (i + 1)) ρ2 = (match r with
          | .ok .nx ρ2 => forGo bt body (l.drop (i + 1)) ρ2
          | .ok .ct ρ2 => forGo bt body (l.drop (i + 1)) ρ2
          | .ok .bk ρ2 => .ok .nx ρ2
          | r => r) := fun r e => by
        show (match bt l[i] ρ2 with
          | .ok _ ρ1 => (match body ρ1 with
            | .ok .nx ρ2 => forGo bt body (l.drop (i + 1)) ρ2
            | .ok .ct ρ2 => forGo bt body (l.drop (i + 1)) ρ2
            | .ok .bk ρ2 => .ok .nx ρ2
            | r => r)
          | _ => .no) = _
        rw [eb]
        show (match body ρ3 with
            | .ok .nx ρ2 => forGo bt body (l.drop (i + 1)) ρ2
            | .ok .ct ρ2 => forGo bt body (l.drop (i + 1)) ρ2
            | .ok .bk ρ2 => .ok .nx ρ2
            | r => r) = _
        rw [e]
      unfold RnS
      cases er : body ρ3 with
      | no =>
        rw [ego _ er] at h2
        exact h2
      | ex c m ρ' =>
        rw [ego _ er] at h2
        exact fun cls dct σ' G' H' α' s w r => h2 cls dct σ' G' H' α' (st.trans s) w r
      | ok f ρ4 =>
        rw [ego _ er] at h2
        cases f with
        | nx => exact fun σ' G' H' α' s w => ⟨G', ρ4, α', w, g2.trans (st.gg.trans s.gg), RnS.step (st.trans s) h2⟩
        | ct => exact fun σ' G' H' α' s w => ⟨G', ρ4, α', w, g2.trans (st.gg.trans s.gg), RnS.step (st.trans s) h2⟩
        | bk => exact fun σ' G' H' α' s w => h2 σ' G' H' α' (st.trans s) w
        | rt d => exact fun v σ' G' H' α' s w r => h2 v σ' G' H' α' (st.trans s) w r
        | ro l => exact fun p xs σ' G' H' α' s w a b c c2 d => h2 p xs σ' G' H' α' (st.trans s) w a b c c2 (st.new' d)
        | rw k => exact fun t v σ' G' H' α' hk s w r pd nw => h2 t v σ' G' H' α' hk (st.trans s) w r pd fun a m => st.new' (nw a m)
  · rintro σ2 H2 ⟨G2, ρ2, α2, w2, _, h2⟩
    have edrop : l.drop l.length = [] := List.drop_length
    rw [edrop] at h2
    exact h2 σ2 G2 H2 α2 (.refl ..) w2
theorem pds_for {tg iter : Expr} {body : List Stmt} {fi : M (List D)} {bt : D → M Unit} {fb : M Fl} {vt : List Nat} {pos : Pos} (hp : PassesOwn (model X.prog X.w) X.A X.env X.xe) (hc : X.calm = true) (hi : PI X tg iter (dI C W fi)) (hg : PG X tg (dG C vt bt)) (hb : PSs X body (dS C W fb))
    (hs : ∀ x, foldedSetIterable iter X.env x = pure x := by intro _; rfl) : PS X (.For tg iter body [] pos) (dS C W (forM fi bt fb)) := ps_mono (ps_for hp hc hi hg hb hs) fun _ _ _ h => dS_for h

/-! ### while -/
def whN (c : M Bool) (body : M Fl) : Nat → M Fl
  | 0 => no
  | n + 1 => fun ρ => match c ρ with
    | .ok true ρ1 => (match body ρ1 with
      | .ok .nx ρ2 => whN c body n ρ2
      | .ok .ct ρ2 => whN c body n ρ2
      | .ok .bk ρ2 => .ok .nx ρ2
      | r => r)
    | .ok false ρ1 => .ok .nx ρ1
    | .ex e l ρ1 => .ex e l ρ1
    | .no => .no
theorem whN_more {c : M Bool} {body : M Fl} : ∀ {n : Nat} {ρ : Ev}, whN c body n ρ ≠ .no → whN c body (n + 1) ρ = whN c body n ρ
  | 0, _, h => absurd rfl h
  | n + 1, ρ, h => by
    unfold whN at h
    show (match c ρ with
      | .ok true ρ1 => (match body ρ1 with
        | .ok .nx ρ2 => whN c body (n + 1) ρ2
        | .ok .ct ρ2 => whN c body (n + 1) ρ2
        | .ok .bk ρ2 => .ok .nx ρ2
        | r => r)
      | .ok false ρ1 => .ok .nx ρ1
      | .ex e l ρ1 => .ex e l ρ1
      | .no => .no) = (match c ρ with
      | .ok true ρ1 => (match body ρ1 with
        | .ok .nx ρ2 => whN c body n ρ2
        | .ok .ct ρ2 => whN c body n ρ2
        | .ok .bk ρ2 => .ok .nx ρ2
        | r => r)
      | .ok false ρ1 => .ok .nx ρ1
      | .ex e l ρ1 => .ex e l ρ1
      | .no => .no)
    cases e1 : c ρ with
    | no => rfl
    | ex _ _ _ => rfl
    | ok b ρ1 =>
      rw [e1] at h
      cases b with
      | false => rfl
      | true =>
        show (match body ρ1 with
          | .ok .nx ρ2 => whN c body (n + 1) ρ2
          | .ok .ct ρ2 => whN c body (n + 1) ρ2
          | .ok .bk ρ2 => .ok .nx ρ2
          | r => r) = (match body ρ1 with
          | .ok .nx ρ2 => whN c body n ρ2
          | .ok .ct ρ2 => whN c body n ρ2
          | .ok .bk ρ2 => .ok .nx ρ2
          | r => r)
        have h' : (match body ρ1 with
          | .ok .nx ρ2 => whN c body n ρ2
          | .ok .ct ρ2 => whN c body n ρ2
          | .ok .bk ρ2 => .ok .nx ρ2
          | r => r) ≠ .no := h
        cases e2 : body ρ1 with
        | no => rfl
        | ex _ _ _ => rfl
        | ok f ρ2 =>
          rw [e2] at h'
          cases f <;> first | rfl | exact whN_more h'
theorem whN_le {c : M Bool} {body : M Fl} {n : Nat} {ρ : Ev} (h : whN c body n ρ ≠ .no) : ∀ k, whN c body (n + k) ρ = whN c body n ρ
  | 0 => rfl
  | k + 1 => by
    have e := whN_le h k
    rw [show n + (k + 1) = n + k + 1 from rfl, whN_more (by rw [e]; exact h), e]
theorem whN_eq {c : M Bool} {body : M Fl} {n m : Nat} {ρ : Ev} (h : whN c body n ρ ≠ .no) (h' : whN c body m ρ ≠ .no) : whN c body n ρ = whN c body m ρ := by
  have e1 := whN_le h m
  have e2 := whN_le h' n
  rw [← e1, ← e2, Nat.add_comm]
open Classical in
noncomputable def whM (c : M Bool) (body : M Fl) : M Fl := fun ρ => if h : ∃ n, whN c body n ρ ≠ .no then whN c body h.choose ρ else .no
theorem whM_of {c : M Bool} {body : M Fl} {n : Nat} {ρ : Ev} (h : whN c body n ρ ≠ .no) : whM c body ρ = whN c body n ρ := by
  have z : ∃ n, whN c body n ρ ≠ .no := ⟨n, h⟩
  unfold whM
  rw [dif_pos z]
  exact whN_eq z.choose_spec h
theorem whM_ex {c : M Bool} {body : M Fl} {ρ : Ev} : whM c body ρ = .no ∨ ∃ n, whN c body n ρ ≠ .no ∧ whM c body ρ = whN c body n ρ := by
  by_cases z : ∃ n, whN c body n ρ ≠ .no
  · obtain ⟨n, h⟩ := z
    exact .inr ⟨n, h, whM_of h⟩
  · exact .inl (by unfold whM; rw [dif_neg z])
theorem dS_while {c : M Bool} {body : M Fl} {E : Ends} {σ : L2.St} {H : Hp} (h : dS C W (whM c body) E σ H) : tWhile (dT C W c) (dS C W body) E σ H := by
  obtain ⟨G, ρ, α, w, h⟩ := h
  rcases whM_ex (c := c) (body := body) (ρ := ρ) with z | ⟨n, hn, en⟩
  · exact (RnS.no z h).elim
  · refine ⟨fun m σ2 H2 => ∃ G2 ρ2 α2, Wf C G2 H2 σ2 ρ2 α2 ∧ RnS C W (whN c body m) G2 H2 ρ2 α2 E, ⟨n, G, ρ, α, w, ?_⟩, ?_⟩
    · unfold RnS at h ⊢
      rw [← en]
      exact h
    · rintro m σ2 H2 ⟨G2, ρ2, α2, w2, h2⟩
      cases m with
      | zero => exact (RnS.no rfl h2).elim
      | succ m =>
        refine ⟨G2, ρ2, α2, w2, ?_⟩
        have ew : ∀ r, c ρ2 = r → whN c body (m + 1) ρ2 = (match r with
            | .ok true ρ1 => (match body ρ1 with
              | .ok .nx ρ2 => whN c body m ρ2
              | .ok .ct ρ2 => whN c body m ρ2
              | .ok .bk ρ2 => .ok .nx ρ2
              | r => r)
            | .ok false ρ1 => .ok .nx ρ1
            | .ex e l ρ1 => .ex e l ρ1
            | .no => .no) := fun r e => by rw [← e]; rfl
        unfold RnS at h2
        unfold Rn
        cases ec : c ρ2 with
        | no => rw [ew _ ec] at h2; exact h2
        | ex e l ρ1 =>
          rw [ew _ ec] at h2
          exact fun cls dct G' H' α' s w r => h2 cls dct σ2 G' H' α' s w r
        | ok b ρ1 =>
          rw [ew _ ec] at h2
          intro b' G3 H3 α3 st3 w3 rb
          cases rb
          cases b with
          | false =>
            show (if false = true then _ else E.nx σ2 H3)
            rw [if_neg (by decide)]
            exact h2 σ2 G3 H3 α3 st3 w3
          | true =>
            show (if true = true then _ else E.nx σ2 H3)
            rw [if_pos rfl]
            refine ⟨fun σ4 H4 => ∃ G4 ρ4 α4, Wf C G4 H4 σ4 ρ4 α4 ∧ RnS C W (whN c body m) G4 H4 ρ4 α4 E, fun σ4 H4 q => ⟨m, Nat.lt_succ_self m, q⟩, G3, ρ1, α3, w3, ?_⟩
            have h2' : match (match body ρ1 with
              | .ok .nx ρ2 => whN c body m ρ2
              | .ok .ct ρ2 => whN c body m ρ2
              | .ok .bk ρ2 => .ok .nx ρ2
              | r => r) with
              | .ok .nx ρ' => ∀ σ' G' H' α', Step G2 H2 α2 G' H' α' → Wf C G' H' σ' ρ' α' → E.nx σ' H'
              | .ok (.rt d) ρ' => ∀ v σ' G' H' α', Step G2 H2 α2 G' H' α' → Wf C G' H' σ' ρ' α' → Rp C G' d v → E.rt v H'
              | .ok (.ro l) ρ' => ∀ p xs σ' G' H' α', Step G2 H2 α2 G' H' α' → Wf C G' H' σ' ρ' α' → H' p = some (.lst xs) → RpL C G' l xs → G' p = none → (∀ i, p ∉ α' i) → ((∃ i, p ∈ α2 i) ∨ H2 p = none) → E.rt (.ref p) H'
              | .ok (.rw k) ρ' => ∀ t v σ' G' H' α', k t → Step G2 H2 α2 G' H' α' → Wf C G' H' σ' ρ' α' → RpO C G' H' t v → Pend G' H' α' t.adr → (∀ a ∈ t.adr, (∃ i, a ∈ α2 i) ∨ H2 a = none) → E.rt v H'
              | .ok .bk ρ' => ∀ σ' G' H' α', Step G2 H2 α2 G' H' α' → Wf C G' H' σ' ρ' α' → E.bk σ' H'
              | .ok .ct ρ' => ∀ σ' G' H' α', Step G2 H2 α2 G' H' α' → Wf C G' H' σ' ρ' α' → E.ct σ' H'
              | .ex c l ρ' => ∀ cls dct σ' G' H' α', Step G2 H2 α2 G' H' α' → Wf C G' H' σ' ρ' α' → ExOk C c l cls dct G' H' → W cls dct σ' H'
              | .no => False := h2
            unfold RnS
            cases er : body ρ1 with
            | no => rw [er] at h2'; exact h2'
            | ex c m ρ' =>
              rw [er] at h2'
              exact fun cls dct σ' G' H' α' s w r => h2' cls dct σ' G' H' α' (st3.trans s) w r
            | ok f ρ4 =>
              rw [er] at h2'
              cases f with
              | nx => exact fun σ' G' H' α' s w => ⟨G', ρ4, α', w, RnS.step (st3.trans s) h2'⟩
              | ct => exact fun σ' G' H' α' s w => ⟨G', ρ4, α', w, RnS.step (st3.trans s) h2'⟩
              | bk => exact fun σ' G' H' α' s w => h2' σ' G' H' α' (st3.trans s) w
              | rt d => exact fun v σ' G' H' α' s w r => h2' v σ' G' H' α' (st3.trans s) w r
              | ro l => exact fun p xs σ' G' H' α' s w a b c c2 d => h2' p xs σ' G' H' α' (st3.trans s) w a b c c2 (st3.new' d)
              | rw k => exact fun t v σ' G' H' α' hk s w r pd nw => h2' t v σ' G' H' α' hk (st3.trans s) w r pd fun a m => st3.new' (nw a m)
theorem pds_while {e : Expr} {body : List Stmt} {c : M Bool} {fb : M Fl} {pos : Pos} (hp : PassesOwn (model X.prog X.w) X.A X.env X.xe) (hc : PT X e (dT C W c)) (hb : PSs X body (dS C W fb)) : PS X (.While e body [] pos) (dS C W (whM c fb)) := ps_mono (ps_while hp hc hb) fun _ _ _ h => dS_while h

/-! ### y = [.. for ..], on one line -/
theorem pds_setLc {y : Str} {py : Pos} {elt tg iter : Expr} {ifs : List Expr} {scope : Scope} {pos spos : Pos} (i : Nat) (own : List (Str × Nat)) {fi : M (List D)} {bt : D → M Unit} {tt : M Bool} {te : M D} {vt : List Nat} (hvt : ∀ j ∈ vt, j ∈ own.map (·.2)) (hc : X.calm = true) (hN : X.N.Nodup)
    (hsw : swapsWith (.ListComp elt [⟨tg, iter, ifs, 0⟩] scope pos) (some (.Name y py)) spos.line X.env = pure true) (hi : PI X tg iter (dI C W fi)) (ok : BlkOk X.N X.env.scope scope own)
    (hg : ∀ (s : Shared) (H : Hp) (D : Addr) (cl : List (Str × Addr)) (fp : List Addr), PG (X.blk s H scope (compEnvC scope cl D X.env) fp) tg (dG C vt bt)) (ht : ∀ (s : Shared) (H : Hp) (D : Addr) (cl : List (Str × Addr)) (fp : List Addr), PTs (X.blk s H scope (compEnvC scope cl D X.env) fp) ifs (dT C W0 tt))
    (he : ∀ (s : Shared) (H : Hp) (D : Addr) (cl : List (Str × Addr)) (fp : List Addr), PE (X.blk s H scope (compEnvC scope cl D X.env) fp) elt (dE C W0 te)) (hy : X.N[i]? = some y := by rfl) (hyl : X.env.scope.names.lookup y = some .local := by rfl) (hs : ∀ x, foldedSetIterable iter X.env x = pure x := by intro _; rfl) :
    PS X (.Assign [.Name y py] (.ListComp elt [⟨tg, iter, ifs, 0⟩] scope pos) spos) (dS C W (letM i (lsM (lcM fi bt tt te (own.map (·.2)))))) :=
  ps_mono (ps_setLc hc hN hy hyl hsw hi ok hg ht he hs) fun E σ H h => by
    obtain ⟨G, ρ, α, w, h⟩ := dS_let (C := C) h
    exact dL_lc hvt (dX_ls ⟨G, ρ, α, w, h⟩)
end
end Pd

set_option maxHeartbeats 4000000
namespace Pd
open PySem PySem.Spec PyProof.Rows L2

section
variable {C : Ct} {W : WX} {X : Cx}
/-! ### one's own things are changed -/
theorem Wf.upd {G H : Hp} {σ : L2.St} {ρ : Ev} {α : Nat → List Addr} {i : Nat} {p : Addr} {o : HO} {x : Option V} {r : Slot} (w : Wf C G H σ ρ α) (hp : p ∈ α i) (hx : σ[i]? = some x) (k : SlotOk C G (upd H p o) x r (α i)) (nf : nfz o = true := by rfl) :
    Step G H α G (upd H p o) α ∧ Wf C G (upd H p o) σ (ρ.set i r) α := by
  obtain ⟨g0, o0, h0⟩ := w.ng i p hp
  have hi : i < ρ.length := by rw [← w.len]; exact (List.getElem?_eq_some_iff.mp hx).1
  refine ⟨⟨Le.refl G, fun a u e n => ?_, fun a u e => .inl e, fun j a m => .inl ⟨j, m⟩, fun _ _ _ e => nfz_upd nf e⟩, ⟨fun a u e => ?_, by rw [List.length_set]; exact w.len, fun j y s e1 e2 => ?_, fun j hj => w.out j (by rw [List.length_set] at hj; exact hj), w.nd, w.dj, fun j a m => ?_⟩⟩
  · rw [upd_ne (fun z => n i (by rw [z]; exact hp))]; exact e
  · rw [upd_ne (fun z => by rw [z, g0] at e; cases e)]; exact w.le a u e
  · by_cases z : j = i
    · subst z
      rw [List.getElem?_set_self hi] at e2
      cases e2
      rw [hx] at e1
      cases e1
      exact k
    · rw [List.getElem?_set_ne (Ne.symm z)] at e2
      exact (w.sl j y s e1 e2).keep (Le.refl G) fun a m => upd_ne fun q => z (w.dj j i p (by rw [← q]; exact m) hp)
  · obtain ⟨k1, u, k2⟩ := w.ng j a m
    refine ⟨k1, ?_⟩
    by_cases q : a = p
    · subst q; exact ⟨o, upd_same⟩
    · exact ⟨u, by rw [upd_ne q]; exact k2⟩
def ownL : Slot → Option (List D)
  | .ls l => some l
  | .ow (.v _ l) => some l
  | _ => none
def putL (l : List D) : Slot → Slot
  | .ls _ => .ls l
  | .ow (.v p _) => .ow (.v p l)
  | s => s
theorem own_nm {G H : Hp} {σ : L2.St} {ρ : Ev} {α : Nat → List Addr} {i : Nat} {s : Slot} {l : List D} (w : Wf C G H σ ρ α) (e : ρ[i]? = some s) (ho : ownL s = some l) :
    ∃ p xs, σ[i]? = some (some (.ref p)) ∧ p ∈ α i ∧ H p = some (.lst xs) ∧ RpL C G l xs ∧ ∀ l' ys, RpL C G l' ys → SlotOk C G (upd H p (.lst ys)) (some (.ref p)) (putL l' s) (α i) := by
  have hs : i < σ.length := by rw [w.len]; exact (List.getElem?_eq_some_iff.mp e).1
  have k := w.sl i σ[i] _ (List.getElem?_eq_getElem hs) e
  cases s <;> first | (cases ho; done) | skip
  · cases ho
    obtain ⟨p, xs, k1, k2, k3, k4⟩ := k
    refine ⟨p, xs, by rw [List.getElem?_eq_getElem hs, k1], by rw [k2]; exact List.mem_singleton.mpr rfl, k3, k4, fun l' ys r => ⟨p, ys, rfl, k2, upd_same, r⟩⟩
  · rename_i t
    cases t <;> first | (cases ho; done) | skip
    cases ho
    obtain ⟨k1, v, k2, xs, rfl, k3, k4⟩ := k
    refine ⟨_, xs, by rw [List.getElem?_eq_getElem hs, k2], by rw [k1]; unfold T.adr; exact List.mem_singleton.mpr rfl, k3, k4, fun l' ys r => ⟨by rw [k1]; rfl, _, rfl, ys, rfl, upd_same, r⟩⟩
/-- a method of an own list at a name: what it gives, what the list is then -/
def OwOk (C : Ct) (r : V → List V → Hp → VK → Prop) (g : List D → List D → Option (D × List D)) : Prop := ∀ G H p xs l ds vs d l' Q, Le G H → H p = some (.lst xs) → G p = none → RpL C G l xs → RpL C G ds vs → g l ds = some (d, l') →
  (∀ v ys, Rp C G d v → RpL C G l' ys → Q v (upd H p (.lst ys))) → r (.ref p) vs H Q
def owGo (i : Nat) (g : List D → List D → Option (D × List D)) (ds : List D) : M D := fun ρ1 => match ρ1[i]? with
  | some s => (match ownL s with
    | some l => (match g l ds with
      | some (d, l') => .ok d (ρ1.set i (putL l' s))
      | none => .no)
    | none => .no)
  | none => .no
def hasL (i : Nat) (ρ : Ev) : Bool := match ρ[i]? with
  | some s => (ownL s).isSome
  | none => false
def owM (i : Nat) (g : List D → List D → Option (D × List D)) (fa : M (List D)) : M D := fun ρ => if hasL i ρ then (fa >>= fun ds => owGo i g ds) ρ else .no
theorem hasL_ok {i : Nat} {ρ : Ev} (h : hasL i ρ = true) : ∃ s l, ρ[i]? = some s ∧ ownL s = some l := by
  unfold hasL at h
  cases e : ρ[i]? with
  | none => rw [e] at h; cases h
  | some s =>
    rw [e] at h
    exact ⟨s, (ownL s).get h, rfl, by rw [Option.some_get]⟩
theorem ow_end {r : V → List V → Hp → VK → Prop} {g : List D → List D → Option (D × List D)} (ok : OwOk C r g) {i : Nat} {ds : List D} {vs : List V} {σ : L2.St} {G H : Hp} {ρ : Ev} {α : Nat → List Addr} {Q : VK} {p : Addr} (w : Wf C G H σ ρ α) (hv : σ[i]? = some (some (.ref p))) (rd : RpL C G ds vs)
    (h : Rn C W (RpE C) (owGo i g ds) σ G H ρ α Q) : r (.ref p) vs H Q := by
  cases e : ρ[i]? with
  | none => exact (h.no (by unfold owGo; rw [e])).elim
  | some s =>
    cases eo : ownL s with
    | none => exact (h.no (by unfold owGo; rw [e]; show (match ownL s with | some l => _ | none => _) = _; rw [eo])).elim
    | some l =>
      cases eg : g l ds with
      | none => exact (h.no (by unfold owGo; rw [e]; show (match ownL s with | some l => _ | none => _) = _; rw [eo]; show (match g l ds with | some (d, l') => _ | none => _) = _; rw [eg])).elim
      | some q =>
        obtain ⟨d, l'⟩ := q
        obtain ⟨p', xs, k1, k2, k3, k4, k5⟩ := own_nm w e eo
        rw [hv] at k1
        cases k1
        have h' := rn_ok_of (show owGo i g ds ρ = .ok d (ρ.set i (putL l' s)) by unfold owGo; rw [e]; show (match ownL s with | some l => _ | none => _) = _; rw [eo]; show (match g l ds with | some (d, l') => _ | none => _) = _; rw [eg]) h
        refine ok G H p xs l ds vs d l' Q w.le k3 (w.ng i p k2).1 k4 rd eg fun v ys rv ry => ?_
        obtain ⟨st, w'⟩ := w.upd (o := .lst ys) k2 hv (k5 l' ys ry)
        exact h' v G _ α st w' rv
theorem dE_ow {r : V → List V → Hp → VK → Prop} {g : List D → List D → Option (D × List D)} (ok : OwOk C r g) {i : Nat} {fa : M (List D)} {σ : L2.St} {H : Hp} {Q : VK} (h : dE C W (owM i g fa) σ H Q) : tBM C.K "list" r (tVar i) (dA C W fa) σ H Q := by
  obtain ⟨G, ρ, α, w, h⟩ := h
  by_cases hz : hasL i ρ = true
  · obtain ⟨s, l, e, eo⟩ := hasL_ok hz
    obtain ⟨p, xs, k1, k2, k3, k4, _⟩ := own_nm w e eo
    refine ⟨.ref p, k1, .inl ⟨rfl, xs, .of k3⟩, G, ρ, α, w, (Rn.bind (R' := RpL C) (Rn.eq (m' := fa >>= fun ds => owGo i g ds) (by unfold owM; rw [if_pos hz]) h)).mono fun vs H1 hx => ?_⟩
    obtain ⟨G1, ρ1, α1, ds, w1, s1, rl, h1⟩ := hx
    exact ow_end ok w1 k1 rl h1
  · exact (h.no (by unfold owM; rw [if_neg hz])).elim
theorem dE_ow0 {r : V → List V → Hp → VK → Prop} {g : List D → List D → Option (D × List D)} (ok : OwOk C r g) {i : Nat} {σ : L2.St} {H : Hp} {Q : VK} (h : dE C W (owM i g (pure [])) σ H Q) : tBM0 C.K "list" r (tVar i) σ H Q := by
  obtain ⟨G, ρ, α, w, h⟩ := h
  by_cases hz : hasL i ρ = true
  · obtain ⟨s, l, e, eo⟩ := hasL_ok hz
    obtain ⟨p, xs, k1, k2, k3, k4, _⟩ := own_nm w e eo
    refine ⟨.ref p, k1, .inl ⟨rfl, xs, .of k3⟩, ow_end ok w k1 (show RpL C G [] [] from rfl) (Rn.eq (m' := owGo i g []) (by unfold owM; rw [if_pos hz]; rfl) h)⟩
  · exact (h.no (by unfold owM; rw [if_neg hz])).elim
def apD : List D → List D → Option (D × List D)
  | l, [d] => if l.length < sizeLine then some (.non, l ++ [d]) else none
  | _, _ => none
theorem ok_append : OwOk C rAppend apD := fun G H p xs l ds vs d l' Q le hp g rl rd e q => by
  match ds, rd, e with
  | [a], rd, e =>
    obtain ⟨y, z, rfl, ra, rfl⟩ := rd
    simp only [apD] at e
    split at e
    · rename_i hz
      cases e
      exact ⟨p, xs, y, rfl, rfl, hp, by rw [rl.length]; exact hz, q .non _ rfl (rl.append ⟨y, [], rfl, ra, rfl⟩)⟩
    · cases e
theorem RpL.erase {G : Hp} {l : List D} {xs : List V} (n : Nat) (h : RpL C G l xs) : RpL C G (l.eraseIdx n) (xs.eraseIdx n) := by
  rw [List.eraseIdx_eq_take_drop_succ, List.eraseIdx_eq_take_drop_succ]
  exact (h.take n).append (h.drop (n + 1))
theorem RpL.set {G : Hp} : ∀ {l : List D} {xs : List V} {n : Nat} {d : D} {v : V}, RpL C G l xs → Rp C G d v → RpL C G (l.set n d) (xs.set n v)
  | [], _, n, _, _, h, _ => by cases h; rfl
  | _ :: _, _, 0, _, _, h, r => by
    obtain ⟨x, s, rfl, h1, h2⟩ := h
    exact ⟨_, s, rfl, r, h2⟩
  | _ :: _, _, n + 1, _, _, h, r => by
    obtain ⟨x, s, rfl, h1, h2⟩ := h
    exact ⟨x, _, rfl, h1, RpL.set (n := n) h2 r⟩
def popD : List D → List D → Option (D × List D)
  | l, [] => match l[l.length - 1]? with
    | some d => some (d, l.dropLast)
    | none => none
  | _, _ => none
theorem ok_pop : OwOk C rPop popD := fun G H p xs l ds vs d l' Q le hp g rl rd e q => by
  match ds, rd, e with
  | [], rd, e =>
    cases rd
    simp only [popD] at e
    split at e
    · rename_i d0 he
      cases e
      obtain ⟨y, h1, h2⟩ := rl.get he
      refine ⟨p, xs, y, rfl, rfl, hp, by rw [rl.length]; exact h1, ?_⟩
      refine q y _ h2 ?_
      rw [List.dropLast_eq_take, List.dropLast_eq_take, rl.length]
      exact rl.take _
    · cases e
def popAtD : List D → List D → Option (D × List D)
  | l, [.int i] => if -(2 ^ 63) ≤ i ∧ i < 2 ^ 63 then (match seqIndex? i l.length with
    | some k => (match l[k]? with
      | some d => some (d, l.eraseIdx k)
      | none => none)
    | none => none) else none
  | _, _ => none
theorem ok_popAt : OwOk C rPopAt popAtD := fun G H p xs l ds vs d l' Q le hp g rl rd e q => by
  unfold popAtD at e
  split at e
  · rename_i i
    obtain ⟨y, z, rfl, ra, rfl⟩ := rd
    cases ra
    split at e
    · rename_i hz
      split at e
      · rename_i k ek
        split at e
        · rename_i d0 he
          cases e
          obtain ⟨v, h1, h2⟩ := rl.get he
          exact ⟨p, xs, i, k, v, rfl, rfl, hp, hz.1, hz.2, by rw [rl.length]; exact ek, h1, q v _ h2 (rl.erase k)⟩
        · cases e
      · cases e
    · cases e
  · cases e
section
variable {x : Str} {e : Expr} {es : List Expr} {apos p2 pos : Pos} {fa : M (List D)}
theorem pd_append (i : Nat) (hC : C.K = X.K) (ha : PA X [e] (dA C W fa)) (hN : X.N[i]? = some x := by rfl) (hv : Vis X.env.scope x := by first | exact Or.inl rfl | exact Or.inr (Or.inl rfl) | exact Or.inr (Or.inr rfl)) (hd : (x == ("__debug__" : Str)) = false := by decide)
    (hcd : (x == ("__classdict__" : Str)) = false := by decide) (hbase : attributeBase (.Name x p2) "append" X.env (eval (.Name x p2) X.env) = eval (.Name x p2) X.env := by rfl)
    (hfew : ((backTo pos (starEach [e] X.env)).all (fun x => !x.1) && (backToKw pos (keywordEach [] X.env)).all (fun x => x.1.isSome)
      && decide ([e].length + ([] : List Keyword).length + (if ([] : List Keyword).isEmpty then 0 else 1) < 30)) = true := by rfl)
    (hline : (apos.endLine == pos.line) = true := by rfl) (hs : starEach [e] X.env = (false, eval e X.env) :: starEach [] X.env := by rfl) (hplain : (backTo pos (starEach [] X.env)).any (·.1) = false := by rfl) :
    PE X (.Call (.Attribute (.Name x p2) "append" apos) [e] [] pos) (dE C W (owM i apD fa)) :=
  pe_mono (pe_bm PySem.F.plainAttrs_list PySem.F.slot_list_append PySem.F.type_list_append mt_append (pe_var (i := i) hN hv hd hcd) ha hbase hfew hline hs hplain) fun _ _ _ h => hC ▸ dE_ow ok_append h
theorem pd_popAt (i : Nat) (hC : C.K = X.K) (ha : PA X [e] (dA C W fa)) (hN : X.N[i]? = some x := by rfl) (hv : Vis X.env.scope x := by first | exact Or.inl rfl | exact Or.inr (Or.inl rfl) | exact Or.inr (Or.inr rfl)) (hd : (x == ("__debug__" : Str)) = false := by decide)
    (hcd : (x == ("__classdict__" : Str)) = false := by decide) (hbase : attributeBase (.Name x p2) "pop" X.env (eval (.Name x p2) X.env) = eval (.Name x p2) X.env := by rfl)
    (hfew : ((backTo pos (starEach [e] X.env)).all (fun x => !x.1) && (backToKw pos (keywordEach [] X.env)).all (fun x => x.1.isSome)
      && decide ([e].length + ([] : List Keyword).length + (if ([] : List Keyword).isEmpty then 0 else 1) < 30)) = true := by rfl)
    (hline : (apos.endLine == pos.line) = true := by rfl) (hs : starEach [e] X.env = (false, eval e X.env) :: starEach [] X.env := by rfl) (hplain : (backTo pos (starEach [] X.env)).any (·.1) = false := by rfl) :
    PE X (.Call (.Attribute (.Name x p2) "pop" apos) [e] [] pos) (dE C W (owM i popAtD fa)) :=
  pe_mono (pe_bm PySem.F.plainAttrs_list PySem.F.slot_list_pop PySem.F.type_list_pop mt_popAt (pe_var (i := i) hN hv hd hcd) ha hbase hfew hline hs hplain) fun _ _ _ h => hC ▸ dE_ow ok_popAt h
theorem pd_pop (i : Nat) (hC : C.K = X.K) (hN : X.N[i]? = some x := by rfl) (hv : Vis X.env.scope x := by first | exact Or.inl rfl | exact Or.inr (Or.inl rfl) | exact Or.inr (Or.inr rfl)) (hd : (x == ("__debug__" : Str)) = false := by decide)
    (hcd : (x == ("__classdict__" : Str)) = false := by decide) (hbase : attributeBase (.Name x p2) "pop" X.env (eval (.Name x p2) X.env) = eval (.Name x p2) X.env := by rfl) (hline : (apos.endLine == pos.line) = true := by rfl) :
    PE X (.Call (.Attribute (.Name x p2) "pop" apos) [] [] pos) (dE C W (owM i popD (pure []))) :=
  pe_mono (pe_bm0 PySem.F.plainAttrs_list PySem.F.slot_list_pop PySem.F.type_list_pop mt_pop (pe_var (i := i) hN hv hd hcd) hbase hline) fun _ _ _ h => hC ▸ dE_ow0 ok_pop h
end

/-! ### a list within a list of one's own: x[k].m(..), the arguments known -/
theorem RpOL.setv {G H : Hp} {q : Addr} {l' : List D} {ys : List V} (ry : RpL C G l' ys) : ∀ {ts : List T} {zs : List V} {k : Nat} {l : List D}, (adrL ts).Nodup → RpOL C G H ts zs → ts[k]? = some (.v q l) →
    zs[k]? = some (.ref q) ∧ (∃ xs, H q = some (.lst xs) ∧ RpL C G l xs) ∧ q ∈ adrL ts ∧ adrL (ts.set k (.v q l')) = adrL ts ∧ RpOL C G (upd H q (.lst ys)) (ts.set k (.v q l')) zs
  | [], _, _, _, _, _, e => by simp at e
  | t :: ts, _, 0, l, nd, h, e => by
    cases (show some t = some (.v q l) from e)
    obtain ⟨x, r, rfl, ⟨xs, rfl, h1, h2⟩, h3⟩ := h
    have n : q ∉ adrL ts := by
      unfold adrL at nd
      unfold T.adr at nd
      exact (List.nodup_cons.mp nd).1
    refine ⟨rfl, ⟨xs, h1, h2⟩, by unfold adrL; unfold T.adr; exact List.mem_cons_self .., rfl, _, r, rfl, ⟨ys, rfl, upd_same, ry⟩, h3.keep (Le.refl G) fun a m => upd_ne fun z => n (by rw [← z]; exact m)⟩
  | t :: ts, _, k + 1, l, nd, h, e => by
    obtain ⟨x, r, rfl, h1, h3⟩ := h
    have nd' : (t.adr ++ adrL ts).Nodup := nd
    obtain ⟨n1, n2, n3⟩ := List.nodup_append.mp nd'
    obtain ⟨a1, a2, a3, a4, a5⟩ := RpOL.setv ry (k := k) n2 h3 (by simpa using e)
    refine ⟨a1, a2, by unfold adrL; exact List.mem_append_right _ a3, ?_, x, r, rfl, h1.keep (Le.refl G) fun a m => upd_ne fun z => n3 a m q a3 z, a5⟩
    show t.adr ++ adrL (ts.set k (.v q l')) = t.adr ++ adrL ts
    rw [a4]
theorem RpOL.setd {G H : Hp} {y : D} {v : V} (rv : Rp C G y v) : ∀ {ts : List T} {zs : List V} {k : Nat} {x : D}, RpOL C G H ts zs → ts[k]? = some (.d x) → k < zs.length ∧ adrL (ts.set k (.d y)) = adrL ts ∧ RpOL C G H (ts.set k (.d y)) (zs.set k v)
  | [], _, _, _, _, e => by simp at e
  | t :: ts, _, 0, x, h, e => by
    cases (show some t = some (.d x) from e)
    obtain ⟨z, r, rfl, h1, h3⟩ := h
    exact ⟨Nat.succ_pos _, rfl, v, r, rfl, rv, h3⟩
  | t :: ts, _, k + 1, x, h, e => by
    obtain ⟨z, r, rfl, h1, h3⟩ := h
    obtain ⟨a1, a2, a3⟩ := RpOL.setd rv (k := k) h3 (by simpa using e)
    refine ⟨Nat.succ_lt_succ a1, ?_, z, _, rfl, h1, a3⟩
    show t.adr ++ adrL (ts.set k (.d y)) = t.adr ++ adrL ts
    rw [a2]
theorem own_it {G H : Hp} {σ : L2.St} {ρ : Ev} {α : Nat → List Addr} {i k : Nat} {p q : Addr} {ts : List T} {l : List D} (w : Wf C G H σ ρ α) (e : ρ[i]? = some (.ow (.l p ts))) (et : ts[k]? = some (.v q l)) :
    ∃ zs xs, σ[i]? = some (some (.ref p)) ∧ H p = some (.lst zs) ∧ zs[k]? = some (.ref q) ∧ q ∈ α i ∧ H q = some (.lst xs) ∧ RpL C G l xs ∧ ∀ l' ys, RpL C G l' ys → SlotOk C G (upd H q (.lst ys)) (some (.ref p)) (.ow (.l p (ts.set k (.v q l')))) (α i) := by
  have hs : i < σ.length := by rw [w.len]; exact (List.getElem?_eq_some_iff.mp e).1
  obtain ⟨k1, v, k2, zs, rfl, k3, k4⟩ := w.sl i σ[i] _ (List.getElem?_eq_getElem hs) e
  have nd := w.nd i
  rw [k1] at nd
  have nd' : (p :: adrL ts).Nodup := nd
  obtain ⟨n1, n2⟩ := List.nodup_cons.mp nd'
  obtain ⟨a1, ⟨xs, a2, a3⟩, a4, _, _⟩ := RpOL.setv (l' := []) (ys := []) rfl n2 k4 et
  have pq : p ≠ q := fun z => n1 (by rw [z]; exact a4)
  refine ⟨zs, xs, by rw [List.getElem?_eq_getElem hs, k2], k3, a1, by rw [k1]; exact List.mem_cons_of_mem _ a4, a2, a3, fun l' ys ry => ?_⟩
  obtain ⟨_, _, _, b4, b5⟩ := RpOL.setv ry n2 k4 et
  refine ⟨by rw [k1]; show p :: adrL ts = p :: adrL _; rw [b4], _, rfl, zs, rfl, by rw [upd_ne pq]; exact k3, b5⟩
def itM (i k : Nat) (g : List D → List D → Option (D × List D)) (ds : List D) : M D := fun ρ => match ρ[i]? with
  | some (.ow (.l p ts)) => (match ts[k]? with
    | some (.v q l) => (match g l ds with
      | some (d, l') => .ok d (ρ.set i (.ow (.l p (ts.set k (.v q l')))))
      | none => .no)
    | _ => .no)
  | _ => .no
theorem itM_ok {i k : Nat} {g : List D → List D → Option (D × List D)} {ds : List D} {ρ : Ev} : itM i k g ds ρ = .no ∨ ∃ p ts q l d l', ρ[i]? = some (.ow (.l p ts)) ∧ ts[k]? = some (.v q l) ∧ g l ds = some (d, l') ∧ itM i k g ds ρ = .ok d (ρ.set i (.ow (.l p (ts.set k (.v q l'))))) := by
  unfold itM
  split
  · rename_i p ts e
    split
    · rename_i q l e2
      split
      · rename_i d l' e3
        exact .inr ⟨p, ts, q, l, d, l', e, e2, e3, rfl⟩
      · exact .inl rfl
    · exact .inl rfl
  · exact .inl rfl
theorem atI_of {α : Type} {xs : List α} {k : Nat} {v : α} (h : xs[k]? = some v) : atI xs (k : Int) = some v := by
  have hk := (List.getElem?_eq_some_iff.mp h).1
  unfold atI ixN
  rw [if_pos (Int.natCast_nonneg k), if_pos (Int.ofNat_lt.mpr hk)]
  exact h
/-- x[k], the reference -/
def itT (K : PySem.W.Frag) (i k : Nat) : TE := tOp (rIxL K) (tVar i) (tC (.int (k : Int)))
theorem pe_it (i k : Nat) {x : Str} {z : Nat} {p2 p3 pos : Pos} {n : Int} (hn : n = (k : Int)) (hN : X.N[i]? = some x) (hv : Vis X.env.scope x) (hd : (x == ("__debug__" : Str)) = false) (hcd : (x == ("__classdict__" : Str)) = false) (hs : PlainIx (.Constant (.int n) z p3)) :
    PE X (.Subscript (.Name x p2) (.Constant (.int n) z p3) pos) (itT X.K i k) := by
  subst hn
  exact pe_ix ix_list (pe_var (i := i) hN hv hd hcd) pe_int hs
theorem itT_of {G H : Hp} {σ : L2.St} {ρ : Ev} {α : Nat → List Addr} {i k : Nat} {p q : Addr} {ts : List T} {l : List D} {Q : VK} (w : Wf C G H σ ρ α) (e : ρ[i]? = some (.ow (.l p ts))) (et : ts[k]? = some (.v q l)) (h : (∃ xs, H q = some (.lst xs)) → Q (.ref q) H) : itT C.K i k σ H Q := by
  obtain ⟨zs, xs, k1, k2, k3, k4, k5, _⟩ := own_it w e et
  exact ⟨.ref p, k1, p, zs, k, .ref q, rfl, rfl, .of k2, atI_of k3, h ⟨xs, k5⟩⟩
theorem dE_it {r : V → List V → Hp → VK → Prop} {g : List D → List D → Option (D × List D)} (ok : OwOk C r g) {i k : Nat} {ds : List D} {σ : L2.St} {H : Hp} {Q : VK} (h : dE C W (itM i k g ds) σ H Q) : tBM C.K "list" r (itT C.K i k) (dA C W (pure ds)) σ H Q := by
  obtain ⟨G, ρ, α, w, h⟩ := h
  rcases itM_ok (i := i) (k := k) (g := g) (ds := ds) (ρ := ρ) with z | ⟨p, ts, q, l, d, l', e1, e2, e3, e4⟩
  · exact (h.no z).elim
  · refine itT_of w e1 e2 fun ⟨xs, hx⟩ => ⟨.inl ⟨rfl, xs, .of hx⟩, G, ρ, α, w, fun vs G' H' α' st w' rl => ?_⟩
    obtain ⟨zs, xs', k1, k2, k3, k4, k5, k6, k7⟩ := own_it w' e1 e2
    have h' := rn_ok_of e4 h
    refine ok G' H' q xs' l ds vs d l' Q w'.le k5 (w'.ng i q k4).1 k6 rl e3 fun v ys rv ry => ?_
    obtain ⟨st2, w2⟩ := w'.upd (o := .lst ys) k4 k1 (k7 l' ys ry)
    exact h' v G' _ α' (st.trans st2) w2 rv
section
variable {x : Str} {e : Expr} {z : Nat} {n : Int} {apos p2 p3 p4 pos : Pos} {ds : List D}
theorem pd_itAppend (i k : Nat) (hC : C.K = X.K) (hn : n = (k : Int)) (ha : PA X [e] (dA C W (pure ds))) (hN : X.N[i]? = some x := by rfl) (hv : Vis X.env.scope x := by first | exact Or.inl rfl | exact Or.inr (Or.inl rfl) | exact Or.inr (Or.inr rfl)) (hd : (x == ("__debug__" : Str)) = false := by decide)
    (hcd : (x == ("__classdict__" : Str)) = false := by decide) (hsx : PlainIx (.Constant (.int n) z p3) := by exact fun _ _ => rfl) (hbase : attributeBase (.Subscript (.Name x p2) (.Constant (.int n) z p3) p4) "append" X.env (eval (.Subscript (.Name x p2) (.Constant (.int n) z p3) p4) X.env) = eval (.Subscript (.Name x p2) (.Constant (.int n) z p3) p4) X.env := by rfl)
    (hfew : ((backTo pos (starEach [e] X.env)).all (fun x => !x.1) && (backToKw pos (keywordEach [] X.env)).all (fun x => x.1.isSome)
      && decide ([e].length + ([] : List Keyword).length + (if ([] : List Keyword).isEmpty then 0 else 1) < 30)) = true := by rfl)
    (hline : (apos.endLine == pos.line) = true := by rfl) (hs : starEach [e] X.env = (false, eval e X.env) :: starEach [] X.env := by rfl) (hplain : (backTo pos (starEach [] X.env)).any (·.1) = false := by rfl) :
    PE X (.Call (.Attribute (.Subscript (.Name x p2) (.Constant (.int n) z p3) p4) "append" apos) [e] [] pos) (dE C W (itM i k apD ds)) :=
  pe_mono (pe_bm PySem.F.plainAttrs_list PySem.F.slot_list_append PySem.F.type_list_append mt_append (pe_it i k hn hN hv hd hcd hsx) ha hbase hfew hline hs hplain) fun _ _ _ h => hC ▸ dE_it ok_append h
theorem pd_itPopAt (i k : Nat) (hC : C.K = X.K) (hn : n = (k : Int)) (ha : PA X [e] (dA C W (pure ds))) (hN : X.N[i]? = some x := by rfl) (hv : Vis X.env.scope x := by first | exact Or.inl rfl | exact Or.inr (Or.inl rfl) | exact Or.inr (Or.inr rfl)) (hd : (x == ("__debug__" : Str)) = false := by decide)
    (hcd : (x == ("__classdict__" : Str)) = false := by decide) (hsx : PlainIx (.Constant (.int n) z p3) := by exact fun _ _ => rfl) (hbase : attributeBase (.Subscript (.Name x p2) (.Constant (.int n) z p3) p4) "pop" X.env (eval (.Subscript (.Name x p2) (.Constant (.int n) z p3) p4) X.env) = eval (.Subscript (.Name x p2) (.Constant (.int n) z p3) p4) X.env := by rfl)
    (hfew : ((backTo pos (starEach [e] X.env)).all (fun x => !x.1) && (backToKw pos (keywordEach [] X.env)).all (fun x => x.1.isSome)
      && decide ([e].length + ([] : List Keyword).length + (if ([] : List Keyword).isEmpty then 0 else 1) < 30)) = true := by rfl)
    (hline : (apos.endLine == pos.line) = true := by rfl) (hs : starEach [e] X.env = (false, eval e X.env) :: starEach [] X.env := by rfl) (hplain : (backTo pos (starEach [] X.env)).any (·.1) = false := by rfl) :
    PE X (.Call (.Attribute (.Subscript (.Name x p2) (.Constant (.int n) z p3) p4) "pop" apos) [e] [] pos) (dE C W (itM i k popAtD ds)) :=
  pe_mono (pe_bm PySem.F.plainAttrs_list PySem.F.slot_list_pop PySem.F.type_list_pop mt_popAt (pe_it i k hn hN hv hd hcd hsx) ha hbase hfew hline hs hplain) fun _ _ _ h => hC ▸ dE_it ok_popAt h
end

/-! ### stores: x[k] = e, x[k][j] = e, x a tree of one's own; xs[k] = e -/
def stGo (i k : Nat) (d : D) : M Fl := fun ρ => match ρ[i]? with
  | some (.ow (.l p ts)) => (match ts[k]? with
    | some (.d _) => .ok .nx (ρ.set i (.ow (.l p (ts.set k (.d d)))))
    | _ => .no)
  | some (.ow (.v p l)) => if k < l.length then .ok .nx (ρ.set i (.ow (.v p (l.set k d)))) else .no
  | some (.ls l) => if k < l.length then .ok .nx (ρ.set i (.ls (l.set k d))) else .no
  | _ => .no
def stM (i k : Nat) (f : M D) : M Fl := f >>= stGo i k
theorem ixN_of {n k : Nat} (h : k < n) : ixN n (k : Int) = some k := by
  unfold ixN
  rw [if_pos (Int.natCast_nonneg k), if_pos (Int.ofNat_lt.mpr h)]
  rfl
theorem st_root {G H : Hp} {σ : L2.St} {ρ : Ev} {α : Nat → List Addr} {i k : Nat} {d : D} {v : V} (w : Wf C G H σ ρ α) (rv : Rp C G d v) (hn : stGo i k d ρ ≠ .no) :
    ∃ p zs s, σ[i]? = some (some (.ref p)) ∧ H p = some (.lst zs) ∧ k < zs.length ∧ p ∈ α i ∧ stGo i k d ρ = .ok .nx (ρ.set i s) ∧ SlotOk C G (upd H p (.lst (zs.set k v))) (some (.ref p)) s (α i) := by
  cases e : ρ[i]? with
  | none => exact (hn (by unfold stGo; rw [e])).elim
  | some s =>
    have hs : i < σ.length := by rw [w.len]; exact (List.getElem?_eq_some_iff.mp e).1
    have ks := w.sl i σ[i] _ (List.getElem?_eq_getElem hs) e
    unfold stGo at hn
    rw [e] at hn
    cases s with
    | un => exact (hn rfl).elim
    | va d => exact (hn rfl).elim
    | sc ns => exact (hn rfl).elim
    | pa _ _ => exact (hn rfl).elim
    | ls l =>
      by_cases hk : k < l.length
      · obtain ⟨p, xs, k1, k2, k3, k4⟩ := ks
        exact ⟨p, xs, .ls (l.set k d), by rw [List.getElem?_eq_getElem hs, k1], k3, by rw [k4.length]; exact hk, by rw [k2]; exact List.mem_singleton.mpr rfl, by unfold stGo; rw [e]; exact if_pos hk, p, _, rfl, k2, upd_same, k4.set rv⟩
      · exact (hn (if_neg hk)).elim
    | ow t =>
      obtain ⟨k1, v1, k2, k3⟩ := ks
      cases t with
      | d x => exact (hn rfl).elim
      | o p dx c ts => exact (hn rfl).elim
      | v p l =>
        by_cases hk : k < l.length
        · obtain ⟨xs, rfl, k4, k5⟩ := k3
          exact ⟨p, xs, .ow (.v p (l.set k d)), by rw [List.getElem?_eq_getElem hs, k2], k4, by rw [k5.length]; exact hk, by rw [k1]; exact List.mem_singleton.mpr rfl, by unfold stGo; rw [e]; exact if_pos hk, by rw [k1]; rfl, _, rfl, _, rfl, upd_same, k5.set rv⟩
        · exact (hn (if_neg hk)).elim
      | l p ts =>
        have hn' : (match ts[k]? with
          | some (.d _) => .ok .nx (ρ.set i (.ow (.l p (ts.set k (.d d)))))
          | _ => .no : O Fl) ≠ .no := hn
        cases et : ts[k]? with
        | none => rw [et] at hn'; exact (hn' rfl).elim
        | some t =>
          rw [et] at hn'
          cases t with
          | d x =>
            obtain ⟨zs, rfl, k4, k5⟩ := k3
            obtain ⟨a1, a2, a3⟩ := RpOL.setd rv k5 et
            have nd := w.nd i
            rw [k1] at nd
            have nd' : (p :: adrL ts).Nodup := nd
            obtain ⟨n1, n2⟩ := List.nodup_cons.mp nd'
            refine ⟨p, zs, .ow (.l p (ts.set k (.d d))), by rw [List.getElem?_eq_getElem hs, k2], k4, a1, by rw [k1]; exact List.mem_cons_self .., by unfold stGo; rw [e]; show (match ts[k]? with | some (.d _) => _ | _ => _) = _; rw [et], by rw [k1]; show p :: adrL ts = p :: adrL _; rw [a2], _, rfl, _, rfl, upd_same, ?_⟩
            exact a3.keep (Le.refl G) fun a m => upd_ne fun z => n1 (by rw [← z, ← a2]; exact m)
          | v q l => exact (hn' rfl).elim
          | l q us => exact (hn' rfl).elim
          | o q dx c us => exact (hn' rfl).elim
theorem pds_st (i k : Nat) {x : Str} {e : Expr} {z : Nat} {n : Int} {p2 p3 p4 pos : Pos} {f : M D} (hn : n = (k : Int)) (he : PE X e (dE C W f)) (hN : X.N[i]? = some x := by rfl) (hv : Vis X.env.scope x := by first | exact Or.inl rfl | exact Or.inr (Or.inl rfl) | exact Or.inr (Or.inr rfl)) (hd : (x == ("__debug__" : Str)) = false := by decide)
    (hcd : (x == ("__classdict__" : Str)) = false := by decide)
    (ha : ∀ v, assign (.Subscript (.Name x p2) (.Constant (.int n) z p3) p4) X.env v = (do
      let ov ← holding [v] (eval (.Name x p2) X.env)
      let iv ← holding [v, ov] (eval (.Constant (.int n) z p3) X.env)
      standAt p4
      holding [v, ov, iv] (setItem ov iv v)
      release [v, ov, iv] []) := by intro _; rfl)
    (hs : swapsWithSole [.Subscript (.Name x p2) (.Constant (.int n) z p3) p4] e pos.line X.env = pure false := by rfl) (hw : swappedStores [.Subscript (.Name x p2) (.Constant (.int n) z p3) p4] e X.env = pure none := by rfl)
    (h1 : (assignEach [.Subscript (.Name x p2) (.Constant (.int n) z p3) p4] X.env).map (·.2) = [assign (.Subscript (.Name x p2) (.Constant (.int n) z p3) p4) X.env] := by rfl) :
    PS X (.Assign [.Subscript (.Name x p2) (.Constant (.int n) z p3) p4] e pos) (dS C W (stM i k f)) := by
  subst hn
  exact ps_mono (ps_asg he (pg_sub (pe_var (i := i) hN hv hd hcd) pe_int set_list ha) hs hw h1) fun E σ H h => by
    obtain ⟨G, ρ, α, w, h⟩ := h
    refine ⟨G, ρ, α, w, (RnS.bind (R' := RpE C) h).mono fun v H1 hx => ?_⟩
    obtain ⟨G1, ρ1, α1, d, w1, s1, rv, h1⟩ := hx
    by_cases hno : stGo i k d ρ1 = .no
    · exact (RnS.no hno h1).elim
    · obtain ⟨p, zs, s, k1, k2, k3, k4, k5, k6⟩ := st_root w1 rv hno
      obtain ⟨st, w2⟩ := w1.upd (o := .lst (zs.set k v)) k4 k1 k6
      refine ⟨.ref p, k1, p, zs, k, k, rfl, rfl, k2, ixN_of k3, ?_⟩
      unfold RnS at h1
      rw [k5] at h1
      exact h1 σ G1 _ α1 st w2
/-- x[k][j] = e -/
def st2Go (i k j : Nat) (d : D) : M Fl := fun ρ => match ρ[i]? with
  | some (.ow (.l p ts)) => (match ts[k]? with
    | some (.v q l) => if j < l.length then .ok .nx (ρ.set i (.ow (.l p (ts.set k (.v q (l.set j d)))))) else .no
    | _ => .no)
  | _ => .no
def st2M (i k j : Nat) (f : M D) : M Fl := f >>= st2Go i k j
theorem st2Go_ok {i k j : Nat} {d : D} {ρ : Ev} : st2Go i k j d ρ = .no ∨ ∃ p ts q l, ρ[i]? = some (.ow (.l p ts)) ∧ ts[k]? = some (.v q l) ∧ j < l.length ∧ st2Go i k j d ρ = .ok .nx (ρ.set i (.ow (.l p (ts.set k (.v q (l.set j d)))))) := by
  unfold st2Go
  split
  · rename_i p ts e
    split
    · rename_i q l e2
      by_cases h : j < l.length
      · exact .inr ⟨p, ts, q, l, e, e2, h, if_pos h⟩
      · exact .inl (if_neg h)
    · exact .inl rfl
  · exact .inl rfl
theorem pds_st2 (i k j : Nat) {x : Str} {e : Expr} {z z' : Nat} {n n' : Int} {p2 p3 p4 p5 p6 pos : Pos} {f : M D} (hn : n = (k : Int)) (hn' : n' = (j : Int)) (he : PE X e (dE C W f)) (hC : C.K = X.K) (hN : X.N[i]? = some x := by rfl) (hv : Vis X.env.scope x := by first | exact Or.inl rfl | exact Or.inr (Or.inl rfl) | exact Or.inr (Or.inr rfl)) (hd : (x == ("__debug__" : Str)) = false := by decide)
    (hcd : (x == ("__classdict__" : Str)) = false := by decide) (hsx : PlainIx (.Constant (.int n) z p3) := by exact fun _ _ => rfl)
    (ha : ∀ v, assign (.Subscript (.Subscript (.Name x p2) (.Constant (.int n) z p3) p4) (.Constant (.int n') z' p5) p6) X.env v = (do
      let ov ← holding [v] (eval (.Subscript (.Name x p2) (.Constant (.int n) z p3) p4) X.env)
      let iv ← holding [v, ov] (eval (.Constant (.int n') z' p5) X.env)
      standAt p6
      holding [v, ov, iv] (setItem ov iv v)
      release [v, ov, iv] []) := by intro _; rfl)
    (hs : swapsWithSole [.Subscript (.Subscript (.Name x p2) (.Constant (.int n) z p3) p4) (.Constant (.int n') z' p5) p6] e pos.line X.env = pure false := by rfl) (hw : swappedStores [.Subscript (.Subscript (.Name x p2) (.Constant (.int n) z p3) p4) (.Constant (.int n') z' p5) p6] e X.env = pure none := by rfl)
    (h1 : (assignEach [.Subscript (.Subscript (.Name x p2) (.Constant (.int n) z p3) p4) (.Constant (.int n') z' p5) p6] X.env).map (·.2) = [assign (.Subscript (.Subscript (.Name x p2) (.Constant (.int n) z p3) p4) (.Constant (.int n') z' p5) p6) X.env] := by rfl) :
    PS X (.Assign [.Subscript (.Subscript (.Name x p2) (.Constant (.int n) z p3) p4) (.Constant (.int n') z' p5) p6] e pos) (dS C W (st2M i k j f)) := by
  subst hn'
  exact ps_mono (ps_asg he (pg_sub (pe_it i k hn hN hv hd hcd hsx) pe_int set_list ha) hs hw h1) fun E σ H h => by
    obtain ⟨G, ρ, α, w, h⟩ := h
    refine ⟨G, ρ, α, w, (RnS.bind (R' := RpE C) h).mono fun v H1 hx => ?_⟩
    obtain ⟨G1, ρ1, α1, d, w1, s1, rv, h1⟩ := hx
    rcases st2Go_ok (i := i) (k := k) (j := j) (d := d) (ρ := ρ1) with hno | ⟨p, ts, q, l, e1, e2, e3, e4⟩
    · exact (RnS.no hno h1).elim
    · obtain ⟨zs, xs, k1, k2, k3, k4, k5, k6, k7⟩ := own_it w1 e1 e2
      obtain ⟨st, w2⟩ := w1.upd (o := .lst (xs.set j v)) k4 k1 (k7 _ _ (k6.set rv))
      refine hC ▸ itT_of w1 e1 e2 fun _ => ⟨q, xs, j, j, rfl, rfl, k5, ixN_of (by rw [k6.length]; exact e3), ?_⟩
      unfold RnS at h1
      rw [e4] at h1
      exact h1 σ G1 _ α1 st w2

/-! ### a, b = e1, e2 -/
def par2M (i j : Nat) (f g : M Slot) : M Fl := f >>= fun s => g >>= fun t => setS i s >>= fun _ => setS j t >>= fun _ => pure .nx
theorem dS_par2 {i j : Nat} (hij : i ≠ j) {f g : M Slot} {E : Ends} {σ : L2.St} {H : Hp} (h : dS C W (par2M i j f g) E σ H) : tPar i j (tCons (dX C W f) (tCons (dX C W g) tNil)) E σ H := by
  obtain ⟨G, ρ, α, w, h⟩ := h
  refine ⟨G, ρ, α, w, ?_⟩
  unfold RnS par2M at h
  unfold RnX
  cases e : f ρ with
  | no => rw [bind_no e] at h; exact h
  | ex c l ρ' =>
    rw [bind_ex e] at h
    exact fun cls dct G' H' α' s w r => h cls dct σ G' H' α' s w r
  | ok s ρ1 =>
    rw [bind_ok e] at h
    intro v as G1 H1 α1 st1 w1 k1 p1 n1
    refine ⟨G1, ρ1, α1, w1, ?_⟩
    unfold RnX
    cases e2 : g ρ1 with
    | no => rw [bind_no e2] at h; exact h
    | ex c l ρ' =>
      rw [bind_ex e2] at h
      exact fun cls dct G' H' α' s w r => h cls dct σ G' H' α' (st1.trans s) w r
    | ok t ρ2 =>
      rw [bind_ok e2] at h
      intro u bs G2 H2 α2 st2 w2 k2 p2 n2
      refine ⟨v, u, rfl, ?_⟩
      obtain ⟨k1', p1'⟩ := p1.step st2 k1
      by_cases hi : i < ρ2.length
      · rw [bind_ok (show setS i s ρ2 = .ok () (ρ2.set i s) from if_pos hi)] at h
        by_cases hj : j < (ρ2.set i s).length
        · rw [bind_ok (show setS j t (ρ2.set i s) = .ok () ((ρ2.set i s).set j t) from if_pos hj)] at h
          have w3 := w2.setS hi k1' p1'
          have nab : ∀ a ∈ bs, a ∉ as := fun a m q => by
            rcases n2 a m with ⟨k, z⟩ | z
            · exact (p1.2 a q).2.2 k z
            · obtain ⟨o, y⟩ := (p1.2 a q).2.1
              rw [z] at y; cases y
          have p3 : Pend G2 H2 (onα i as α2) bs := ⟨p2.1, fun a m => ⟨(p2.2 a m).1, (p2.2 a m).2.1, fun k q => by
            have q' : a ∈ (if k = i then as else α2 k) := q
            by_cases z : k = i
            · rw [if_pos z] at q'; exact nab a m q'
            · rw [if_neg z] at q'; exact (p2.2 a m).2.2 k q'⟩⟩
          have w4 := w3.setS hj k2 p3
          refine h _ G2 H2 _ (Step.onS (Step.onS (st1.trans st2) fun a m => ?_) fun a m => ?_) w4
          · exact n1 a m
          · exact st1.new' (n2 a m)
        · rw [bind_no (show setS j t (ρ2.set i s) = .no from if_neg hj)] at h
          exact h.elim
      · rw [bind_no (show setS i s ρ2 = .no from if_neg hi)] at h
        exact h.elim
theorem pds_par2 (i j : Nat) {x y : Str} {a b : Expr} {f g : M Slot} {px py pt pos : Pos} {kt k2 pt2} (hc : X.calm = true) (hN : X.N.Nodup) (hij : i ≠ j) (ha : PE X a (dX C W f)) (hb : PE X b (dX C W g)) (hi : X.N[i]? = some x := by rfl) (hj : X.N[j]? = some y := by rfl)
    (hx : X.env.scope.names.lookup x = some .local := by rfl) (hy : X.env.scope.names.lookup y = some .local := by rfl)
    (hw : swappedStores [.Tuple [.Name x px, .Name y py] kt pt] (.Tuple [a, b] k2 pt2) X.env = pure (some [x, y]) := by rfl)
    (hs : swapsWithSole [.Tuple [.Name x px, .Name y py] kt pt] (.Tuple [a, b] k2 pt2) pos.line X.env = pure false := by rfl)
    (hsa : starEach [a, b] X.env = (false, eval a X.env) :: starEach [b] X.env := by rfl) (hsb : starEach [b] X.env = (false, eval b X.env) :: starEach [] X.env := by rfl) :
    PS X (.Assign [.Tuple [.Name x px, .Name y py] kt pt] (.Tuple [a, b] k2 pt2) pos) (dS C W (par2M i j f g)) :=
  ps_mono (ps_par hc hN hi hj hij hx hy (pa_cons ha (pa_cons hb pa_nil hsb) hsa) hw hs) fun _ _ _ h => dS_par2 hij h
end
end Pd

set_option maxHeartbeats 4000000
namespace Pd
open PySem PySem.Spec PyProof.Rows L2

section
variable {C : Ct} {W : WX} {X : Cx}
/-! ### an own error with a place -/
/-- B.__init__(self, ..), B an own class over ValueError without an __init__ of its own -/
structure Sup (K : PySem.W.Frag) (S : Addr) (mc : Value) : Prop where
  rd : PySem.W.readsIn K S mc = true
  ga : PySem.W.specialIn K (.ref S) "__getattribute__" = some (some (.builtin "type.__getattribute__"))
  at_ : PySem.W.findCls K (.ref S) mc "__init__" = some (.val (.builtin "ValueError.__init__"))
theorem pe_sup {S : Addr} {mc : Value} {B : Str} {e : Expr} {es : List Expr} {ta : TA} {p1 p2 pos : Pos} {pl : Sem Bool} (hm : X.mg B = some (.ref S)) (r : Sup X.K S mc) (ha : PA X (e :: es) ta) (hg : Gl X B := by rfl) (hdb : (B == ("__debug__" : Str)) = false := by decide)
    (hc : eval (.Call (.Attribute (.Name B p1) "__init__" p2) (e :: es) [] pos) X.env = (do
      let ov ← eval (.Name B p1) X.env
      standAt p2.atName
      let (f, first) ← holding [ov] (getMethod ov "__init__" pl)
      callWith pos f first (backTo pos (starEach (e :: es) X.env)) (backToKw pos (keywordEach [] X.env))) := by rfl)
    (he : starEach (e :: es) X.env = (false, eval e X.env) :: starEach es X.env := by rfl) (hpl : (backTo pos (starEach es X.env)).any (·.1) = false := by rfl) :
    PE X (.Call (.Attribute (.Name B p1) "__init__" p2) (e :: es) [] pos) (tVeI X.K ta) := by
  refine ⟨fun pins s σ H Q I h => ?_⟩
  refine PySem.W.methodCall_KW (ld_glob I hg hm ?_ hdb) hc
  refine PySem.W.method_cls I.kIn r.ga (PySem.W.cls_value I.kIn r.rd r.at_ (by first | rfl | decide +kernel) ?_)
  show wpAny _ _ (callWith pos (Value.builtin "ValueError.__init__") [] (backTo pos (starEach (e :: es) X.env)) []) _ _ _
  refine PyProof.Rows.callWith_method1 (thn (ha.run pos pins _ σ H _ (I.tok _) h) fun us s1 ⟨vs, H1, I1, r1, a, C, ws, ev, hl, T, ea, q⟩ => ?_) he hpl
  subst ev
  cases r1 with
  | @cons _ u0 _ ur ra rw' =>
    obtain rfl : u0 = Value.ref a := ra
    have hlen : ur.length ≤ sizeLine := by
      rw [← Paired.length rw', sizeLine_eq]
      omega
    exact oinit_ok T I1 ea hlen fun s' J => ⟨.non, H1, J, rfl, q⟩
/-- def __init__(self, place): B.__init__(self, text); self.place = place -/
def spPlace (K : PySem.W.Frag) : Sp := fun vs H Q _ => ∃ a p cd, vs = [.ref a, p] ∧ OexC K cd ∧ PySem.W.findIn K (.ref cd) "place" = some none ∧ H a = some (exo a cd none) ∧ ∀ dx, H dx = none → dx ≠ a → Q .non (upd (upd H dx (exd dx [("place", p)])) a (exo a cd (some dx)))
/-- what the written part says of such a class -/
structure ExP (K : PySem.W.Frag) (cd fI : Addr) : Prop where
  T : OexC K cd
  iC : PySem.W.findIn K (.ref cd) "__init__" = some (some (.ref fI))
  tI : PySem.W.typeIn K (.ref fI) = some (.type "function")
  noN : PySem.W.findIn K (.ref cd) "place" = some none
  ga : PySem.W.findIn K (.ref cd) "__getattribute__" = some (some (.builtin "BaseException.__getattribute__"))
  gg : PySem.W.findIn K (.ref cd) "__getattr__" = some none
  hdC : PySem.W.hasDictIn K cd = true
  te : PySem.W.exmOne K (.ref cd) (.ref cd) = some true
def mkM (c : Str) (f : M D) : M Fl := f >>= fun d => fun ρ => .ex c [d] ρ
theorem mk_heap {H1 : Hp} {a cd dx : Addr} {p : V} (na : H1 a = none) (nd : H1 dx = none) (ne : dx ≠ a) :
    upd (del (upd (upd (upd H1 a (exo a cd none)) dx (exd dx [("place", p)])) a (exo a cd (some dx))) a) dx (.xd [("place", p)]) = upd H1 dx (.xd [("place", p)]) := by
  funext b
  by_cases h1 : b = dx
  · subst h1; rw [upd_same, upd_same]
  · rw [upd_ne h1, upd_ne h1]
    by_cases h2 : b = a
    · subst h2; rw [del_same, na]
    · rw [del_ne h2, upd_ne h2, upd_ne h1, upd_ne h2]
theorem pds_raise {c : Str} {cd fI : Addr} {k : Nat} {fd : FuncData} {ps : List Str} {x : Str} {e : Expr} {p pos pos2 : Pos} {f : M D} (hc : X.calm = true) (hK : C.K = X.K) (T : ExP X.K cd fI) (hcls : C.cls c = some cd)
    (F1 : FnOk X.prog X.w X.K X.mg X.base (L2.CX X.prog X.w) k fI fd ps (spPlace X.K)) (hr : Room (k + 1) X.A) (hb : Binds X.K fd ps []) (tk : Takes X W) (hm : X.mg x = some (.ref cd)) (ha : PE X e (dE C W f))
    (hg : Gl X x := by rfl) (hdb : (x == ("__debug__" : Str)) = false := by decide) (he : starEach (e :: []) X.env = (false, eval e X.env) :: starEach [] X.env := by rfl) (hpl : (backTo pos (starEach [] X.env)).any (·.1) = false := by rfl) :
    PS X (.Raise (some (.Call (.Name x p) [e] [] pos)) none pos2) (dS C W (mkM c f)) :=
  ps_mono (ps_raise hc tk (pmk_oex (dvs := []) T.T T.iC T.tI F1 hr hb .nil (fun _ _ _ _ _ _ _ ⟨_, _, _, _, _, _, _, _, _, _, _, _, z⟩ => z.elim) hg hm (pa_cons ha pa_nil he) hdb he hpl)) fun E σ H h => by
    obtain ⟨G, ρ, α, w, h⟩ := h
    refine ⟨G, ρ, α, w, (RnS.bind (R' := RpE C) h).mono fun v H1 hx => ?_⟩
    obtain ⟨G1, ρ1, α1, d, w1, s1, rv, h1⟩ := hx
    refine ⟨by show 1 ≤ 1000; decide, fun a na => ⟨a, v, cd, rfl, T.T, T.noN, upd_same, fun dx nd ne => ⟨rfl, dx, [("place", v)], upd_same, ?_, ?_, ?_⟩⟩⟩
    · rw [upd_ne ne, upd_same]
    · rw [upd_ne ne] at nd; exact nd
    · have nd' : H1 dx = none := by rw [upd_ne ne] at nd; exact nd
      rw [mk_heap na nd' ne]
      have x := Ext.new (o := .xd [(("place" : Str), v)]) w1.le nd'
      exact h1 (.ref cd) (some dx) σ _ _ α1 x.step (w1.ext x) ⟨cd, hcls, rfl, .inr ⟨d, dx, v, rfl, rfl, upd_same, rv.mono x.gg⟩⟩
/-! ### try .. except X as n: return n.place -/
def tPlace (a : Addr) (d : Option Addr) (te : TE) : TE := fun σ H Q => te σ H fun x H1 => x = .ref a ∧ ∃ (dd : Addr) (v : V), d = some dd ∧ H1 dd = some (.xd [(("place" : Str), v)]) ∧ Q v H1
theorem pe_place {cd fI a : Addr} {oe : Obj} {d : Option Addr} {pn : List (Addr × Obj)} {e : Expr} {te : TE} {pos : Pos} (T : ExP X.K cd fI) (hz : Zc (.ref cd) d oe) (hf : ∃ vs, oe.data = .fields vs) (he : PE (X.suite a ((a, oe) :: pn)) e te)
    (hb : attributeBase e "place" X.env (eval e X.env) = eval e X.env := by rfl) : PE (X.suite a ((a, oe) :: pn)) (.Attribute e "place" pos) (tPlace a d te) := by
  refine ⟨fun pins s σ H Q I h => ?_⟩
  refine attr_of hb (thn (he.run pins s σ H _ I h) fun u s1 hh => ?_)
  obtain ⟨x, H1, I1, rx, ex, dd, v, ed, ea, q⟩ := hh
  subst ex
  obtain rfl : u = Value.ref a := rx
  subst ed
  obtain ⟨ha, _⟩ := I1.pin (a, oe) (List.mem_append_left _ List.mem_cons_self)
  obtain ⟨vs, hd⟩ := hf
  obtain ⟨mA, hns, hr⟩ := (show ObjOk X.prog X.w H1 s1.heap dd (.xd [(("place" : Str), v)]) from I1.hok dd _ ea)
  obtain ⟨od, ho, hl⟩ := lookIn_ns hns
  have l : List.lookup ("place" : Str) [(("place" : Str), v)] = some v := by simp [List.lookup]
  obtain ⟨u, hu, ru⟩ := RelO.some_of (v := v) (o := mA "place") (by rw [← l]; exact hr "place")
  have J : PySem.W.InstAt s1.heap a oe cd (some od) := ⟨ha, hz.1, by unfold PySem.W.notCls; rw [hd] <;> rfl, by rw [hz.2]; exact ho⟩
  exact HandSPX.exc_get I1.kIn J T.ga T.gg T.T.exC (PySem.W.findObj_own T.hdC T.noN rfl (by rw [hl, hu])) (handed_of ru) ⟨v, H1, I1.tok _, ru, q⟩
def tryP (i : Nat) (c : Str) (f : M Fl) : M Fl := fun ρ => match f ρ with
  | .ex c' [d] ρ' => if c' = c ∧ i < ρ'.length then .ok (.rt d) (ρ'.set i .un) else .no
  | .ex _ _ _ => .no
  | r => r
/-- the slot is free behind the suite -/
theorem Wf.unset {G H : Hp} {σ : L2.St} {ρ : Ev} {α : Nat → List Addr} (w : Wf C G H σ ρ α) (i : Nat) (x : Option V) : Wf C G H (σ.set i x) (ρ.set i .un) (onα i [] α) := by
  obtain ⟨_, w'⟩ := w.dropS i
  refine ⟨w'.le, by rw [List.length_set]; exact w'.len, fun j y r e1 e2 => ?_, w'.out, w'.nd, w'.dj, w'.ng⟩
  by_cases z : j = i
  · subst z
    have hl : j < ρ.length := by have := (List.getElem?_eq_some_iff.mp e2).1; rw [List.length_set] at this; exact this
    rw [List.getElem?_set_self hl] at e2
    cases e2
    show (if j = j then [] else α j) = []
    rw [if_pos rfl]
  · rw [List.getElem?_set_ne (Ne.symm z)] at e1
    exact w'.sl j y r e1 e2
theorem pds_tryP {c : Str} {cd fI : Addr} (i : Nat) {x n : Str} {body : List Stmt} {np pos pos' rp np2 pp : Pos} {fb : M Fl} (hK : C.K = X.K) (T : ExP X.K cd fI) (hinj : ∀ a, C.cls c = some a → a = cd) (hs : X.stack = X.env :: X.outer) (hf : X.env.frame = some X.env.locals) (hN : X.N.Nodup) (hc : Names X x (.ref cd)) (tk : Takes X W)
    (hb : ∀ (W : WX) (pn : List (Addr × Obj)) (xe : Value → Shared → Prop), Takes (X.tr pn xe) W → PassesOwn (model X.prog X.w) X.A X.env xe → PSs (X.tr pn xe) body (dS C W fb))
    (hi : X.N[i]? = some n := by rfl) (hln : X.env.kindOf n = some .local := by rfl) (hv : Vis X.env.scope n := by exact Or.inl rfl) (hd : (n == ("__debug__" : Str)) = false := by decide) (hcd : (n == ("__classdict__" : Str)) = false := by decide)
    (hab : attributeBase (.Name n np2) "place" X.env (eval (.Name n np2) X.env) = eval (.Name n np2) X.env := by rfl) :
    PS X (.Try body [.ExceptHandler (some (.Name x np)) (some n) [.Return (some (.Attribute (.Name n np2) "place" pp)) rp] pos'] [] [] pos) (dS C W (tryP i c fb)) :=
  ps_mono (ps_try_as (i := i) (ts := fun a cls d => fun E σ H => cls = .ref cd ∧ tRet (tPlace a d (tVar i)) E σ H) hs hf hN hi hln hc tk hb (fun a oe cls d pn hz hf => by
      refine ⟨fun pins s σ H E I h => ?_⟩
      obtain ⟨rfl, h⟩ := h
      exact (pss_one (ps_ret (pe_place T hz hf (pe_var (X := X.suite a ((a, oe) :: pn)) (i := i) hi hv hd hcd) hab))).run pins s σ H E I h)) fun E σ H h => by
    obtain ⟨G, ρ, α, w, h⟩ := h
    refine ⟨G, ρ, α, w, ?_⟩
    unfold RnS at h
    unfold RnS
    cases e : fb ρ with
    | no => rw [show tryP i c fb ρ = .no by unfold tryP; rw [e]] at h; exact h
    | ok f ρ' =>
      rw [show tryP i c fb ρ = .ok f ρ' by unfold tryP; rw [e]] at h
      cases f <;> exact h
    | ex c' l ρ' =>
      match l, e with
      | [], e => rw [show tryP i c fb ρ = .no by unfold tryP; rw [e]] at h; exact h.elim
      | _ :: _ :: _, e => rw [show tryP i c fb ρ = .no by unfold tryP; rw [e]] at h; exact h.elim
      | [d], e =>
        intro cls dct σ' G' H' α' st w' r
        by_cases z : c' = c ∧ i < ρ'.length
        · rw [show tryP i c fb ρ = .ok (.rt d) (ρ'.set i .un) by unfold tryP; rw [e]; exact if_pos z] at h
          obtain ⟨rfl, hil⟩ := z
          obtain ⟨cd', hcl, rfl, r⟩ := r
          have e1 := hinj cd' hcl
          subst e1
          rcases r with ⟨z, _⟩ | ⟨d', dd, v, z, rfl, hd, rd⟩
          · cases z
          · cases z
            refine ⟨true, T.te, fun _ a na => ⟨rfl, ?_⟩, fun z => by cases z⟩
            refine ⟨.ref a, ?_, rfl, dd, v, rfl, w'.le _ _ hd, ?_⟩
            · rw [List.getElem?_set_self (by rw [w'.len]; exact hil)]
            · exact h v _ G' H' _ (st.trans (w'.dropS i).1) (w'.unset i none) rd
        · rw [show tryP i c fb ρ = .no by unfold tryP; rw [e]; exact if_neg z] at h
          exact h.elim
end
end Pd

set_option maxHeartbeats 4000000
namespace Pd
open PySem PySem.Spec PySem.W PySem.Calls PyProof.Rows PySem.HandSPX

/-! ### an own exception, made with keywords -/
section
variable {M : Model} {A : Around} {E : Value → Shared → Prop} {h : Heap} {g : Array GenState} {d : Drawn} {t : Nat} {os : OsState} {kws : List (Str × Value)}
variable {nm q : Str} {C N : Addr} {bs bm bmB : List Value} {hdct : Bool} {sn : List Str} {sub : List Value} {ab : Bool} {col : Option Bool} {dd : Option Addr} {k0 k1 k2 k3 k5 : Option Value} {B newId initId : String}
theorem kw_check (F : ExcBaseFacts B newId initId bmB) (hT : ∀ Y : String, bm.contains (.type Y) = bmB.contains (.type Y)) {Q : Unit → Shared → Prop}
    (hC : h.get? C = some (excClassObj nm q C N bs bm hdct sn sub ab col dd k0 k1 k2 k3 k5 newId)) (hq : Q () ⟨h, g, d, t, os⟩) : wpAny M A (checkBuiltinCall newId ⟨[.ref C], kws⟩) Q E ⟨h, g, d, t, os⟩ := by
  have c1 : (Value.ref C :: bm).contains (.type B) = true := by rw [List.contains_cons, hT, F.hasB, Bool.or_true]
  have c2 := F.noStar
  simp only [checkBuiltinCall, F.newKind, F.newSplit, F.newRow]
  repeat (first | refine wpAny_loadPart_at hC ?_ | (refine wpAny_isSubtype_exc hC ?_; rw [c1]) | refine wpAny_staticBase_exc hC ?_ | refine wpAny_madeBy_exc hC ?_ | simp only [bne_self_eq_false, Bool.false_eq_true, if_false] | wp_step)
  exact hq
end
section
variable {prog : Program} {w : World} {A : Around} {E : Value → Shared → Prop} {R : Result → Shared → Prop} {h : Heap} {g : Array GenState} {d : Drawn} {t : Nat} {os : OsState} {kws : List (Str × Value)}
variable {nm q : Str} {C N : Addr} {bs bm bmB : List Value} {hdct : Bool} {sn : List Str} {sub : List Value} {ab : Bool} {col : Option Bool} {dd : Option Addr} {k0 k1 k2 k3 k5 : Option Value} {B newId initId : String}
theorem kw_new (F : ExcBaseFacts B newId initId bmB) (hT : ∀ Y : String, bm.contains (.type Y) = bmB.contains (.type Y))
    (hC : h.get? C = some (excClassObj nm q C N bs bm hdct sn sub ab col dd k0 k1 k2 k3 k5 newId))
    (hq : R (.ok (.ret (.ref (h.objs.size + 1)))) ⟨(h.push (W.kdv_tup [])).push (excO C h.objs.size), g, d, t, os⟩) :
    codeAny (model prog w) A (.builtin newId ⟨[.ref C], kws⟩) R ⟨h, g, d, t, os⟩ := by
  have he := F.ends
  have c1 : (Value.ref C :: bm).contains (.type B) = true := by rw [List.contains_cons, hT, F.hasB, Bool.or_true]
  have c2 : (Value.ref C :: bm).contains (.type "AttributeError") = false := by rw [List.contains_cons, hT, F.noAttr]; rfl
  have c3 : (Value.ref C :: bm).contains (.type "NameError") = false := by rw [List.contains_cons, hT, F.noName]; rfl
  refine codeAny_builtinAt F.entry ?_
  unfold Builtin.«BaseException.__new__»
  refine PySem.wpAt_bind ?_
  show PySem.wpAt _ _ _ (stack >>= _) _ _ _
  refine PySem.wpAt_bind (PySem.wpAt_stack fun p below => PySem.wpAt_of_wpAny ?_)
  wp_walk
  refine PySem.wpAt_of_wpAny ?_
  rw [F.owner]
  repeat (first | with_reducible refine wpAny_madeHere_exc F.canon hC ?_ | with_reducible refine wpAny_loadPart_at hC ?_ | (with_reducible refine wpAny_isSubtype_exc hC ?_; first | rw [c1] | rw [c2] | rw [c3]) | wp_step)
  show R _ _
  rw [Heap.size_push]
  exact hq
theorem kw_type (F : ExcBaseFacts B newId initId bmB) (hT : ∀ Y : String, bm.contains (.type Y) = bmB.contains (.type Y)) {fI : Addr} {Q : Fin → Shared → Prop}
    (hC : h.get? C = some (excClassObj nm q C N bs bm hdct sn sub ab col dd k0 k1 k2 k3 k5 newId))
    (hi : W.Looks (model prog w) h (typeLookup (.ref C) "__init__") (some (.ref fI))) (hb : ∀ x, W.Looks (model prog w) h (bindSpecial (.ref fI) x) (.ref fI, [x]))
    (hq : codeAny (model prog w) A (.call (.ref fI) ⟨[.ref (h.objs.size + 1)], kws⟩)
      (fun r s' => match r with | .ok (.ret v) => v = .none ∧ Q (.done (.ret (.ref (h.objs.size + 1)))) s' | .ok _ => False | .error e => E e s')
      ⟨(h.push (W.kdv_tup [])).push (excO C h.objs.size), g, d, t, os⟩) :
    wpAny (model prog w) A (Builtin.«type.__call__» ⟨[.ref C], kws⟩) Q E ⟨h, g, d, t, os⟩ := by
  repeat (first | with_reducible refine wpAny_loadPart_at hC ?_ | with_reducible refine wpAny_madeBy_exc hC ?_ | wp_step)
  refine codeAny_call_builtin_code (Code.quiet_builtin _ F.quiet) (kw_check F hT hC ?_)
  refine kw_new F hT hC ?_
  show wpAny _ _ _ _ _ _
  have kp : ∀ b o, h.get? b = some o → ((h.push (W.kdv_tup [])).push (excO C h.objs.size)).get? b = some o := fun b o e => Heap.get?_push_of_some _ (Heap.get?_push_of_some _ e)
  have hC1 := kp _ _ hC
  have hx : ((h.push (W.kdv_tup [])).push (excO C h.objs.size)).get? (h.objs.size + 1) = some (excO C h.objs.size) := by heap_get
  have hc : (Value.ref C :: bm).contains (.ref C) = true := by simp
  have i1 := hi.keeps kp
  have b1 := (hb (.ref (h.objs.size + 1))).keeps kp
  unfold isInstance
  repeat (first | with_reducible refine wpAny_loadPart_at hx ?_ | (with_reducible refine wpAny_isSubtype_exc hC1 ?_; rw [hc]) | wp_step)
  show wpAny _ _ (typeLookup (.ref C) _) _ _ _
  refine i1.at ?_
  refine wpAny_holding (wpAny_bind (b1.at ?_))
  refine wpAny_bind (wpAny_call (codeAny_mono hq fun r s' z => ?_))
  rcases r with e | (v | _ | _ | _) <;> first | exact z | exact z.elim | skip
  obtain ⟨rfl, z⟩ := z
  first
    | exact wpAny_pure (wpAny_pure z)
    | (wp_walk; exact z)
theorem kw_call (F : ExcBaseFacts B newId initId bmB) (hT : ∀ Y : String, bm.contains (.type Y) = bmB.contains (.type Y)) {fI : Addr}
    (hC : h.get? C = some (excClassObj nm q C N bs bm hdct sn sub ab col dd k0 k1 k2 k3 k5 newId))
    (hi : W.Looks (model prog w) h (typeLookup (.ref C) "__init__") (some (.ref fI))) (hb : ∀ x, W.Looks (model prog w) h (bindSpecial (.ref fI) x) (.ref fI, [x]))
    (hq : codeAny (model prog w) (A.under (.builtin "type.__call__" ⟨[.ref C], kws⟩)) (.call (.ref fI) ⟨[.ref (h.objs.size + 1)], kws⟩) (W.InitBack (h.objs.size + 1) R)
      ⟨(h.push (W.kdv_tup [])).push (excO C h.objs.size), g, d, t, os⟩) :
    codeAny (model prog w) A (.call (.ref C) ⟨[], kws⟩) R ⟨h, g, d, t, os⟩ := by
  have f1 := tc_lookup
  have f2 := tc_bind (.ref C)
  have hTy : (⟨h, g, d, t, os⟩ : Shared).TypeIs (.ref C) "type" := ⟨_, hC, rfl⟩
  refine codeAny_of_tree ?_
  show wpAny _ _ (callAny (.ref C) _) _ _ _
  repeat (any_goals (first | assumption | with_reducible refine wpAny_loadPart_at hC ?_ | wp_step))
  refine ⟨rfl, ?_⟩
  refine codeAny_call_builtin_at (Code.quiet_builtin _ (by decide +kernel)) entry_typeCall (wpAny_check_type_call_sub hC (kw_type F hT hC hi hb ?_))
  refine codeAny_mono hq fun r s' z => ?_
  rcases r with e | (v | _ | _ | _) <;> exact z
end
end Pd

set_option maxHeartbeats 4000000
namespace Pd
open PySem PySem.Spec PyProof.Rows L2

section
variable {C : Ct} {W : WX} {X : Cx}
/-! ### calls by name alone -/
def BindsK (K : PySem.W.Frag) (fd : FuncData) (ps : List Str) : Prop := ∀ (s : Shared) (us : List Value), K.In s.heap → us.length = ps.length → BindsTo s fd ⟨[], ps.zip us⟩ (ps.zip us)
theorem bindsK {K : PySem.W.Frag} {x qual : Str} {params : Arguments} {body : List Stmt} {scope : Scope} {kws : List (Str × V)} {f : Addr} {fd : FuncData} {ps : List Str} (F : FunD K x qual params body scope [] kws f fd)
    (h : ∀ (kV doc pm : Value) (an : Option Addr) (cdv ct : Value) (us : List Value), us.length = ps.length → bindArgs (PySem.W.fnOf x qual params body scope .none kV doc pm an cdv ct) ⟨[], ps.zip us⟩ = pure (ps.zip us)) : BindsK K fd ps := by
  obtain ⟨oc, od, dV, kV, doc, pm, an, cdv, ct, osl, rfl, lk, hcd, hD, hK⟩ := F.ex
  rcases hD with ⟨_, rfl⟩ | ⟨e, _⟩
  · exact fun s us _ hl => .of_eq (h kV doc pm an cdv ct us hl)
  · exact absurd rfl e
theorem pdk_nil : PK X [] (dA C W (pure [])) := ⟨fun pos pins s σ H Q I h => pk_nil.run pos pins s σ H Q I (by
  obtain ⟨G, ρ, α, w, h⟩ := h
  exact h [] G H α (.refl ..) w rfl)⟩
theorem pdk_cons {e : Expr} {kws : List Keyword} {nm : Option Str} {kpos : Pos} {f : M D} {fs : M (List D)} (he : PE X e (dE C W f)) (hs : PK X kws (dA C W fs)) : PK X (⟨nm, e, kpos⟩ :: kws) (dA C W (consM f fs)) :=
  ⟨fun pos pins s σ H Q I h => (pk_cons he hs).run pos pins s σ H Q I (by
    obtain ⟨G, ρ, α, w, h⟩ := h
    refine ⟨G, ρ, α, w, (Rn.bind (R' := RpE C) h).mono fun x H1 ⟨G1, ρ1, α1, a, w1, s1, ra, h1⟩ => ?_⟩
    refine ⟨G1, ρ1, α1, w1, (Rn.bind (R' := RpL C) h1).mono fun ys H2 ⟨G2, ρ2, α2, l, w2, s2, rl, h2⟩ => ?_⟩
    exact h2 (x :: ys) G2 H2 α2 (.refl ..) w2 ⟨x, ys, rfl, Rp.mono s2.gg ra, rl⟩)⟩
section
variable {CX : CXT} {k : Nat} {f : Addr} {fd : FuncData} {ps : List Str} {sp : Sp} {E : L2.St → XK} {x : Str} {p pos : Pos} {kws : List Keyword} {t : TA}
theorem pe_callK (F : FnOk X.prog X.w X.K X.mg X.base CX k f fd ps sp) (hr : Room k X.A) (hm : X.mg x = some (.ref f)) (hk : PySem.W.keepIn X.K (.ref f) = true) (hb : BindsK X.K fd ps) (hx : ∀ σ, PassesAt CX X σ (E σ)) (ha : PK X kws t)
    (hg : Gl X x := by rfl) (hall : (backToKw pos (keywordEach kws X.env)).all (·.1.isSome) = true := by rfl) (hks : (backToKw pos (keywordEach kws X.env)).filterMap (·.1) = ps := by rfl) (hdb : (x == ("__debug__" : Str)) = false := by decide)
    (hpl : ((backTo pos (starEach [] X.env)).any (·.1) || (backToKw pos (keywordEach kws X.env)).any (·.1.isNone)) = false := by rfl) : PE X (.Call (.Name x p) [] kws pos) (tCallS sp E t) := by
  refine ⟨fun pins s σ H Q I h => ?_⟩
  refine wpAny_Call_Name_kw (ld_glob I hg hm ?_ hdb)
  refine PySem.W.callWith_KW0 (h₀ := X.base) I.ok.mod.kin hk hall (thn (ha.run pos pins s σ H _ I h) fun us s1 ⟨vs, H1, I1, r, q⟩ => ⟨I1.kIn, ?_⟩) hpl
  rw [hks]
  have hl : us.length = ps.length := by rw [← r.length]; exact F.len _ _ _ _ q
  refine wpAny_call (codeAny_mono (F.run X.A X.stack s1 H1 ⟨[], ps.zip us⟩ us vs Q (E σ) hr I1.env0 (hb s1 us I1.kIn hl) r q) fun r s' hq => ?_)
  cases r with
  | error e => exact hx σ pins H1 s1 e s' I1 hq
  | ok fl =>
    cases fl with
    | ret u => exact I1.after hq
    | next => exact False.elim hq
    | brk => exact False.elim hq
    | cont => exact False.elim hq
end
section
variable {n np : Nat} {f : M Fl} {fa : M (List D)} {k : Nat} {fA : Addr} {fd : FuncData} {ps : List Str} {x : Str} {kws : List Keyword} {p pos : Pos}
theorem pd_callK (F : FnOk X.prog X.w X.K X.mg X.base (L2.CX X.prog X.w) k fA fd ps (spG C n np f)) (hr : Room k X.A) (hm : X.mg x = some (.ref fA)) (hk : PySem.W.keepIn X.K (.ref fA) = true) (hb : BindsK X.K fd ps) (tk : Takes X W) (ha : PK X kws (dA C W fa))
    (hg : Gl X x := by rfl) (hall : (backToKw pos (keywordEach kws X.env)).all (·.1.isSome) = true := by rfl) (hks : (backToKw pos (keywordEach kws X.env)).filterMap (·.1) = ps := by rfl) (hdb : (x == ("__debug__" : Str)) = false := by decide)
    (hpl : ((backTo pos (starEach [] X.env)).any (·.1) || (backToKw pos (keywordEach kws X.env)).any (·.1.isNone)) = false := by rfl) : PE X (.Call (.Name x p) [] kws pos) (dE C W (callG n np f fa)) :=
  pe_mono (pe_callK F hr hm hk hb (fun σ => passAt tk σ) ha hg hall hks hdb hpl) fun _ _ _ h => dE_callG h
theorem pl_callK (F : FnOk X.prog X.w X.K X.mg X.base (L2.CX X.prog X.w) k fA fd ps (spG C n np f)) (hr : Room k X.A) (hm : X.mg x = some (.ref fA)) (hk : PySem.W.keepIn X.K (.ref fA) = true) (hb : BindsK X.K fd ps) (tk : Takes X W) (ha : PK X kws (dA C W fa))
    (hg : Gl X x := by rfl) (hall : (backToKw pos (keywordEach kws X.env)).all (·.1.isSome) = true := by rfl) (hks : (backToKw pos (keywordEach kws X.env)).filterMap (·.1) = ps := by rfl) (hdb : (x == ("__debug__" : Str)) = false := by decide)
    (hpl : ((backTo pos (starEach [] X.env)).any (·.1) || (backToKw pos (keywordEach kws X.env)).any (·.1.isNone)) = false := by rfl) : PE X (.Call (.Name x p) [] kws pos) (dL C W (callL n np f fa)) :=
  pe_mono (pe_callK F hr hm hk hb (fun σ => passAt tk σ) ha hg hall hks hdb hpl) fun _ _ _ h => dL_callG h
end

/-! ### own exceptions as values -/
/-- X(e), the class without an __init__ -/
def exM (c : Str) (f : M D) : M D := f >>= fun _ => pure (.exc c [])
theorem pd_exc {c : Str} {cd : Addr} {bmB : List Value} {B newId initId : String} {x : Str} {e : Expr} {p pos : Pos} {f : M D} (F : ExcBaseFacts B newId initId bmB) (q : PySem.W.excIn X.K cd bmB newId = true) (hcls : C.cls c = some cd) (gC : X.mg x = some (.ref cd)) (kC : PySem.W.keepIn X.K (.ref cd) = true)
    (he : PE X e (dE C W f)) (hg : Gl X x := by rfl) (hs : starEach [e] X.env = (false, eval e X.env) :: starEach [] X.env := by rfl) (hdb : (x == ("__debug__" : Str)) = false := by decide) : PE X (.Call (.Name x p) [e] [] pos) (dE C W (exM c f)) :=
  pe_mono (pe_exc1 F q gC kC hg he hs hdb) fun σ H Q h => by
    obtain ⟨G, ρ, α, w, h⟩ := h
    refine ⟨G, ρ, α, w, (Rn.bind (R' := RpE C) h).mono fun v H1 hx a na => ?_⟩
    obtain ⟨G1, ρ1, α1, d, w1, s1, rv, h1⟩ := hx
    exact rn_pure w1 h1 (.ref a) _ _ (.new w1.le na) ⟨a, cd, rfl, hcls, .inl ⟨rfl, upd_same⟩⟩
section
variable {CX : CXT} {x : Str} {cd fI : Addr} {k : Nat} {fd : FuncData} {ps : List Str} {sp : Sp} {e : Expr} {es : List Expr} {kws : List Keyword} {ta : TA} {p pos : Pos}
theorem mkv_after {pins : List (Addr × Obj)} {σ : L2.St} {H2 : Hp} {s2 s' : Shared} {Q : VK} {a : Addr} {r : Result} (I2 : Inv X pins σ H2 s2) (hx : Passes CX X (fun _ _ _ => False)) (h : L2.CR CX X.stack X.prog X.w H2 s2 (fun v H3 => v = .non ∧ Q (.ref a) H3) (fun _ _ _ => False) r s') :
    PySem.W.InitBack a (fun r s' => match r with | .ok (.ret u) => EP X pins σ Q u s' | .ok _ => False | .error er => X.xe er s') r s' := by
  cases r with
  | error er => exact hx pins σ _ _ er s' I2 h
  | ok fl =>
    cases fl with
    | ret u =>
      obtain ⟨v, H3, I3, rv, ev, q3⟩ := I2.after h
      subst ev
      exact ⟨rv, ⟨V.ref a, H3, I3, rfl, q3⟩⟩
    | next => exact False.elim h
    | brk => exact False.elim h
    | cont => exact False.elim h
theorem pe_mkv (T : ExP X.K cd fI) (F1 : FnOk X.prog X.w X.K X.mg X.base CX k fI fd ps sp) (hr : Room (k + 1) X.A) (hb : Binds X.K fd ps []) (hx : Passes CX X (fun _ _ _ => False)) (hm : X.mg x = some (.ref cd)) (kC : PySem.W.keepIn X.K (.ref cd) = true) (ha : PA X (e :: es) ta)
    (hg : Gl X x := by rfl) (hdb : (x == ("__debug__" : Str)) = false := by decide) (he : starEach (e :: es) X.env = (false, eval e X.env) :: starEach es X.env := by rfl) (hpl : (backTo pos (starEach es X.env)).any (·.1) = false := by rfl) :
    PE X (.Call (.Name x p) (e :: es) [] pos) (fun σ H Q => ta σ H fun vs H1 => vs.length ≤ 1000 ∧ ∀ a, H1 a = none → sp (.ref a :: vs) (upd H1 a (exo a cd none)) (fun v H3 => v = .non ∧ Q (.ref a) H3) (fun _ _ _ => False)) := by
  refine ⟨fun pins s σ H Q I h => ?_⟩
  obtain ⟨nm, q, N, bs, bm, sn, sub, ab, col, dd, k0, k1, k2, k3, k5, hC, hbm⟩ := T.T.cls
  refine wpAny_Call_Name_kw (ld_glob I hg hm ?_ hdb)
  refine PySem.W.callWith_K (h₀ := X.base) I.ok.mod.kin kC (thn (ha.run pos pins s σ H _ I h) fun us s1 ⟨vs, H1, I1, r1, hz, q1⟩ => ⟨I1.kIn, ?_⟩) he hpl
  show wpAny _ _ (call (.ref cd) us) _ _ _
  obtain ⟨hp, g, dr, tk, os⟩ := s1
  have hsz : hp.objs.size ≤ hp.objs.size + 1 := Nat.le_succ _
  have hq := q1 (hp.objs.size + 1) (I1.hok.fresh hsz)
  have kk : ∀ b o, hp.get? b = some o → ((hp.push (PySem.W.kdv_tup us)).push (PySem.HandSPX.excO cd hp.objs.size)).get? b = some o := fun b o e => Heap.get?_push_of_some _ (Heap.get?_push_of_some _ e)
  have hget : ((hp.push (PySem.W.kdv_tup us)).push (PySem.HandSPX.excO cd hp.objs.size)).get? (hp.objs.size + 1) = some (PySem.HandSPX.excO cd hp.objs.size) := by heap_get
  have I2 : Inv X pins σ (upd H1 (hp.objs.size + 1) (exo (hp.objs.size + 1) cd none)) ⟨(hp.push (PySem.W.kdv_tup us)).push (PySem.HandSPX.excO cd hp.objs.size), g, dr, tk, os⟩ :=
    I1.laid (t' := tk) (a := hp.objs.size + 1) (o := exo (hp.objs.size + 1) cd none) (h' := (hp.push (PySem.W.kdv_tup us)).push (PySem.HandSPX.excO cd hp.objs.size)) kk hsz (exo_ok hget)
  have r2 : Vals (V.ref (hp.objs.size + 1) :: vs) (Value.ref (hp.objs.size + 1) :: us) := .cons rfl r1
  have hl : (Value.ref (hp.objs.size + 1) :: us).length = ps.length := by rw [← r2.length]; exact F1.len _ _ _ _ hq
  have hus : us.length ≤ sizeLine := by
    rw [← Paired.length r1, sizeLine_eq]
    omega
  have b := hb _ (Value.ref (hp.objs.size + 1) :: us) I2.kIn (by rw [List.append_nil]; exact hl)
  rw [List.append_nil] at b
  refine wpAny_call (PySem.HandSPX.call_own F.excBase_ValueError (fun Y => PySem.HandSPX.refsVE_contains Y bm hbm) (I1.kIn _ _ hC) (PySem.W.looks_findIn I1.kIn T.iC) (fun self => PySem.W.bind_fn I1.kIn self T.tI) hus
    (codeAny_mono (F1.run _ X.stack _ _ ⟨Value.ref (hp.objs.size + 1) :: us, []⟩ (Value.ref (hp.objs.size + 1) :: us) _ _ (fun _ _ _ => False) (hr.make cd us []) (I2.env0.make cd us []) b r2 hq) fun r s' hq' => mkv_after I2 hx hq'))
theorem pe_mkvK (T : ExP X.K cd fI) (F1 : FnOk X.prog X.w X.K X.mg X.base CX k fI fd ps sp) (hr : Room (k + 1) X.A) (hb : ∀ (s : Shared) (u : Value) (us : List Value), X.K.In s.heap → us.length + 1 = ps.length → BindsTo s fd ⟨[u], ps.tail.zip us⟩ (ps.zip (u :: us)))
    (hx : Passes CX X (fun _ _ _ => False)) (hm : X.mg x = some (.ref cd)) (kC : PySem.W.keepIn X.K (.ref cd) = true) (ha : PK X kws ta)
    (hg : Gl X x := by rfl) (hall : (backToKw pos (keywordEach kws X.env)).all (·.1.isSome) = true := by rfl) (hks : (backToKw pos (keywordEach kws X.env)).filterMap (·.1) = ps.tail := by rfl) (hdb : (x == ("__debug__" : Str)) = false := by decide)
    (hpl : ((backTo pos (starEach [] X.env)).any (·.1) || (backToKw pos (keywordEach kws X.env)).any (·.1.isNone)) = false := by rfl) :
    PE X (.Call (.Name x p) [] kws pos) (fun σ H Q => ta σ H fun vs H1 => vs.length ≤ 1000 ∧ ∀ a, H1 a = none → sp (.ref a :: vs) (upd H1 a (exo a cd none)) (fun v H3 => v = .non ∧ Q (.ref a) H3) (fun _ _ _ => False)) := by
  refine ⟨fun pins s σ H Q I h => ?_⟩
  obtain ⟨nm, q, N, bs, bm, sn, sub, ab, col, dd, k0, k1, k2, k3, k5, hC, hbm⟩ := T.T.cls
  refine wpAny_Call_Name_kw (ld_glob I hg hm ?_ hdb)
  refine PySem.W.callWith_KW0 (h₀ := X.base) I.ok.mod.kin kC hall (thn (ha.run pos pins s σ H _ I h) fun us s1 ⟨vs, H1, I1, r1, hz, q1⟩ => ⟨I1.kIn, ?_⟩) hpl
  rw [hks]
  show wpAny _ _ (call (.ref cd) [] (ps.tail.zip us)) _ _ _
  obtain ⟨hp, g, dr, tk, os⟩ := s1
  have hsz : hp.objs.size ≤ hp.objs.size + 1 := Nat.le_succ _
  have hq := q1 (hp.objs.size + 1) (I1.hok.fresh hsz)
  have kk : ∀ b o, hp.get? b = some o → ((hp.push (PySem.W.kdv_tup [])).push (PySem.HandSPX.excO cd hp.objs.size)).get? b = some o := fun b o e => Heap.get?_push_of_some _ (Heap.get?_push_of_some _ e)
  have hget : ((hp.push (PySem.W.kdv_tup [])).push (PySem.HandSPX.excO cd hp.objs.size)).get? (hp.objs.size + 1) = some (PySem.HandSPX.excO cd hp.objs.size) := by heap_get
  have I2 : Inv X pins σ (upd H1 (hp.objs.size + 1) (exo (hp.objs.size + 1) cd none)) ⟨(hp.push (PySem.W.kdv_tup [])).push (PySem.HandSPX.excO cd hp.objs.size), g, dr, tk, os⟩ :=
    I1.laid (t' := tk) (a := hp.objs.size + 1) (o := exo (hp.objs.size + 1) cd none) (h' := (hp.push (PySem.W.kdv_tup [])).push (PySem.HandSPX.excO cd hp.objs.size)) kk hsz (exo_ok hget)
  have r2 : Vals (V.ref (hp.objs.size + 1) :: vs) (Value.ref (hp.objs.size + 1) :: us) := .cons rfl r1
  have hl : us.length + 1 = ps.length := by
    have e := F1.len _ _ _ _ hq
    rw [List.length_cons] at e
    rw [← r1.length]
    exact e
  refine wpAny_call (kw_call F.excBase_ValueError (fun Y => PySem.HandSPX.refsVE_contains Y bm hbm) (I1.kIn _ _ hC) (PySem.W.looks_findIn I1.kIn T.iC) (fun self => PySem.W.bind_fn I1.kIn self T.tI)
    (codeAny_mono (F1.run _ X.stack _ _ ⟨[Value.ref (hp.objs.size + 1)], ps.tail.zip us⟩ (Value.ref (hp.objs.size + 1) :: us) _ _ (fun _ _ _ => False) (hr.make cd [] (ps.tail.zip us)) (I2.env0.make cd [] (ps.tail.zip us)) (hb _ _ us I2.kIn hl) r2 hq) fun r s' hq' => mkv_after I2 hx hq'))
end
/-- X(e), X(place = e), the class with its place -/
def exP (c : Str) (fa : M (List D)) : M D := fa >>= fun l => match l with
  | [d] => pure (.exc c [d])
  | _ => no
theorem dE_exP {c : Str} {cd fI : Addr} (T : ExP X.K cd fI) (hcls : C.cls c = some cd) {fa : M (List D)} {σ : L2.St} {H : Hp} {Q : VK} (h : dE C W (exP c fa) σ H Q) :
    dA C W fa σ H fun vs H1 => vs.length ≤ 1000 ∧ ∀ a, H1 a = none → spPlace X.K (.ref a :: vs) (upd H1 a (exo a cd none)) (fun v H3 => v = .non ∧ Q (.ref a) H3) (fun _ _ _ => False) := by
  obtain ⟨G, ρ, α, w, h⟩ := h
  refine ⟨G, ρ, α, w, (Rn.bind (R' := RpL C) h).mono fun vs H1 hx => ?_⟩
  obtain ⟨G1, ρ1, α1, l, w1, s1, rl, h1⟩ := hx
  match l, rl, h1 with
  | [], rl, h1 => exact h1.elim
  | _ :: _ :: _, rl, h1 => exact h1.elim
  | [d], rl, h1 =>
    obtain ⟨v, r, rfl, rv, rfl⟩ := rl
    refine ⟨by show 1 ≤ 1000; decide, fun a na => ⟨a, v, cd, rfl, T.T, T.noN, upd_same, fun dx nd ne => ⟨rfl, ?_⟩⟩⟩
    have nd' : H1 dx = none := by rw [upd_ne ne] at nd; exact nd
    have e : upd (upd (upd H1 a (exo a cd none)) dx (exd dx [("place", v)])) a (exo a cd (some dx)) = upd (upd H1 dx (exd dx [("place", v)])) a (exo a cd (some dx)) := by
      funext b
      by_cases z : b = a
      · subst z; rw [upd_same, upd_same]
      · rw [upd_ne z, upd_ne z]
        by_cases y : b = dx
        · subst y; rw [upd_same, upd_same]
        · rw [upd_ne y, upd_ne y, upd_ne z]
    rw [e]
    have x1 := Ext.new (o := exd dx [(("place" : Str), v)]) w1.le nd'
    have x2 := Ext.new (p := a) (o := exo a cd (some dx)) x1.le (by rw [upd_ne (Ne.symm ne)]; exact na)
    refine rn_pure w1 h1 (.ref a) _ _ (x1.trans x2) ⟨a, cd, rfl, hcls, .inr ⟨dx, [v], upd_same, ?_, rfl, v, [], rfl, rv.mono (x1.trans x2).gg, rfl⟩⟩
    rw [upd_ne ne, upd_same]
    rfl
end
section
variable {C : Ct} {W : WX} {X : Cx} {c : Str} {cd fI : Addr} {k : Nat} {fd : FuncData} {ps : List Str} {x : Str} {e : Expr} {kws : List Keyword} {p pos : Pos} {fa : M (List D)}
theorem pd_mkv (T : ExP X.K cd fI) (hcls : C.cls c = some cd) (F1 : FnOk X.prog X.w X.K X.mg X.base (L2.CX X.prog X.w) k fI fd ps (spPlace X.K)) (hr : Room (k + 1) X.A) (hb : Binds X.K fd ps []) (hm : X.mg x = some (.ref cd)) (kC : PySem.W.keepIn X.K (.ref cd) = true) (ha : PA X [e] (dA C W fa))
    (hg : Gl X x := by rfl) (hdb : (x == ("__debug__" : Str)) = false := by decide) (he : starEach [e] X.env = (false, eval e X.env) :: starEach [] X.env := by rfl) (hpl : (backTo pos (starEach [] X.env)).any (·.1) = false := by rfl) :
    PE X (.Call (.Name x p) [e] [] pos) (dE C W (exP c fa)) :=
  pe_mono (pe_mkv T F1 hr hb (fun _ _ _ _ _ _ _ ⟨_, _, _, _, _, _, _, _, _, _, _, _, z⟩ => z.elim) hm kC ha hg hdb he hpl) fun _ _ _ h => dE_exP T hcls h
theorem pd_mkvK (T : ExP X.K cd fI) (hcls : C.cls c = some cd) (F1 : FnOk X.prog X.w X.K X.mg X.base (L2.CX X.prog X.w) k fI fd ps (spPlace X.K)) (hr : Room (k + 1) X.A)
    (hb : ∀ (s : Shared) (u : Value) (us : List Value), X.K.In s.heap → us.length + 1 = ps.length → BindsTo s fd ⟨[u], ps.tail.zip us⟩ (ps.zip (u :: us))) (hm : X.mg x = some (.ref cd)) (kC : PySem.W.keepIn X.K (.ref cd) = true) (ha : PK X kws (dA C W fa))
    (hg : Gl X x := by rfl) (hall : (backToKw pos (keywordEach kws X.env)).all (·.1.isSome) = true := by rfl) (hks : (backToKw pos (keywordEach kws X.env)).filterMap (·.1) = ps.tail := by rfl) (hdb : (x == ("__debug__" : Str)) = false := by decide)
    (hpl : ((backTo pos (starEach [] X.env)).any (·.1) || (backToKw pos (keywordEach kws X.env)).any (·.1.isNone)) = false := by rfl) :
    PE X (.Call (.Name x p) [] kws pos) (dE C W (exP c fa)) :=
  pe_mono (pe_mkvK T F1 hr hb (fun _ _ _ _ _ _ _ ⟨_, _, _, _, _, _, _, _, _, _, _, _, z⟩ => z.elim) hm kC ha hg hall hks hdb hpl) fun _ _ _ h => dE_exP T hcls h
/-- the def itself -/
theorem ok_place {P : Program} {w : World} {K : PySem.W.Frag} {mg : Str → Option Value} {base : Heap} {qual : Str} {params : Arguments} {scope : Scope} {f : Addr} {fd : FuncData} {S : Addr} {mc : Value} {B z : Str} {p1 p2 p3 p4 p5 p6 p7 p8 p9 : Pos} {j : Nat}
    (F : FunD K "__init__" qual params [.Expr (.Call (.Attribute (.Name B p1) "__init__" p2) [.Name "self" p3, .Constant (.str z) j p4] [] p5) p5, .Assign [.Attribute (.Name "self" p6) "place" p7] (.Name "place" p8) p9] scope [] [] f fd)
    (Sc : FnScope ["self", "place"] ["self", "place"] scope) (hm : mg B = some (.ref S)) (U : Sup K S mc)
    (hk : ∀ (cdv : Value) (A : Around) (outer : List Env) (s : Shared) (H : Hp) (E : XK), PSs (cxOf (L2.CX P w) P w K mg base ["self", "place"] qual scope f cdv A outer s H E) [.Expr (.Call (.Attribute (.Name B p1) "__init__" p2) [.Name "self" p3, .Constant (.str z) j p4] [] p5) p5, .Assign [.Attribute (.Name "self" p6) "place" p7] (.Name "place" p8) p9]
      (tSeq (tDrop (tVeI K (tCons (tVar 0) (tCons (tC (.str z)) tNil)))) (tOst K "place" (tVar 0) (tVar 1)))) :
    FnOk P w K mg base (L2.CX P w) 1 f fd ["self", "place"] (spPlace K) := by
  refine F.ok Sc (fun vs H Q E h => ?_) (fun cdv A outer s H vs Q E hr h => ⟨_, hk cdv A outer s H E, ?_⟩)
  · obtain ⟨a, p, cd, rfl, _⟩ := h
    rfl
  · obtain ⟨a, p, cd, rfl, T, hno, ea, q⟩ := h
    refine ⟨.ref a, rfl, a, cd, [.str z], rfl, by show 1 ≤ 1000; decide, T, ea, ?_⟩
    exact ⟨p, rfl, .ref a, rfl, a, cd, rfl, T, hno, .inl ⟨ea, fun dx n ne => q dx n ne⟩⟩
end
end Pd

set_option maxHeartbeats 4000000
namespace Pd
open PySem PySem.Spec PySem.W PyProof.Rows L2

/-! ### isinstance -/
section
variable {prog : Program} {w : World} {A : Around} {E : Value → Shared → Prop} {s : Shared} {K : Frag} {x D : Addr} {ox : Obj} {od : Option Obj}
theorem fob_dat {Cc : Addr} {name : Str} {a g : Value} (hc : (clsIn K Cc).isSome = true) (ha : findIn K (.ref Cc) name = some (some a)) (hg : specialIn K a "__get__" = some (some g)) (ht : takesIn K a = some true) : findObj K Cc od name = some (.bind g a) := by
  obtain ⟨c, hc⟩ := Option.isSome_iff_exists.mp hc
  unfold findObj
  rw [hc, Option.bind_some, ha, Option.bind_some]
  simp [hg, ht]
theorem cls_of_exc {Q : Option Value → Shared → Prop} (T : ExcC K D) (X : K.In s.heap) (I : W.InstAt s.heap x ox D od) (h : Q (some (.ref D)) { s with toks := s.toks + 1 }) : wpAny (model prog w) A (getAttr? (.ref x) "__class__") Q E s := by
  have hf : findObj K D od "__class__" = some (.bind (.builtin "getset_descriptor.__get__") (.builtin "object.__class__")) := fob_dat (by obtain ⟨c, hc, _⟩ := any_some T.hd; rw [hc]; rfl) T.ha T.hn T.ht
  obtain ⟨hp, g, d, t, os⟩ := s
  have a0 := I.type (M := model prog w)
  have a1 := looks_findIn (M := model prog w) X T.hg
  have a2 := looks_findIn (M := model prog w) X T.hk
  have a3 := looks_find (M := model prog w) X I hf
  have sb : Looks (model prog w) hp (isInstance (.ref x) (.type "BaseException")) true := a0.andThen (looks_subIn X T.hs)
  have z0 : (false && onTheHeap (Value.builtin "BaseException.__getattribute__")) = false := rfl
  have z2 : (Value.builtin "BaseException.__getattribute__" == Value.builtin "object.__getattribute__") = false := by decide +kernel
  have z1 : (onTheHeap (Value.ref D) && Value.builtin "BaseException.__getattribute__" == Value.builtin "object.__getattribute__") = false := by rw [z2]; rfl
  unfold getAttr? getAttrBy? getAttrBy
  refine wpAny_bind (wpAny_mkText (wpAny_bind (wpAny_attempt (wpAny_holding (wpAny_bind (a0.at (wpAny_bind (a1.at ?_))))))))
  show wpAny _ _ (if (onTheHeap (Value.ref D) && Value.builtin "BaseException.__getattribute__" == Value.builtin "object.__getattribute__") = true then _ else _) _ _ _
  rw [z1, if_neg Bool.false_ne_true]
  unfold getAttrByItsOwn hookBefore
  refine wpAny_bind ?_
  rw [if_pos (show onTheHeap (Value.ref D) = true from rfl)]
  refine a2.at ?_
  refine wpAny_bind (wpAny_attempt (wpAny_holding ?_))
  unfold callGetattribute
  rw [z0, if_neg Bool.false_ne_true]
  unfold boundAndCalled
  rw [PySem.F.excAttr_ValueError.ga.bind (.ref x)]
  refine wpAny_bind (wpAny_pure ?_)
  show wpAny _ _ (call (.builtin "BaseException.__getattribute__") [.ref x, .str "__class__" t]) _ _ _
  refine wpAny_call (codeAny_call_builtin PySem.F.excAttr_ValueError.ga.plain PySem.F.entry_bexc_ga ?_)
  refine @check_slot (model prog w) _ _ ⟨hp, g, d, t + 1, os⟩ "BaseException.__getattribute__" "BaseException" "__getattribute__" (.ref x) [.str "__class__" t] [] _ (by decide +kernel) (by decide +kernel) sb (PySem.F.args_bexc_ga (.ref x) (.str "__class__" t)) ?_
  unfold Builtin.«object.__getattribute__»
  refine wpAny_bind (wpAny_of_eq (a := ((Value.ref x : Value), [Value.str "__class__" t])) (by first | rfl | (simp only [slotArgs]; rfl)) ?_)
  refine wpAny_bind (wpAny_pure (wpAny_bind (a0.at (wpAny_bind (a3.at ?_)))))
  show wpAny _ _ (holding [Value.builtin "object.__class__"] (call (.builtin "getset_descriptor.__get__") [.builtin "object.__class__", .ref x, .ref D]) >>= ret) _ _ _
  refine wpAny_bind (wpAny_holding (wpAny_call (class_get (s := ⟨hp, g, d, t + 1, os⟩) (ox := ox) (od := od) X I T.hm ?_)))
  refine wpAny_pure ?_
  show wpAny _ _ (handedOut (.ref D)) _ _ _
  rw [handedOut_of (v := .ref D) rfl]
  first
    | exact wpAny_pure (wpAny_pure h)
    | exact wpAny_pure h
    | exact wpAny_pure (wpAny_bind (wpAny_pure (wpAny_pure h)))
theorem kit_exc (T : ExcC K D) : KitX K (.ref x) (.ref D) (fun h => ∃ ox od, W.InstAt h x ox D od) where
  ty := fun _ _ _ ⟨_, _, I⟩ => I.type
  it := fun _ _ X _ => by
    obtain ⟨c, hc, _⟩ := any_some T.hd
    unfold clsIn at hc
    split at hc
    · rename_i c' d' cd' sl' ho
      intro A' Q' E' s' k q
      unfold isType loadHead
      exact wpAny_bind (wpAny_loadPart (k _ _ (X _ _ ho)) (wpAny_pure q))
    · cases hc
  ne := fun h tp dd its n sl X htp => by
    obtain ⟨c, hc, _⟩ := any_some T.hd
    refine Bool.eq_false_iff.mpr fun q => ?_
    have e : D = tp := Value.ref.inj (beq_iff_eq.mp q)
    subst e
    unfold clsIn at hc
    split at hc
    · rename_i c' d' cd' sl' ho
      have z := (X _ _ ho).symm.trans htp
      cases z
    · cases hc
  ca := fun X ⟨_, _, I⟩ k => cls_of_exc T X I k
end

section
variable {C : Ct} {W : WX} {X : Cx}
/-- a value's type: a built-in one, or an own exception's class -/
def TyZ (K : Frag) (H : Hp) (x : V) (t : Value) : Prop := TyX K H x t ∨ ∃ a cd, x = .ref a ∧ t = .ref cd ∧ ExcC K cd ∧ (H a = some (ExO (.ref cd) a) ∨ ∃ dx fs, H a = some (exo a cd (some dx)) ∧ H dx = some (exd dx fs))
theorem kit_z {pins : List (Addr × Obj)} {σ : L2.St} {H : Hp} {s : Shared} {x : V} {u t : Value} (I : Inv X pins σ H s) (rx : RelV x u) (ty : TyZ X.K H x t) : ∃ P : Heap → Prop, KitX X.K u t P ∧ P s.heap ∧ u ≠ .builtin "__main__.__loader__#opaque" := by
  rcases ty with ty | ⟨a, cd, rfl, rfl, T, ty⟩
  · exact kit_of I rx ty
  · cases rx
    refine ⟨_, kit_exc T, ?_, fun z => nomatch z⟩
    rcases ty with e | ⟨dx, fs, e, ed⟩
    · obtain ⟨⟨oe, vs, h1, hz, hd, _⟩, _, _⟩ := I.hok a _ e
      exact ⟨oe, none, h1, hz.1, by unfold notCls; rw [hd] <;> rfl, by rw [hz.2]; trivial⟩
    · obtain ⟨t1, h1⟩ := exo_at I.hok e
      obtain ⟨mA, hns, _⟩ := exd_at I.hok ed
      obtain ⟨od, _, _, h2, _⟩ := hns
      exact ⟨_, some od, h1, rfl, rfl, h2⟩
def rIsZ (K : Frag) : List V → Hp → VK → Prop := fun xs H Q => ∃ (x c : V) (t u : Value) (b : Bool), xs = [x, c] ∧ ClsV c u ∧ TyZ K H x t ∧ kitOne K t u = some b ∧ Q (.bl b) H
def rIsZT (K : Frag) : List V → Hp → VK → Prop := fun xs H Q => ∃ (x : V) (tp : Addr) (cs : List V) (t : Value) (us : List Value) (b : Bool), xs = [x, .ref tp] ∧ H tp = some (.tup cs) ∧ Paired ClsV cs us ∧ TyZ K H x t ∧ kitAny K t us = some b ∧ Q (.bl b) H
theorem call_isZ : CallR X (.builtin "isinstance") (rIsZ X.K) := by
  intro pins s σ H xs us Q I r h
  obtain ⟨x, c, t, u, b, rfl, k, ty, e, q⟩ := h
  obtain ⟨u1, u2, rfl, r1, r2⟩ := vals2 r
  have e2 := k.eq r2
  subst e2
  obtain ⟨P, Z, p, hx⟩ := kit_z I r1 ty
  exact kia_one Z I.kIn p e hx fun tk => ⟨.bl b, H, I.tok tk, rfl, q⟩
theorem call_isZT : CallR X (.builtin "isinstance") (rIsZT X.K) := by
  intro pins s σ H xs us Q I r h
  obtain ⟨x, tp, cs, t, ws, b, rfl, hT, k, ty, e, q⟩ := h
  obtain ⟨u1, u2, rfl, r1, r2⟩ := vals2 r
  cases (show u2 = Value.ref tp from r2)
  obtain ⟨P, Z, p, hx⟩ := kit_z I r1 ty
  obtain ⟨_, its, rv, o, h1, h2, n, h3⟩ := (show ObjOk X.prog X.w H s.heap tp (.tup cs) from I.hok tp _ hT)
  have e3 := ClsV.all k rv
  subst e3
  obtain ⟨oc, od, dt, sl⟩ := o
  simp only at h2 h3
  subst h2 h3
  exact kia_tup Z I.kIn p h1 e hx fun tk => ⟨.bl b, H, I.tok tk, rfl, q⟩
/-- the type of a value -/
def tyS : D → Option String
  | .non => some "NoneType"
  | .bl _ => some "bool"
  | .int _ => some "int"
  | .str _ => some "str"
  | .lst _ => some "list"
  | .tup _ => some "tuple"
  | _ => none
def tyOf (C : Ct) : D → Option Value
  | .exc c _ => (C.cls c).map .ref
  | d => (tyS d).map .type
/-- g tells of a value whether it is of the class u -/
def IsOk (C : Ct) (u : Value) (g : D → Option Bool) : Prop := ∀ d b, g d = some b → ∃ t, tyOf C d = some t ∧ (∀ G v, Rp C G d v → ∀ H, Le G H → TyZ C.K H v t) ∧ kitOne C.K t u = some b
/-- .. of one of the classes -/
def IsOkT (C : Ct) (us : List Value) (g : D → Option Bool) : Prop := ∀ d b, g d = some b → ∃ t, tyOf C d = some t ∧ (∀ G v, Rp C G d v → ∀ H, Le G H → TyZ C.K H v t) ∧ kitAny C.K t us = some b
def tyN (T : String) (a : String) : Option Bool := if a = T then some true else if a = "bool" ∧ T = "int" then some true else if T = "bool" ∨ T = "int" ∨ T = "str" ∨ T = "list" ∨ T = "tuple" then some false else none
def isTy (T : String) (d : D) : Option Bool := (tyS d).bind (tyN T)
theorem tyS_ok {d : D} {a : String} (e : tyS d = some a) {G : Hp} {v : V} (r : Rp C G d v) : (∀ H, Le G H → TyZ C.K H v (.type a)) ∧ (a = "NoneType" ∨ a = "bool" ∨ a = "int" ∨ a = "str" ∨ a = "list" ∨ a = "tuple") := by
  cases d <;> first | (cases e; done) | skip
  all_goals cases e
  · cases r; exact ⟨fun _ _ => .inl (.base .non), by simp⟩
  · cases r; exact ⟨fun _ _ => .inl (.base (.bl _)), by simp⟩
  · cases r; exact ⟨fun _ _ => .inl (.base (.int _)), by simp⟩
  · cases r; exact ⟨fun _ _ => .inl (.base (.str _)), by simp⟩
  · obtain ⟨p, xs, rfl, h, _⟩ := r
    refine ⟨fun H le => ?_, by simp⟩
    rcases le_l le h with (h | ⟨o, h⟩) | ⟨o, its, n, h, hc, _⟩
    · exact .inl (.base (.lst h))
    · exact .inl (.base (.frz h))
    · exact .inl (.kList h hc)
  · obtain ⟨p, xs, rfl, h, _⟩ := r
    refine ⟨fun H le => ?_, by simp⟩
    rcases le_t le h with (h | ⟨o, h⟩) | ⟨o, its, n, h, hc, _⟩
    · exact .inl (.base (.tup h))
    · exact .inl (.fTuple h)
    · exact .inl (.kTuple h hc)
theorem isTy_ok (T : String) (hT : T = "bool" ∨ T = "int" ∨ T = "str" ∨ T = "list" ∨ T = "tuple") : IsOk C (.type T) (isTy T) := fun d b e => by
  obtain ⟨a, e1, e2⟩ := Option.bind_eq_some_iff.mp e
  have ha : a = "NoneType" ∨ a = "bool" ∨ a = "int" ∨ a = "str" ∨ a = "list" ∨ a = "tuple" := by cases d <;> first | (cases e1; done) | (cases e1; simp)
  refine ⟨.type a, ?_, fun G v r => (tyS_ok e1 r).1, ?_⟩
  · cases d <;> first | (cases e1; done) | (cases e1; rfl)
  · have key : ∀ a T b, (T = "bool" ∨ T = "int" ∨ T = "str" ∨ T = "list" ∨ T = "tuple") → (a = "NoneType" ∨ a = "bool" ∨ a = "int" ∨ a = "str" ∨ a = "list" ∨ a = "tuple") → tyN T a = some b → kitB a T = some b := by
      intro a T b h1 h2 h3
      rw [← h3]
      rcases h1 with rfl | rfl | rfl | rfl | rfl <;> rcases h2 with rfl | rfl | rfl | rfl | rfl | rfl <;> decide +kernel
    exact kit_ty (key a T b hT ha e2)
/-- own exceptions: sub tells which is below which -/
def isEx (sub : Str → Option Bool) : D → Option Bool
  | .exc c _ => sub c
  | _ => none
theorem isEx_ok {u : Value} {sub : Str → Option Bool} (h : ∀ c b, sub c = some b → ∃ cd, C.cls c = some cd ∧ ExcC C.K cd ∧ kitOne C.K (.ref cd) u = some b) : IsOk C u (isEx sub) := fun d b e => by
  cases d <;> first | (cases e; done) | skip
  rename_i c l
  obtain ⟨cd, hc, h1, h2⟩ := h c b e
  refine ⟨.ref cd, (show (C.cls c).map Value.ref = _ by rw [hc]; rfl), fun G v r H le => ?_, h2⟩
  obtain ⟨a, cd', rfl, hc', r⟩ := r
  rw [hc] at hc'; cases hc'
  refine .inr ⟨a, cd, rfl, rfl, h1, ?_⟩
  rcases r with ⟨_, r⟩ | ⟨dx, xs, r1, r2, _⟩
  · exact .inl (le _ _ r)
  · exact .inr ⟨dx, _, le _ _ r1, le _ _ r2⟩
/-- of values that are no exceptions, of an own class: no -/
def isNo (g : D → Option Bool) : D → Option Bool
  | .exc c l => g (.exc c l)
  | d => (tyS d).map fun _ => false
theorem isNo_ok {cd : Addr} {g : D → Option Bool} (h : IsOk C (.ref cd) g) (h2 : ∀ a, a = "NoneType" ∨ a = "bool" ∨ a = "int" ∨ a = "str" ∨ a = "list" ∨ a = "tuple" → kitOne C.K (.type a) (.ref cd) = some false) : IsOk C (.ref cd) (isNo g) := fun d b e => by
  cases d <;> first | exact h _ b e | skip
  all_goals first
    | (cases e; done)
    | (cases e
       refine ⟨_, rfl, fun G v r => (tyS_ok (by rfl) r).1, h2 _ (by simp)⟩)
def isAny : List (D → Option Bool) → D → Option Bool
  | [], _ => some false
  | g :: gs, d => match g d with
    | some true => some true
    | some false => isAny gs d
    | none => none
theorem isAny_in {t : Value} {d : D} (ht : tyOf C d = some t) : ∀ {us : List Value} {gs : List (D → Option Bool)}, Paired (IsOk C) us gs → ∀ {b : Bool}, isAny gs d = some b → kitAny C.K t us = some b
  | _, _, .nil, b, e => by cases e; rfl
  | u :: us, g :: gs, .cons h hs, b, e => by
    unfold isAny at e
    unfold kitAny
    cases eg : g d with
    | none => rw [eg] at e; cases e
    | some x =>
      obtain ⟨t', e1, _, e3⟩ := h d x eg
      rw [ht] at e1; cases e1
      rw [e3]
      rw [eg] at e
      cases x with
      | true => cases e; rfl
      | false => exact isAny_in ht hs e
theorem isAny_ok {u : Value} {us : List Value} {g : D → Option Bool} {gs : List (D → Option Bool)} (h : Paired (IsOk C) (u :: us) (g :: gs)) : IsOkT C (u :: us) (isAny (g :: gs)) := fun d b e => by
  have e' := e
  unfold isAny at e'
  cases h with
  | cons h1 h2 =>
    cases eg : g d with
    | none => rw [eg] at e'; cases e'
    | some x =>
      obtain ⟨t, e1, e2, _⟩ := h1 d x eg
      exact ⟨t, e1, e2, isAny_in e1 (.cons h1 h2) e⟩
/-- a class as an argument -/
def tCl (c : V) : TE := tC c
def isM (g : D → Option Bool) (f : M D) : M D := f >>= fun d => opt ((g d).map .bl)
theorem dE_is {g : D → Option Bool} {c : V} {u : Value} (k : ClsV c u) (ok : IsOk C u g) {f : M D} {σ : L2.St} {H : Hp} {Q : VK} (h : dE C W (isM g f) σ H Q) : tCB (rIsZ C.K) (tCons (dE C W f) (tCons (tC c) tNil)) σ H Q := by
  obtain ⟨G, ρ, α, w, h⟩ := h
  refine ⟨G, ρ, α, w, (Rn.bind (R' := RpE C) h).mono fun x H1 hx => ?_⟩
  obtain ⟨G1, ρ1, α1, a, w1, s1, ra, h1⟩ := hx
  obtain ⟨d, e, q⟩ := rn_opt w1 h1
  obtain ⟨b, e1, rfl⟩ := Option.map_eq_some_iff.mp e
  obtain ⟨t, _, t1, t2⟩ := ok a b e1
  exact ⟨x, c, t, u, b, rfl, k, t1 G1 x ra H1 w1.le, t2, q.now w1.le rfl⟩
/-- constants as arguments -/
def tCs : List V → TA
  | [] => tNil
  | v :: vs => tCons (tC v) (tCs vs)
theorem tCs_of : ∀ {cs : List V} {σ : L2.St} {H : Hp} {Q : List V → Hp → Prop}, Q cs H → tCs cs σ H Q
  | [], _, _, _, h => h
  | c :: cs, σ, H, Q, h => tCs_of (cs := cs) (Q := fun vs H' => Q (c :: vs) H') h
theorem dE_isT {g : D → Option Bool} {cs : List V} {us : List Value} (k : Paired ClsV cs us) (hl : cs.length ≤ sizeLine) (ok : IsOkT C us g) {f : M D} {σ : L2.St} {H : Hp} {Q : VK} (h : dE C W (isM g f) σ H Q) : tCB (rIsZT C.K) (tCons (dE C W f) (tCons (tTup (tCs cs)) tNil)) σ H Q := by
  obtain ⟨G, ρ, α, w, h⟩ := h
  refine ⟨G, ρ, α, w, (Rn.bind (R' := RpE C) h).mono fun x H1 hx => ?_⟩
  obtain ⟨G1, ρ1, α1, a, w1, s1, ra, h1⟩ := hx
  obtain ⟨d, e, q⟩ := rn_opt w1 h1
  obtain ⟨b, e1, rfl⟩ := Option.map_eq_some_iff.mp e
  obtain ⟨t, _, t1, t2⟩ := ok a b e1
  have hQ : ∀ p, H1 p = none → (rIsZT C.K) [x, .ref p] (upd H1 p (.tup cs)) Q := fun p n => by
    have y := Ext.new (o := .tup cs) w1.le n
    exact ⟨x, p, cs, t, us, b, rfl, upd_same, k, t1 G1 x ra _ (w1.le.trans y.hh), t2, q (.bl b) _ _ y rfl⟩
  exact tCs_of (Q := fun vs H2 => vs.length ≤ sizeLine ∧ ∀ p, H2 p = none → rIsZT C.K [x, .ref p] (upd H2 p (.tup vs)) Q) ⟨hl, hQ⟩
section
variable {g : D → Option Bool} {f : M D} {u : Value} {e a : Expr} {p pos : Pos} {v : V}
theorem pd_is (hC : C.K = X.K) (k : ClsV v u) (ok : IsOk C u g) (hm : X.mg "isinstance" = none) (he : PE X e (dE C W f)) (ha : PE X a (tC v)) (hg : Gl X "isinstance" := by rfl)
    (hs : starEach [e, a] X.env = (false, eval e X.env) :: starEach [a] X.env := by rfl) (hs2 : starEach [a] X.env = (false, eval a X.env) :: starEach [] X.env := by rfl) (hpl : (backTo pos (starEach [a] X.env)).any (·.1) = false := by rfl) :
    PE X (.Call (.Name "isinstance" p) [e, a] [] pos) (dE C W (isM g f)) :=
  pe_mono (pe_callB call_isZ hg hm (by rfl) (pa_cons he (pa_cons ha pa_nil hs2) hs) (by decide) (by decide) hs hpl) fun _ _ _ h => hC ▸ dE_is k ok h
theorem pd_isT {cs : List V} {us : List Value} {es : List Expr} {kk : Nat} {tpos : Pos} (hC : C.K = X.K) (k : Paired ClsV cs us) (hl : cs.length ≤ sizeLine) (ok : IsOkT C us g) (hm : X.mg "isinstance" = none) (he : PE X e (dE C W f)) (ha : PA X es (tCs cs)) (hg : Gl X "isinstance" := by rfl)
    (hs : starEach [e, .Tuple es kk tpos] X.env = (false, eval e X.env) :: starEach [.Tuple es kk tpos] X.env := by rfl) (hs2 : starEach [.Tuple es kk tpos] X.env = (false, eval (.Tuple es kk tpos) X.env) :: starEach [] X.env := by rfl) (hpl : (backTo pos (starEach [.Tuple es kk tpos] X.env)).any (·.1) = false := by rfl) :
    PE X (.Call (.Name "isinstance" p) [e, .Tuple es kk tpos] [] pos) (dE C W (isM g f)) :=
  pe_mono (pe_callB call_isZT hg hm (by rfl) (pa_cons he (pa_cons (pe_tup ha) pa_nil hs2) hs) (by decide) (by decide) hs hpl) fun _ _ _ h => hC ▸ dE_isT k hl ok h
end
end
end Pd

set_option maxHeartbeats 4000000
namespace Pd
open PySem PySem.Spec PyProof.Rows L2

section
variable {C : Ct} {W : WX} {X : Cx}
/-! ### small things -/
theorem ok_abs : CallOk C (fun xs H Q => ∃ i, xs = [.int i] ∧ Q (.int (if i < 0 then -i else i)) H) (one absD) := fun G H vs l d Q le r e q => by
  obtain ⟨a, x, rfl, rfl, ra, e⟩ := one_cases e r
  cases a <;> first | (cases e; done) | skip
  cases e; cases ra
  exact ⟨_, rfl, q.now le rfl⟩
def bitsD : D → Option D
  | .int i => some (.int (Builtin.Int.intBits i : Nat))
  | _ => none
theorem pd_bits {o : Expr} {apos pos : Pos} {f : M D} (ho : PE X o (dE C W f)) (hbase : attributeBase o "bit_length" X.env (eval o X.env) = eval o X.env := by rfl) (hline : (apos.endLine == pos.line) = true := by rfl) :
    PE X (.Call (.Attribute o "bit_length" apos) [] [] pos) (dE C W (unD bitsD f)) :=
  pe_mono (pe_bits ho hbase hline) fun σ H Q h => by
    obtain ⟨G, ρ, α, w, h⟩ := h
    refine ⟨G, ρ, α, w, (Rn.bind (R' := RpE C) h).mono fun x H1 hx => ?_⟩
    obtain ⟨G1, ρ1, α1, a, w1, s1, ra, h1⟩ := hx
    obtain ⟨d, e, q⟩ := rn_opt w1 h1
    cases a <;> first | (cases e; done) | skip
    cases e; cases ra
    exact ⟨_, rfl, q.now w1.le rfl⟩
/-- e.place, e an own exception -/
def plD : D → Option D
  | .exc _ [d] => some d
  | _ => none
/-- at the classes that c stands for -/
def plM (c : Str) (f : M D) : M D := f >>= fun d => match d with
  | .exc c' [x] => if c' = c then pure x else no
  | _ => no
theorem pd_place {c : Str} {cd fI : Addr} {e : Expr} {pos : Pos} {f : M D} (T : ExP X.K cd fI) (hcls : C.cls c = some cd) (he : PE X e (dE C W f)) (hb : attributeBase e "place" X.env (eval e X.env) = eval e X.env := by rfl) : PE X (.Attribute e "place" pos) (dE C W (plM c f)) := by
  refine ⟨fun pins s σ H Q I h => ?_⟩
  obtain ⟨G, ρ, α, w, h⟩ := h
  refine attr_of hb (thn (he.run pins s σ H _ I ⟨G, ρ, α, w, Rn.bind (R' := RpE C) h⟩) fun u s1 hh => ?_)
  obtain ⟨x, H1, I1, rx, G1, ρ1, α1, d, w1, s1', rd, h1⟩ := hh
  have z : ∃ y, d = .exc c [y] ∧ Rn C W (RpE C) (pure y) σ G1 H1 ρ1 α1 Q := by
    cases d with
    | exc c' l =>
      match l, h1 with
      | [], h1 => exact h1.elim
      | _ :: _ :: _, h1 => exact h1.elim
      | [y], h1 =>
        by_cases hc : c' = c
        · subst hc
          exact ⟨y, rfl, Rn.eq (congrFun (if_pos rfl) ρ1) h1⟩
        · exact (h1.no (congrFun (if_neg hc) ρ1)).elim
    | _ => exact h1.elim
  obtain ⟨y, rfl, h2⟩ := z
  obtain ⟨a, cd', rfl, hc', r⟩ := rd
  rw [hcls] at hc'; cases hc'
  obtain rfl : u = Value.ref a := rx
  rcases r with ⟨z, _⟩ | ⟨dx, xs, r1, r2, r3, r4⟩
  · cases z
  · obtain ⟨v, r5, rfl, rv, rfl⟩ := r4
    obtain ⟨t1, h1'⟩ := exo_at I1.hok (w1.le _ _ r1)
    obtain ⟨mA, hns, hr⟩ := exd_at I1.hok (w1.le _ _ r2)
    obtain ⟨od, ho, hl⟩ := lookIn_ns hns
    have l : List.lookup ("place" : Str) [(("place" : Str), v)] = some v := by simp [List.lookup]
    obtain ⟨u, hu, ru⟩ := RelO.some_of (v := v) (o := mA "place") (by rw [← l]; exact hr "place")
    have J : PySem.W.InstAt s1.heap a _ cd (some od) := ⟨h1', rfl, rfl, ho⟩
    exact HandSPX.exc_get I1.kIn J T.ga T.gg T.T.exC (PySem.W.findObj_own T.hdC T.noN rfl (by rw [hl, hu])) (handed_of ru) ⟨v, H1, I1.tok _, ru, (rn_pure w1 h2).now w1.le rv⟩
/-- [..] * n -/
def repGo (l : List D) (d : D) : M D := match d with
  | .int k => if -(2 ^ 63) ≤ k ∧ k < 2 ^ 63 ∧ l.length * k.toNat ≤ sizeLine then pure (.lst (List.replicate k.toNat l).flatten) else no
  | _ => no
def repM (fl : M (List D)) (fb : M D) : M D := fl >>= fun l => fb >>= fun d => repGo l d
theorem RpL.rep {G : Hp} {l : List D} {xs : List V} (h : RpL C G l xs) : ∀ n : Nat, RpL C G (List.replicate n l).flatten (List.replicate n xs).flatten
  | 0 => rfl
  | n + 1 => by
    rw [List.replicate_succ, List.replicate_succ, List.flatten_cons, List.flatten_cons]
    exact h.append (RpL.rep h n)
theorem dL_rep {fl : M (List D)} {fb : M D} {σ : L2.St} {H : Hp} {Q : VK} (h : dE C W (repM fl fb) σ H Q) : tOp rRep (dL C W fl) (dE C W fb) σ H Q := by
  obtain ⟨G, ρ, α, w, h⟩ := h
  refine ⟨G, ρ, α, w, ?_⟩
  unfold Rn repM at h
  unfold RnL
  cases e : fl ρ with
  | no => rw [bind_no e] at h; exact h
  | ex c l ρ' => rw [bind_ex e] at h; exact h
  | ok l ρ1 =>
    rw [bind_ok e] at h
    intro p xs G1 H1 α1 st1 w1 k1 k2 k3 k4 k5
    refine ⟨G1, ρ1, α1, w1, ?_⟩
    unfold Rn
    cases e2 : fb ρ1 with
    | no => rw [bind_no e2] at h; exact h
    | ex c m ρ' =>
      rw [bind_ex e2] at h
      exact fun cls dct G' H' α' s w r => h cls dct G' H' α' (st1.trans s) w r
    | ok d ρ2 =>
      rw [bind_ok e2] at h
      intro y G2 H2 α2 st2 w2 ry
      cases d <;> first | (exact h.elim) | skip
      rename_i k
      cases ry
      by_cases hz : -(2 ^ 63) ≤ k ∧ k < 2 ^ 63 ∧ l.length * k.toNat ≤ sizeLine
      · rw [show repGo l (.int k) ρ2 = .ok (.lst (List.replicate k.toNat l).flatten) ρ2 from congrFun (if_pos hz) ρ2] at h
        obtain ⟨m1, m2, m3⟩ := st2.other k1 k3 k4
        refine ⟨p, k, xs, rfl, rfl, m1, hz.1, hz.2.1, by rw [k2.length]; exact hz.2.2, fun q n => ?_⟩
        have x := Ext.new (o := .lst (List.replicate k.toNat xs).flatten) w2.le n
        exact h (.ref q) _ _ α2 ((st1.trans st2).trans x.step) (w2.ext x) ⟨q, _, rfl, .of upd_same, (k2.mono (st2.gg.trans x.gg)).rep _⟩
      · rw [show repGo l (.int k) ρ2 = .no from congrFun (if_neg hz) ρ2] at h
        exact h.elim
theorem pd_rep {a b : Expr} {pos : Pos} {fl : M (List D)} {fb : M D} (ha : PE X a (dL C W fl)) (hb : PE X b (dE C W fb)) : PE X (.BinOp a .Mult b pos) (dE C W (repM fl fb)) := pe_mono (pe_op op_rep ha hb) fun _ _ _ h => dL_rep h
/-- a name of the module -/
theorem pd_glob {x : Str} {v : V} {u : Value} {d : D} {pos : Pos} (hm : X.mg x = some u) (r : RelV v u) (rd : ∀ G, Rp C G d v) (hg : Gl X x := by rfl) (hd : (x == ("__debug__" : Str)) = false := by decide) : PE X (.Name x pos) (dE C W (pure d)) := pd_c (pe_glob hg hm r hd) rd

/-! ### x = f(..), f gives things of one's own; then the rest -/
/-- at the state ρ: the args, the def's way to the own things, the rest -/
def wayW (n np : Nat) (f : M Fl) (ds : List D) : Option (T → Prop) := if ds.length = np then (match f (unE n (ds.map .va)) with
  | .ok (.rw k) _ => some k
  | _ => none) else none
/-- the reading of x = f(fa); rest: for each tree that it may give -/
def dSW (C : Ct) (W : WX) (n np i : Nat) (f : M Fl) (fa : M (List D)) (rest : T → M Fl) : TS := fun E σ H => ∃ G ρ α ds ρ1 k, Wf C G H σ ρ α ∧ fa ρ = .ok ds ρ1 ∧ wayW n np f ds = some k ∧ i < ρ1.length ∧ ∀ t, k t →
  ∀ σ' G' H' α', Step G H α G' H' α' → Wf C G' H' σ' (ρ1.set i (.ow t)) α' → RnS C W (rest t) G' H' (ρ1.set i (.ow t)) α' E
def dSt (C : Ct) (W : WX) (k : T → Prop) (ρ : Ev) (i : Nat) (f : T → M Fl) : TS := fun E σ H => ∃ G α t, k t ∧ Wf C G H σ (ρ.set i (.ow t)) α ∧ RnS C W (f t) G H (ρ.set i (.ow t)) α E
theorem pss_any {ι : Sort _} {st : List Stmt} {t : ι → TS} (h : ∀ j, PSs X st (t j)) : PSs X st (fun E σ H => ∃ j, t j E σ H) := ⟨fun pins s σ H D I q => by
  obtain ⟨j, q⟩ := q
  exact (h j).run pins s σ H D I q⟩
theorem pds_letW (i : Nat) {n np : Nat} {f : M Fl} {fa : M (List D)} {k : Nat} {fA : Addr} {fd : FuncData} {ps : List Str} {x y : Str} {e : Expr} {es : List Expr} {p p2 pos pos2 : Pos} {rest : T → M Fl} {sts : List Stmt} (hN : X.N.Nodup)
    (F : FnOk X.prog X.w X.K X.mg X.base (L2.CX X.prog X.w) k fA fd ps (spG C n np f)) (hr : Room k X.A) (hm : X.mg x = some (.ref fA)) (hk : PySem.W.keepIn X.K (.ref fA) = true) (hb : Binds X.K fd ps []) (tk : Takes X W) (ha : PA X (e :: es) (dA C W fa)) (hrest : ∀ t, PSs X sts (dS C W (rest t)))
    (hg : Gl X x := by rfl) (hdb : (x == ("__debug__" : Str)) = false := by decide) (he : starEach (e :: es) X.env = (false, eval e X.env) :: starEach es X.env := by rfl) (hpl : (backTo pos (starEach es X.env)).any (·.1) = false := by rfl)
    (hi : X.N[i]? = some y := by rfl) (hx : Loc X.env.scope y := by first | exact Or.inl rfl | exact Or.inr rfl) (hf : X.fn y = true ∨ X.env.scope.names.lookup y = some .local := by first | exact .inl rfl | exact .inr rfl | assumption)
    (hs : swapsWithSole [.Name y p2] (.Call (.Name x p) (e :: es) [] pos) pos2.line X.env = pure false := by rfl) (hw : swappedStores [.Name y p2] (.Call (.Name x p) (e :: es) [] pos) X.env = pure none := by rfl) (h1 : (assignEach [.Name y p2] X.env).map (·.2) = [assign (.Name y p2) X.env] := by rfl) :
    PSs X (.Assign [.Name y p2] (.Call (.Name x p) (e :: es) [] pos) pos2 :: sts) (dSW C W n np i f fa rest) :=
  pss_mono (pss_cons (ps_asg (pe_callS F hr hg hm hk hb (fun σ => passAt tk σ) ha hdb he hpl) (pg_name (i := i) hN hi hx hf) hs hw h1) (pss_any (t := fun t : T => dS C W (rest t)) hrest)) fun E σ H h => by
    obtain ⟨G, ρ, α, ds, ρ1, kk, w, e1, e2, hi1, h⟩ := h
    refine ⟨G, ρ, α, w, rn_ok e1 fun vs G1 H1 α1 st1 w1 rl => ?_⟩
    unfold wayW at e2
    by_cases hl : ds.length = np
    · rw [if_pos hl] at e2
      refine ⟨G1, ds.map .va, noα, by rw [List.length_map]; exact hl, rl.slots w1.le, ?_⟩
      unfold RnS
      cases e3 : f (unE n (ds.map .va)) with
      | no => rw [e3] at e2; cases e2
      | ex c l ρ' => rw [e3] at e2; cases e2
      | ok fl ρ' =>
        rw [e3] at e2
        cases fl <;> first | (cases e2; done) | skip
        cases e2
        intro t v σ' G' H' α' hk st w' r pd nw
        have x := st.ext (fun _ => rfl) w'.le
        have fresh : ∀ a ∈ t.adr, H1 a = none := fun a m => (nw a m).elim (fun ⟨i, m⟩ => nomatch m) id
        have pd1 : Pend G' H' α1 t.adr := ⟨pd.1, fun a m => ⟨(pd.2 a m).1, (pd.2 a m).2.1, fun j mj => by
          obtain ⟨_, o, ho⟩ := w1.ng j a mj
          rw [fresh a m] at ho; cases ho⟩⟩
        have w2 := (w1.ext x).setS hi1 (s := .ow t) (v := v) ⟨rfl, v, rfl, r⟩ pd1
        have st2 := (st1.trans x.step).onS (i := i) (as := t.adr) fun a m => st1.new' (.inr (fresh a m))
        exact ⟨t, G', _, _, w2, h t hk _ G' H' _ st2 w2⟩
    · rw [if_neg hl] at e2; cases e2
end
end Pd

set_option maxHeartbeats 4000000
namespace Pd
open PySem PySem.Spec PyProof.Rows L2

theorem u65 {A : Around} {k : Nat} (hr : Room k A) : A.units + 65 < cLine := by have := hr.un; omega
theorem u64 {A : Around} {k : Nat} (hr : Room k A) : A.units + 64 < cLine := by have := hr.un; omega
section
variable {C : Ct} {P : Program} {w : World} {mg : Str → Option Value} {base : Heap}
/-- a def of the module, all that a call asks -/
structure Hs (C : Ct) (P : Program) (w : World) (mg : Str → Option Value) (base : Heap) (x : Str) (fA : Addr) (k : Nat) (ps : List Str) (n np : Nat) (f : M Fl) : Prop where
  ex : ∃ fd, FnOk P w C.K mg base (L2.CX P w) k fA fd ps (spG C n np f) ∧ Binds C.K fd ps [] ∧ BindsK C.K fd ps
  mg_ : mg x = some (.ref fA)
  kp : PySem.W.keepIn C.K (.ref fA) = true
theorem hs_of {k : Nat} {x qual : Str} {params : Arguments} {body : List Stmt} {scope : Scope} {kws : List (Str × V)} {f : Addr} {fd : FuncData} {N ps : List Str} {g : M Fl} (F : FunD C.K x qual params body scope [] kws f fd) (S : FnScope N ps scope) (hm : mg x = some (.ref f))
    (hb : ∀ (kV doc pm : Value) (an : Option Addr) (cdv ct : Value) (us : List Value), us.length = ps.length → bindArgs (PySem.W.fnOf x qual params body scope .none kV doc pm an cdv ct) ⟨us, []⟩ = pure (ps.zip us))
    (hbk : ∀ (kV doc pm : Value) (an : Option Addr) (cdv ct : Value) (us : List Value), us.length = ps.length → bindArgs (PySem.W.fnOf x qual params body scope .none kV doc pm an cdv ct) ⟨[], ps.zip us⟩ = pure (ps.zip us))
    (hbody : ∀ (cdv : Value) (A : Around) (outer : List Env) (s : Shared) (H : Hp) (E : XK), Room k (A.deeper (envOfC qual scope s.heap.objs.size f cdv)) → PSs (cxOf (L2.CX P w) P w C.K mg base N qual scope f cdv A outer s H E) body (dS C (fun c d _ H' => E c d H') g)) :
    Hs C P w mg base x f (k + 1) ps N.length ps.length g := ⟨⟨fd, fn_g F S hbody, F.bindsN hb, bindsK F hbk⟩, hm, F.kp⟩
/-- for a def that is called by itself further down: the first of the ways -/
theorem hs_mono {x : Str} {fA : Addr} {k k' : Nat} {ps : List Str} {n np : Nat} {f : M Fl} (h : Hs C P w mg base x fA k ps n np f) (hk : k ≤ k') : Hs C P w mg base x fA k' ps n np f := by
  obtain ⟨fd, F, b⟩ := h.ex
  exact ⟨⟨fd, F.mono hk, b⟩, h.mg_, h.kp⟩
end
section
variable {C : Ct} {W : WX} {X : Cx} {x y : Str} {fA : Addr} {k k' : Nat} {ps : List Str} {n np : Nat} {f : M Fl} {fa : M (List D)} {e : Expr} {es : List Expr} {kws : List Keyword} {p p2 pos : Pos}
theorem pd_callH (hC : C.K = X.K) (H : Hs C X.prog X.w X.mg X.base x fA k ps n np f) (hr : Room k' X.A) (tk : Takes X W) (ha : PA X (e :: es) (dA C W fa)) (hk : k ≤ k' := by decide)
    (hg : Gl X x := by rfl) (hdb : (x == ("__debug__" : Str)) = false := by decide) (he : starEach (e :: es) X.env = (false, eval e X.env) :: starEach es X.env := by rfl) (hpl : (backTo pos (starEach es X.env)).any (·.1) = false := by rfl) :
    PE X (.Call (.Name x p) (e :: es) [] pos) (dE C W (callG n np f fa)) := by
  obtain ⟨fd, F, b, _⟩ := H.ex
  exact pd_call (hC ▸ F) (hr.mono hk) H.mg_ (hC ▸ H.kp) (hC ▸ b) tk ha hg hdb he hpl
theorem pl_callH (hC : C.K = X.K) (H : Hs C X.prog X.w X.mg X.base x fA k ps n np f) (hr : Room k' X.A) (tk : Takes X W) (ha : PA X (e :: es) (dA C W fa)) (hk : k ≤ k' := by decide)
    (hg : Gl X x := by rfl) (hdb : (x == ("__debug__" : Str)) = false := by decide) (he : starEach (e :: es) X.env = (false, eval e X.env) :: starEach es X.env := by rfl) (hpl : (backTo pos (starEach es X.env)).any (·.1) = false := by rfl) :
    PE X (.Call (.Name x p) (e :: es) [] pos) (dL C W (callL n np f fa)) := by
  obtain ⟨fd, F, b, _⟩ := H.ex
  exact pl_call (hC ▸ F) (hr.mono hk) H.mg_ (hC ▸ H.kp) (hC ▸ b) tk ha hg hdb he hpl
theorem pd_callKH (hC : C.K = X.K) (H : Hs C X.prog X.w X.mg X.base x fA k ps n np f) (hr : Room k' X.A) (tk : Takes X W) (ha : PK X kws (dA C W fa)) (hk : k ≤ k' := by decide)
    (hg : Gl X x := by rfl) (hall : (backToKw pos (keywordEach kws X.env)).all (·.1.isSome) = true := by rfl) (hks : (backToKw pos (keywordEach kws X.env)).filterMap (·.1) = ps := by rfl) (hdb : (x == ("__debug__" : Str)) = false := by decide)
    (hpl : ((backTo pos (starEach [] X.env)).any (·.1) || (backToKw pos (keywordEach kws X.env)).any (·.1.isNone)) = false := by rfl) : PE X (.Call (.Name x p) [] kws pos) (dE C W (callG n np f fa)) := by
  obtain ⟨fd, F, _, b⟩ := H.ex
  exact pd_callK (hC ▸ F) (hr.mono hk) H.mg_ (hC ▸ H.kp) (hC ▸ b) tk ha hg hall hks hdb hpl
theorem pl_callKH (hC : C.K = X.K) (H : Hs C X.prog X.w X.mg X.base x fA k ps n np f) (hr : Room k' X.A) (tk : Takes X W) (ha : PK X kws (dA C W fa)) (hk : k ≤ k' := by decide)
    (hg : Gl X x := by rfl) (hall : (backToKw pos (keywordEach kws X.env)).all (·.1.isSome) = true := by rfl) (hks : (backToKw pos (keywordEach kws X.env)).filterMap (·.1) = ps := by rfl) (hdb : (x == ("__debug__" : Str)) = false := by decide)
    (hpl : ((backTo pos (starEach [] X.env)).any (·.1) || (backToKw pos (keywordEach kws X.env)).any (·.1.isNone)) = false := by rfl) : PE X (.Call (.Name x p) [] kws pos) (dL C W (callL n np f fa)) := by
  obtain ⟨fd, F, _, b⟩ := H.ex
  exact pl_callK (hC ▸ F) (hr.mono hk) H.mg_ (hC ▸ H.kp) (hC ▸ b) tk ha hg hall hks hdb hpl
theorem pd_callOH (i : Nat) (hC : C.K = X.K) (H : Hs C X.prog X.w X.mg X.base x fA k ps n np f) (hr : Room k' X.A) (tk : Takes X W) (ha : PA X es (dA C W fa)) (hk : k ≤ k' := by decide)
    (hN : X.N[i]? = some y := by rfl) (hv : Vis X.env.scope y := by first | exact Or.inl rfl | exact Or.inr (Or.inl rfl) | exact Or.inr (Or.inr rfl)) (hd : (y == ("__debug__" : Str)) = false := by decide)
    (hcd : (y == ("__classdict__" : Str)) = false := by decide) (hs : starEach (.Name y p2 :: es) X.env = (false, eval (.Name y p2) X.env) :: starEach es X.env := by rfl)
    (hg : Gl X x := by rfl) (hdb : (x == ("__debug__" : Str)) = false := by decide) (hpl : (backTo pos (starEach es X.env)).any (·.1) = false := by rfl) :
    PE X (.Call (.Name x p) (.Name y p2 :: es) [] pos) (dE C W (callO n np i f fa)) := by
  obtain ⟨fd, F, b, _⟩ := H.ex
  exact pd_callO i (hC ▸ F) (hr.mono hk) H.mg_ (hC ▸ H.kp) (hC ▸ b) tk ha hN hv hd hcd hs hg hdb hpl
end
/-! ### the law's own def -/
def spLaw0 (C : Ct) (n : Nat) (f : M Fl) : Sp := fun vs H Q _ => ∃ G args α, args.length = 1 ∧ Wf C G H (vs.map some) args α ∧ RnS C W0 f G H (unE n args) α { nx := fun _ H' => Q .non H', rt := Q }
theorem fn_law {C : Ct} {P : Program} {w : World} {mg : Str → Option Value} {base : Heap} {k : Nat} {x qual : Str} {params : Arguments} {body : List Stmt} {scope : Scope} {dvs : List V} {kws : List (Str × V)} {f : Addr} {fd : FuncData} {N ps : List Str} {g : M Fl} (hp : ps.length = 1)
    (F : FunD C.K x qual params body scope dvs kws f fd) (S : FnScope N ps scope)
    (hbody : ∀ (cdv : Value) (A : Around) (outer : List Env) (s : Shared) (H : Hp) (E : XK), Room k (A.deeper (envOfC qual scope s.heap.objs.size f cdv)) → PSs (cxOf CX0 P w C.K mg base N qual scope f cdv A outer s H E) body (dS C W0 g)) :
    FnOk P w C.K mg base CX0 (k + 1) f fd ps (spLaw0 C N.length g) :=
  F.ok S (fun vs H Q E h => by
    obtain ⟨G, args, α, hl, w, _⟩ := h
    rw [hp, ← hl, ← w.len, List.length_map]) fun cdv A outer s H vs Q E hr h => by
    obtain ⟨G, args, α, hl, w, h⟩ := h
    exact ⟨_, hbody cdv A outer s H E hr, G, _, α, w.start, h⟩
/-- .. whose first statement is y = _law_bag(script) -/
def spLawW (C : Ct) (N : List Str) (n np i : Nat) (f : M Fl) (fa : M (List D)) (rest : T → M Fl) : Sp := fun vs H Q _ => vs.length = 1 ∧ dSW C W0 n np i f fa rest { nx := fun _ H' => Q .non H', rt := Q } (L2.start N vs) H
theorem fn_lawW {C : Ct} {P : Program} {w : World} {mg : Str → Option Value} {base : Heap} {k n np i : Nat} {x qual : Str} {params : Arguments} {body : List Stmt} {scope : Scope} {dvs : List V} {kws : List (Str × V)} {f : Addr} {fd : FuncData} {N ps : List Str} {g : M Fl} {fa : M (List D)} {rest : T → M Fl} (hp : ps.length = 1)
    (F : FunD C.K x qual params body scope dvs kws f fd) (S : FnScope N ps scope)
    (hbody : ∀ (cdv : Value) (A : Around) (outer : List Env) (s : Shared) (H : Hp) (E : XK), Room k (A.deeper (envOfC qual scope s.heap.objs.size f cdv)) → PSs (cxOf CX0 P w C.K mg base N qual scope f cdv A outer s H E) body (dSW C W0 n np i g fa rest)) :
    FnOk P w C.K mg base CX0 (k + 1) f fd ps (spLawW C N n np i g fa rest) :=
  F.ok S (fun vs H Q E h => by rw [hp]; exact h.1) fun cdv A outer s H vs Q E hr h => ⟨_, hbody cdv A outer s H E hr, h.2⟩
theorem pds_letWH {C : Ct} {W : WX} {X : Cx} (i : Nat) {n np : Nat} {f : M Fl} {fa : M (List D)} {k k' : Nat} {fA : Addr} {ps : List Str} {x y : Str} {e : Expr} {es : List Expr} {p p2 pos pos2 : Pos} {rest : T → M Fl} {sts : List Stmt} (hC : C.K = X.K) (hN : X.N.Nodup)
    (H : Hs C X.prog X.w X.mg X.base x fA k ps n np f) (hr : Room k' X.A) (tk : Takes X W) (ha : PA X (e :: es) (dA C W fa)) (hrest : ∀ t, PSs X sts (dS C W (rest t))) (hk : k ≤ k' := by decide)
    (hg : Gl X x := by rfl) (hdb : (x == ("__debug__" : Str)) = false := by decide) (he : starEach (e :: es) X.env = (false, eval e X.env) :: starEach es X.env := by rfl) (hpl : (backTo pos (starEach es X.env)).any (·.1) = false := by rfl)
    (hi : X.N[i]? = some y := by rfl) (hx : Loc X.env.scope y := by first | exact Or.inl rfl | exact Or.inr rfl) (hf : X.fn y = true ∨ X.env.scope.names.lookup y = some .local := by first | exact .inl rfl | exact .inr rfl | assumption)
    (hs : swapsWithSole [.Name y p2] (.Call (.Name x p) (e :: es) [] pos) pos2.line X.env = pure false := by rfl) (hw : swappedStores [.Name y p2] (.Call (.Name x p) (e :: es) [] pos) X.env = pure none := by rfl) (h1 : (assignEach [.Name y p2] X.env).map (·.2) = [assign (.Name y p2) X.env] := by rfl) :
    PSs X (.Assign [.Name y p2] (.Call (.Name x p) (e :: es) [] pos) pos2 :: sts) (dSW C W n np i f fa rest) := by
  obtain ⟨fd, F, b, _⟩ := H.ex
  exact pds_letW i hN (hC ▸ F) (hr.mono hk) H.mg_ (hC ▸ H.kp) (hC ▸ b) tk ha hrest hg hdb he hpl hi hx hf hs hw h1
/-- return [[..], e, ..]: a list of one's own, its first item too -/
def rwT (l : List D) (ds : List D) : T → Prop := fun t => ∃ p q, p ≠ q ∧ t = .l p (.v q l :: ds.map .d)
def retW (fl : M (List D)) (fs : M (List D)) : M Fl := fl >>= fun l => fs >>= fun ds => bnd (ds.length + 1) (pure (.rw (rwT l ds)))
theorem RpOL.ds {C : Ct} {G H : Hp} : ∀ {ds : List D} {vs : List V}, RpL C G ds vs → RpOL C G H (ds.map .d) vs
  | [], _, h => h
  | d :: ds, _, h => by
    obtain ⟨x, r, rfl, h1, h2⟩ := h
    exact ⟨x, r, rfl, h1, RpOL.ds h2⟩
theorem adr_ds : ∀ ds : List D, adrL (ds.map .d) = []
  | [] => rfl
  | d :: ds => by
    show T.adr (.d d) ++ adrL (ds.map .d) = []
    rw [adr_ds ds]
    rfl
theorem pds_retW {C : Ct} {W : WX} {X : Cx} {e : Expr} {es : List Expr} {pos pos2 : Pos} {fl fs : M (List D)} (he : PE X e (dL C W fl)) (hes : PA X es (dA C W fs)) (hs : starEach (e :: es) X.env = (false, eval e X.env) :: starEach es X.env := by rfl) :
    PS X (.Return (some (.List (e :: es) pos)) pos2) (dS C W (retW fl fs)) :=
  ps_mono (ps_ret (pe_lst (pa_cons he hes hs))) fun E σ H h => by
    obtain ⟨G, ρ, α, w, h⟩ := h
    refine ⟨G, ρ, α, w, ?_⟩
    unfold RnS retW at h
    unfold RnL
    cases e1 : fl ρ with
    | no => rw [bind_no e1] at h; exact h
    | ex c l ρ' =>
      rw [bind_ex e1] at h
      exact fun cls dct G' H' α' s w r => h cls dct σ G' H' α' s w r
    | ok l ρ1 =>
      rw [bind_ok e1] at h
      intro p0 xs G1 H1 α1 st1 w1 k1 k2 k3 k4 k5
      refine ⟨G1, ρ1, α1, w1, ?_⟩
      unfold Rn
      cases e2 : fs ρ1 with
      | no => rw [bind_no e2] at h; exact h
      | ex c m ρ' =>
        rw [bind_ex e2] at h
        exact fun cls dct G' H' α' s w r => h cls dct σ G' H' α' (st1.trans s) w r
      | ok ds ρ2 =>
        rw [bind_ok e2] at h
        intro vs G2 H2 α2 st2 w2 rv
        by_cases hz : ds.length + 1 ≤ sizeLine
        · rw [show bnd (ds.length + 1) (pure (.rw (rwT l ds)) : M Fl) ρ2 = .ok (.rw (rwT l ds)) ρ2 from congrFun (if_pos hz) ρ2] at h
          refine ⟨by rw [List.length_cons, rv.length]; exact hz, fun p n => ?_⟩
          obtain ⟨m1, m2, m3⟩ := st2.other k1 k3 k4
          have np : p ≠ p0 := fun z => by rw [z, m1] at n; cases n
          have gp : G2 p = none := by
            cases q : G2 p with
            | none => rfl
            | some u => rw [w2.le p u q] at n; cases n
          have ap : ∀ i, p ∉ α2 i := fun i m => by
            obtain ⟨_, o, k⟩ := w2.ng i p m
            rw [n] at k; cases k
          have adr : T.adr (.l p (.v p0 l :: ds.map .d)) = [p, p0] := by
            show p :: (T.adr (.v p0 l) ++ adrL (ds.map .d)) = _
            rw [adr_ds]
            rfl
          refine h (.l p (.v p0 l :: ds.map .d)) (.ref p) σ G2 _ α2 ⟨p, p0, np, rfl⟩ (((st1.trans st2)).trans ((Step.refl ..).side n)) (w2.side gp ap) ⟨.ref p0 :: vs, rfl, upd_same, .ref p0, vs, rfl, ⟨xs, rfl, by rw [upd_ne (Ne.symm np)]; exact m1, k2.mono st2.gg⟩, RpOL.ds rv⟩ ?_ fun a m => ?_
          · rw [adr]
            refine ⟨by simp [np], fun a m => ?_⟩
            rcases List.mem_cons.mp m with rfl | m
            · exact ⟨gp, ⟨_, upd_same⟩, ap⟩
            · rw [List.mem_singleton.mp m]
              exact ⟨m2, ⟨_, by rw [upd_ne (Ne.symm np)]; exact m1⟩, m3⟩
          · rw [adr] at m
            rcases List.mem_cons.mp m with rfl | m
            · exact st1.new' (st2.new' (.inr n))
            · rw [List.mem_singleton.mp m]
              exact k5
        · rw [show bnd (ds.length + 1) (pure (.rw (rwT l ds)) : M Fl) ρ2 = .no from congrFun (if_neg hz) ρ2] at h
          exact h.elim
/-- a script as data -/
def scr (ns : List Int) : D := .lst (ns.map .int)
theorem rpL_scr {C : Ct} {G : Hp} : ∀ ns : List Int, RpL C G (ns.map .int) (ns.map V.int)
  | [] => rfl
  | n :: ns => ⟨.int n, ns.map V.int, rfl, rfl, rpL_scr ns⟩
theorem wf_scr {C : Ct} {H : Hp} {a : Addr} {ns : List Int} (h : SqL C.K H a (ns.map V.int)) : Wf C H H (([V.ref a] : List V).map some) [.va (scr ns)] noα :=
  RpL.slots (ds := [scr ns]) (vs := [.ref a]) (Le.refl H) ⟨.ref a, [], rfl, ⟨a, _, rfl, h, rpL_scr ns⟩, rfl⟩
/-- the law's promise from its plain side -/
theorem lawW_of {C : Ct} {N : List Str} {n np i : Nat} {f : M Fl} {fa : M (List D)} {rest : T → M Fl} {H : Hp} {a : Addr} {ns : List Int} (h : SqL C.K H a (ns.map V.int)) {ds : List D} {ρ1 : Ev} {k : T → Prop} (e1 : fa (unE N.length [.va (scr ns)]) = .ok ds ρ1) (e2 : wayW n np f ds = some k) (hi : i < ρ1.length)
    (hr : ∀ t, k t → ∃ ρ', rest t (ρ1.set i (.ow t)) = .ok (.rt (.bl true)) ρ') : spLawW C N n np i f fa rest [.ref a] H (fun v _ => v = .bl true) fun _ _ _ => False := by
  refine ⟨rfl, H, _, noα, ds, ρ1, k, (wf_scr h).start (N := N), e1, e2, hi, fun t ht σ' G' H' α' st w' => ?_⟩
  obtain ⟨ρ', e⟩ := hr t ht
  unfold RnS
  rw [e]
  exact fun v σ2 G2 H2 α2 _ _ r => r
end Pd

set_option maxHeartbeats 4000000
namespace Pd
open PySem PySem.Spec PyProof.Rows L2

abbrev iL (f : M D) : M (List D) := f >>= fun d => opt (asL d)
abbrev iT (f : M D) : M (List D) := f >>= fun d => opt (asT d)
abbrev iS (f : M D) : M (List D) := f >>= fun d => opt (signs d)
abbrev iR1 (fs : M (List D)) : M (List D) := fs >>= fun l => opt (rng1 l)
abbrev iR2 (fs : M (List D)) : M (List D) := fs >>= fun l => opt (rng2 l)
abbrev iEn (fs : M (List D)) : M (List D) := fs >>= fun l => opt (enum1 l)
abbrev iZip (fs : M (List D)) : M (List D) := fs >>= fun l => opt (zip2 l)
abbrev ltM (f : M (List D)) : M D := f >>= fun l => pure (.lst l)
section
variable {C : Ct} {W : WX} {X : Cx}
theorem cr_or {f : Value} {r r' : List V → Hp → VK → Prop} (h : CallR X f r) (h' : CallR X f r') : CallR X f (fun xs H Q => r xs H Q ∨ r' xs H Q) := fun pins s σ H xs us Q I rv q => q.elim (h pins s σ H xs us Q I rv) (h' pins s σ H xs us Q I rv)
theorem call_intA : CallR X (.type "int") rInt := cr_or call_int1 call_int_str
theorem pd_onetest {e : Expr} {f : M Bool} (h : PT X e (dT C W f)) : PTs X [e] (dT C W f) := pts_one h
theorem pd_const1 {e : Expr} {d : D} (h : PE X e (dE C W (pure d))) (hs : starEach (e :: []) X.env = (false, eval e X.env) :: starEach [] X.env := by rfl) : PA X [e] (dA C W (pure [d])) := pd_cons h pd_nil hs
theorem pss_no {st : List Stmt} : PSs X st (dS C W no) := ⟨fun pins s σ H E I h => by
  obtain ⟨G, ρ, α, w, h⟩ := h
  exact (RnS.no rfl h).elim⟩
theorem ok_min2 : CallOk C (fun xs H Q => ∃ i j, xs = [.int i, .int j] ∧ Q (.int (if j < i then j else i)) H) (two min2D) := fun G H vs l d Q le r e q => by
  match l, r, e with
  | [a, b], r, e =>
    obtain ⟨x, s, rfl, ra, y, t, rfl, rb, rfl⟩ := r
    cases a <;> cases b <;> first | (cases e; done) | skip
    cases e; cases ra; cases rb
    exact ⟨_, _, rfl, q.now le rfl⟩
theorem ok_max2 : CallOk C (fun xs H Q => ∃ i j, xs = [.int i, .int j] ∧ Q (.int (if j > i then j else i)) H) (two max2D) := fun G H vs l d Q le r e q => by
  match l, r, e with
  | [a, b], r, e =>
    obtain ⟨x, s, rfl, ra, y, t, rfl, rb, rfl⟩ := r
    cases a <;> cases b <;> first | (cases e; done) | skip
    cases e; cases ra; cases rb
    exact ⟨_, _, rfl, q.now le rfl⟩
end
end Pd

set_option maxHeartbeats 4000000
/-! ### own exception classes: what the written part must say, as a Bool -/
namespace Pd
open PySem PySem.Spec PyProof.Rows L2
def oexB (K : PySem.W.Frag) (cd : Addr) : Bool := match K.lookup cd with
  | some ⟨.type "type", _, .cls cl, sl⟩ => (match cl.mro, sl.toList with
    | .ref a :: bm, [_, _, _, _, some (.builtin n), _] => a == cd && n == "ValueError.__new__" && !cl.hasDel && cl.hasDict && PySem.HandSPX.refsVE bm
    | _, _ => false)
  | _ => false
theorem oexB_ok {K : PySem.W.Frag} {cd : Addr} (h : oexB K cd = true) : ∃ nm q N bs bm sn sub ab col dd k0 k1 k2 k3 k5, K.lookup cd = some (excClassObj nm q cd N bs bm true sn sub ab col dd k0 k1 k2 k3 k5 "ValueError.__new__") ∧ PySem.HandSPX.refsVE bm = true := by
  unfold oexB at h
  split at h
  · rename_i dd cl sl ho
    split at h
    · rename_i a bm s0 s1 s2 s3 n s5 h1 h2
      simp only [Bool.and_eq_true, beq_iff_eq, Bool.not_eq_true'] at h
      obtain ⟨⟨⟨⟨rfl, rfl⟩, h3⟩, h4⟩, h5⟩ := h
      obtain ⟨nm, bs, mro, ns, q, hd, sn, sub, ab, col, del⟩ := cl
      simp only at h1 h3 h4
      subst h1 h3 h4
      refine ⟨nm, q, ns, bs, bm, sn, sub, ab, col, dd, s0, s1, s2, s3, s5, ?_, h5⟩
      rw [ho]
      have : sl = #[s0, s1, s2, s3, some (.builtin "ValueError.__new__"), s5] := by
        rw [← h2]
      rw [this]
    · cases h
  · cases h
def eqV (a b : Option (Option Value)) : Bool := decide (a = b)
/-- of each own exception class: isinstance asks its instances rightly -/
def excB (K : PySem.W.Frag) (cd : Addr) : Bool :=
  eqV (PySem.W.findIn K (.ref cd) "__getattribute__") (some (some (.builtin "BaseException.__getattribute__"))) && (eqV (PySem.W.findIn K (.ref cd) "__getattr__") (some none) &&
  (decide (PySem.W.subIn K (.ref cd) (.type "BaseException") = some true) && (PySem.W.hasDictIn K cd && (eqV (PySem.W.findIn K (.ref cd) "__class__") (some (some (.builtin "object.__class__"))) &&
  (eqV (PySem.W.specialIn K (.builtin "object.__class__") "__get__") (some (some (.builtin "getset_descriptor.__get__"))) && (decide (PySem.W.takesIn K (.builtin "object.__class__") = some true) && decide (PySem.W.mroIn K cd (.type "object") = some true)))))))
theorem excB_ok {K : PySem.W.Frag} {cd : Addr} (h : excB K cd = true) : ExcC K cd := by
  unfold excB eqV at h
  simp only [Bool.and_eq_true, decide_eq_true_eq] at h
  obtain ⟨h1, h2, h3, h4, h5, h6, h7, h8⟩ := h
  exact ⟨h1, h2, h3, h4, h5, h6, h7, h8⟩
/-- the class with a place -/
def expB (K : PySem.W.Frag) (cd fI : Addr) : Bool :=
  oexB K cd && (eqV (PySem.W.findIn K (.ref cd) "__setattr__") (some (some (.builtin "object.__setattr__"))) && (decide (PySem.W.subIn K (.ref cd) (.type "BaseException") = some true) && (decide (PySem.W.typeIn K (.ref cd) = some (.type "type")) &&
  (PySem.W.keepIn K (.ref cd) && (eqV (PySem.W.findIn K (.ref cd) "__init__") (some (some (.ref fI))) && (decide (PySem.W.typeIn K (.ref fI) = some (.type "function")) && (eqV (PySem.W.findIn K (.ref cd) "place") (some none) &&
  (eqV (PySem.W.findIn K (.ref cd) "__getattribute__") (some (some (.builtin "BaseException.__getattribute__"))) && (eqV (PySem.W.findIn K (.ref cd) "__getattr__") (some none) && (PySem.W.hasDictIn K cd && decide (PySem.W.exmOne K (.ref cd) (.ref cd) = some true)))))))))))
theorem expB_ok {K : PySem.W.Frag} {cd fI : Addr} (h : expB K cd fI = true) : ExP K cd fI := by
  unfold expB eqV at h
  simp only [Bool.and_eq_true, decide_eq_true_eq] at h
  obtain ⟨h1, h2, h3, h4, h5, h6, h7, h8, h9, h10, h11, h12⟩ := h
  exact ⟨⟨oexB_ok h1, h2, h3, h4, h5⟩, h6, h7, h8, h9, h10, h11, h12⟩
/-- B.__init__ of its base -/
def supB (K : PySem.W.Frag) (S : Addr) : Bool := PySem.W.readsIn K S (.type "type") && (eqV (PySem.W.specialIn K (.ref S) "__getattribute__") (some (some (.builtin "type.__getattribute__"))) &&
  (match PySem.W.findCls K (.ref S) (.type "type") "__init__" with
    | some (.val (.builtin n)) => n == "ValueError.__init__"
    | _ => false))
theorem supB_ok {K : PySem.W.Frag} {S : Addr} (h : supB K S = true) : Sup K S (.type "type") := by
  unfold supB eqV at h
  simp only [Bool.and_eq_true, decide_eq_true_eq] at h
  obtain ⟨h1, h2, h3⟩ := h
  refine ⟨h1, h2, ?_⟩
  split at h3
  · rename_i n e
    rw [e, show n = "ValueError.__init__" from beq_iff_eq.mp h3]
  · cases h3
end Pd

set_option maxHeartbeats 4000000
namespace Pd
open PySem PySem.Spec PyProof.Rows L2
/-! ### what a reading in plain Lean leads to -/
@[irreducible] def wp {β : Type} (m : M β) (Q : β → Ev → Prop) (E : Str → List D → Ev → Prop) (ρ : Ev) : Prop := match m ρ with
  | .ok b ρ' => Q b ρ'
  | .ex c l ρ' => E c l ρ'
  | .no => False
section
variable {β γ : Type} {Q : β → Ev → Prop} {E : Str → List D → Ev → Prop} {ρ : Ev}
theorem wp_mono {m : M β} {Q' : β → Ev → Prop} {E' : Str → List D → Ev → Prop} (h : wp m Q E ρ) (hq : ∀ b ρ', Q b ρ' → Q' b ρ') (he : ∀ c l ρ', E c l ρ' → E' c l ρ') : wp m Q' E' ρ := by
  unfold wp at *
  cases e : m ρ with
  | ok b ρ' => rw [e] at h; exact hq _ _ h
  | ex c l ρ' => rw [e] at h; exact he _ _ _ h
  | no => rw [e] at h; exact h
theorem wp_weak {m : M β} {Q' : β → Ev → Prop} (h : wp m Q E ρ) (hq : ∀ b ρ', Q b ρ' → Q' b ρ') : wp m Q' E ρ := wp_mono h hq fun _ _ _ h => h
theorem wp_ok {m : M β} (h : wp m Q (fun _ _ _ => False) ρ) : ∃ b ρ', m ρ = .ok b ρ' ∧ Q b ρ' := by
  unfold wp at h
  cases e : m ρ with
  | ok b ρ' => rw [e] at h; exact ⟨_, _, rfl, h⟩
  | ex c l ρ' => rw [e] at h; exact h.elim
  | no => rw [e] at h; exact h.elim
theorem wp_of {m : M β} {b : β} {ρ' : Ev} (e : m ρ = .ok b ρ') (h : Q b ρ') : wp m Q E ρ := by
  unfold wp
  rw [e]
  exact h
theorem wp_ofx {m : M β} {c : Str} {l : List D} {ρ' : Ev} (e : m ρ = .ex c l ρ') (h : E c l ρ') : wp m Q E ρ := by
  unfold wp
  rw [e]
  exact h
theorem wp_pure {b : β} : wp (pure b) Q E ρ = Q b ρ := by unfold wp; rfl
theorem wp_no : wp no Q E ρ = False := by unfold wp; rfl
theorem wp_bind {m : M γ} {k : γ → M β} : wp (m >>= k) Q E ρ = wp m (fun b => wp (k b) Q E) E ρ := by
  unfold wp
  cases e : m ρ with
  | ok b ρ' => rw [bind_ok e]
  | ex c l ρ' => rw [bind_ex e]
  | no => rw [bind_no e]
theorem wp_some {b : β} : wp (opt (some b)) Q E ρ = Q b ρ := by unfold wp; rfl
theorem wp_none : wp (opt (none : Option β)) Q E ρ = False := by unfold wp; rfl
theorem wp_optif {c : Prop} [Decidable c] {b : β} : wp (opt (if c then some b else none)) Q E ρ = (c ∧ Q b ρ) := by
  by_cases h : c
  · rw [if_pos h, wp_some]; simp [h]
  · rw [if_neg h, wp_none]; simp [h]
theorem wp_optif' {c : Prop} [Decidable c] {o : Option β} : wp (opt (if c then o else none)) Q E ρ = (c ∧ wp (opt o) Q E ρ) := by
  by_cases h : c
  · rw [if_pos h]; simp [h]
  · rw [if_neg h, wp_none]; simp [h]
theorem wp_ite {c : Prop} [Decidable c] {a b : M β} : wp (if c then a else b) Q E ρ = (if c then wp a Q E ρ else wp b Q E ρ) := by split <;> rfl
theorem wp_bnd {n : Nat} {m : M β} : wp (bnd n m) Q E ρ = (n ≤ sizeLine ∧ wp m Q E ρ) := by
  unfold bnd
  by_cases h : n ≤ sizeLine
  · rw [if_pos h]; simp [h]
  · rw [if_neg h, wp_no]; simp [h]
theorem wp_seq {f g : M Fl} {Q : Fl → Ev → Prop} : wp (seqM f g) Q E ρ = wp f (fun r ρ' => match r with
    | .nx => wp g Q E ρ'
    | r => Q r ρ') E ρ := by
  unfold seqM
  rw [wp_bind]
  congr 1
  funext r ρ'
  cases r <;> simp only [wp_pure]
theorem wp_iteM {c : M Bool} {a b : M β} : wp (iteM c a b) Q E ρ = wp c (fun k ρ' => if k = true then wp a Q E ρ' else wp b Q E ρ') E ρ := by
  unfold iteM
  rw [wp_bind]
  congr 1
  funext k ρ'
  rw [wp_ite]
theorem wp_letM {i : Nat} {f : M Slot} {Q : Fl → Ev → Prop} : wp (letM i f) Q E ρ = wp f (fun s ρ' => i < ρ'.length ∧ Q .nx (ρ'.set i s)) E ρ := by
  unfold letM
  rw [wp_bind]
  congr 1
  funext s ρ'
  rw [wp_bind]
  unfold wp setS
  by_cases h : i < ρ'.length
  · rw [if_pos h]
    show Q .nx _ = _
    simp [h]
  · rw [if_neg h]
    simp [h]
theorem wp_setv {i : Nat} {d : D} {Q : Unit → Ev → Prop} : wp (setv i d) Q E ρ = (i < ρ.length ∧ Q () (ρ.set i (.va d))) := by
  unfold wp setv
  by_cases h : i < ρ.length
  · rw [if_pos h]; simp [h]
  · rw [if_neg h]; simp [h]
theorem wp_vaM {f : M D} {Q : Slot → Ev → Prop} : wp (vaM f) Q E ρ = wp f (fun d => Q (.va d)) E ρ := by
  unfold vaM
  rw [wp_bind]
  congr 1
  funext d ρ'
  rw [wp_pure]
theorem wp_lsM {f : M (List D)} {Q : Slot → Ev → Prop} : wp (lsM f) Q E ρ = wp f (fun d => Q (.ls d)) E ρ := by
  unfold lsM
  rw [wp_bind]
  congr 1
  funext d ρ'
  rw [wp_pure]
theorem wp_retM {f : M D} {Q : Fl → Ev → Prop} : wp (retM f) Q E ρ = wp f (fun d => Q (.rt d)) E ρ := by
  unfold retM
  rw [wp_bind]
  congr 1
  funext d ρ'
  rw [wp_pure]
theorem wp_retoM {f : M (List D)} {Q : Fl → Ev → Prop} : wp (retoM f) Q E ρ = wp f (fun d => Q (.ro d)) E ρ := by
  unfold retoM
  rw [wp_bind]
  congr 1
  funext d ρ'
  rw [wp_pure]
theorem wp_dropM {f : M D} {Q : Fl → Ev → Prop} : wp (dropM f) Q E ρ = wp f (fun _ => Q .nx) E ρ := by
  unfold dropM
  rw [wp_bind]
  congr 1
  funext d ρ'
  rw [wp_pure]
theorem wp_getv {i : Nat} {Q : D → Ev → Prop} {d : D} (h : ρ[i]? = some (.va d)) : wp (getv i) Q E ρ = Q d ρ := by
  unfold wp getv
  rw [h]
theorem wp_getl {i : Nat} {Q : D → Ev → Prop} {l : List D} (h : ρ[i]? = some (.ls l)) : wp (getv i) Q E ρ = Q (.lst l) (ρ.set i (.va (.lst l))) := by
  unfold wp getv
  rw [h]
theorem wp_op2 {g : D → D → Option D} {fa fb : M D} {Q : D → Ev → Prop} : wp (op2 g fa fb) Q E ρ = wp fa (fun a => wp fb (fun b => wp (opt (g a b)) Q E) E) E ρ := by
  unfold op2
  rw [wp_bind]
  congr 1
  funext a ρ'
  rw [wp_bind]
theorem wp_unD {g : D → Option D} {fa : M D} {Q : D → Ev → Prop} : wp (unD g fa) Q E ρ = wp fa (fun a => wp (opt (g a)) Q E) E ρ := by
  unfold unD
  rw [wp_bind]
theorem wp_callM {g : List D → Option D} {fa : M (List D)} {Q : D → Ev → Prop} : wp (callM g fa) Q E ρ = wp fa (fun a => wp (opt (g a)) Q E) E ρ := by
  unfold callM
  rw [wp_bind]
theorem wp_cons {f : M D} {fs : M (List D)} {Q : List D → Ev → Prop} : wp (consM f fs) Q E ρ = wp f (fun d => wp fs (fun l => Q (d :: l)) E) E ρ := by
  unfold consM
  rw [wp_bind]
  congr 1
  funext a ρ'
  rw [wp_bind]
  congr 1
  funext d ρ'
  rw [wp_pure]
theorem wp_tst {f : M D} {Q : Bool → Ev → Prop} : wp (tst f) Q E ρ = wp f (fun d ρ' => match d with
    | .bl b => Q b ρ'
    | _ => False) E ρ := by
  unfold tst
  rw [wp_bind]
  congr 1
  funext d ρ'
  cases d <;> simp only [wp_pure, wp_no]
theorem wp_andM {a b : M Bool} {Q : Bool → Ev → Prop} : wp (Pd.andM a b) Q E ρ = wp a (fun k ρ' => if k = true then wp b Q E ρ' else Q false ρ') E ρ := by
  unfold Pd.andM
  rw [wp_bind]
  congr 1
  funext k ρ'
  rw [wp_ite, wp_pure]
theorem wp_orM {a b : M Bool} {Q : Bool → Ev → Prop} : wp (Pd.orM a b) Q E ρ = wp a (fun k ρ' => if k = true then Q true ρ' else wp b Q E ρ') E ρ := by
  unfold Pd.orM
  rw [wp_bind]
  congr 1
  funext k ρ'
  rw [wp_ite, wp_pure]
theorem wp_notM {a : M Bool} {Q : Bool → Ev → Prop} : wp (Pd.notM a) Q E ρ = wp a (fun k ρ' => Q (!k) ρ') E ρ := by
  unfold Pd.notM
  rw [wp_bind]
  congr 1
  funext d ρ'
  rw [wp_pure]
theorem wp_peek {f : M D} {Q : D → Ev → Prop} : wp f (fun d _ => scalar d = true ∧ Q d ρ) (fun _ _ _ => False) (frz ρ) → wp (peek f) Q E ρ := fun h => by
  obtain ⟨d, ρ', e, h1, h2⟩ := wp_ok h
  refine wp_of (b := d) (ρ' := ρ) ?_ h2
  unfold peek
  rw [e]
  exact if_pos h1
/-- x[i][k] of things of one's own, a scalar there -/
theorem wp_peekix {i : Nat} {j : Int} {p : Addr} {ts : List T} {x : D} {Q : D → Ev → Prop} (h : ρ[i]? = some (.ow (.l p ts))) (hk : ts[j.toNat]? = some (.d x)) (hs : scalar x = true) (hj : (j.toNat : Int) = j) : wp (peek (op2 ixD (getv i) (pure (.int j)))) Q E ρ = Q x ρ := by
  rw [← hj]
  generalize j.toNat = k at hk ⊢
  have e : peek (op2 ixD (getv i) (pure (.int (k : Int)))) ρ = .ok x ρ := by
    have hf : (frz ρ)[i]? = some (.va (.lst (toDL ts))) := by rw [frz_at, h]; rfl
    have hd : ∀ (ts : List T) (k : Nat), ts[k]? = some (.d x) → (toDL ts)[k]? = some x := by
      intro ts
      induction ts with
      | nil => intro k h; simp at h
      | cons t ts ih =>
        intro k h
        cases k with
        | zero => simp at h; subst h; rfl
        | succ k => exact ih k (by simpa using h)
    have h2 := hd ts k hk
    have hl : k < (toDL ts).length := (List.getElem?_eq_some_iff.mp h2).1
    have ha : atI (toDL ts) (k : Int) = some x := by
      unfold atI
      rw [ixN_of hl]
      exact h2
    have : op2 ixD (getv i) (pure (.int (k : Int))) (frz ρ) = .ok x (frz ρ) := by
      unfold op2
      rw [bind_ok (show getv i (frz ρ) = .ok (.lst (toDL ts)) (frz ρ) by unfold getv; rw [hf])]
      rw [bind_ok (show (pure (.int (k : Int)) : M D) (frz ρ) = .ok (.int (k : Int)) (frz ρ) from rfl)]
      show opt (atI (toDL ts) (k : Int)) (frz ρ) = _
      rw [ha]
      rfl
    unfold peek
    rw [this]
    exact if_pos hs
  unfold wp
  rw [e]
theorem wp_stM {i k : Nat} {f : M D} {Q : Fl → Ev → Prop} : wp (stM i k f) Q E ρ = wp f (fun d => wp (stGo i k d) Q E) E ρ := by
  unfold stM
  rw [wp_bind]
theorem wp_stGo {i k : Nat} {p : Addr} {ts : List T} {x d : D} {Q : Fl → Ev → Prop} (h : ρ[i]? = some (.ow (.l p ts))) (hk : ts[k]? = some (.d x)) : wp (stGo i k d) Q E ρ = Q .nx (ρ.set i (.ow (.l p (ts.set k (.d d))))) := by
  unfold wp stGo
  rw [h]
  simp only []
  rw [hk]
/-! loops -/
def forK (P : Ev → Prop) (Q : Fl → Ev → Prop) : Fl → Ev → Prop := fun r ρ => match r with
  | .nx => P ρ
  | .ct => P ρ
  | .bk => Q .nx ρ
  | r => Q r ρ
theorem wp_forM {fi : M (List D)} {bt : D → M Unit} {body : M Fl} {Q : Fl → Ev → Prop} : wp (forM fi bt body) Q E ρ = wp fi (fun l => wp (forGo bt body l) Q E) E ρ := by
  unfold forM
  rw [wp_bind]
theorem wp_forNil {bt : D → M Unit} {body : M Fl} {Q : Fl → Ev → Prop} : wp (forGo bt body []) Q E ρ = Q .nx ρ := by unfold wp; rfl
theorem wp_forCons {bt : D → M Unit} {body : M Fl} {d : D} {l : List D} {Q : Fl → Ev → Prop} (h : wp (bt d) (fun _ => wp body (forK (wp (forGo bt body l) Q E) Q) E) (fun _ _ _ => False) ρ) : wp (forGo bt body (d :: l)) Q E ρ := by
  obtain ⟨u, ρ1, e, h⟩ := wp_ok h
  unfold wp at h ⊢
  unfold forGo
  rw [e]
  simp only []
  cases e2 : body ρ1 with
  | no => rw [e2] at h; exact h
  | ex c m ρ' => rw [e2] at h; exact h
  | ok r ρ2 =>
    rw [e2] at h
    cases r <;> exact h
theorem wp_for (I : List D → Ev → Prop) {bt : D → M Unit} {body : M Fl} {l : List D} {Q : Fl → Ev → Prop} (h0 : I l ρ) (hend : ∀ ρ, I [] ρ → Q .nx ρ)
    (hs : ∀ d l ρ, I (d :: l) ρ → wp (bt d) (fun _ => wp body (forK (I l) Q) E) (fun _ _ _ => False) ρ) : wp (forGo bt body l) Q E ρ := by
  induction l generalizing ρ with
  | nil => rw [wp_forNil]; exact hend _ h0
  | cons d l ih =>
    refine wp_forCons (wp_weak (hs d l ρ h0) fun _ ρ1 k => wp_weak k fun r ρ2 k => ?_)
    cases r <;> first | exact ih k | exact k
theorem wp_lcM {fi : M (List D)} {bt : D → M Unit} {tt : M Bool} {te : M D} {vs : List Nat} {Q : List D → Ev → Prop} : wp (lcM fi bt tt te vs) Q E ρ = wp fi (fun l => wp (lcEnd bt tt te vs l) Q E) E ρ := by
  unfold lcM
  rw [wp_bind]
theorem lc_run (I : List D → List D → Ev → Prop) {bt : D → M Unit} {tt : M Bool} {te : M D} {vs : List Nat}
    (hs : ∀ d l acc ρ, I (d :: l) acc ρ → wp (bt d) (fun _ => wp tt (fun k ρ1 => if k = true then wp te (fun y ρ2 => acc.length < sizeLine ∧ I l (acc ++ [y]) ρ2) (fun _ _ _ => False) ρ1 else I l acc ρ1) (fun _ _ _ => False)) (fun _ _ _ => False) (wipeE ρ vs)) :
    ∀ (l acc : List D) (ρ : Ev), I l acc ρ → ∃ r ρ', lcGo bt tt te vs l acc ρ = .ok r ρ' ∧ I [] r ρ'
  | [], acc, ρ, h => ⟨acc, ρ, rfl, h⟩
  | d :: l, acc, ρ, h => by
    obtain ⟨u, ρ1, e1, h1⟩ := wp_ok (hs d l acc ρ h)
    obtain ⟨k, ρ2, e2, h2⟩ := wp_ok h1
    cases k with
    | false =>
      obtain ⟨r, ρ', e, hr⟩ := lc_run I hs l acc ρ2 h2
      refine ⟨r, ρ', ?_, hr⟩
      unfold lcGo
      rw [e1]
      simp only []
      rw [e2]
      exact e
    | true =>
      obtain ⟨y, ρ3, e3, hz, h3⟩ := wp_ok h2
      obtain ⟨r, ρ', e, hr⟩ := lc_run I hs l (acc ++ [y]) ρ3 h3
      refine ⟨r, ρ', ?_, hr⟩
      unfold lcGo
      rw [e1]
      simp only []
      rw [e2]
      simp only []
      rw [e3]
      simp only []
      rw [if_pos hz]
      exact e
theorem wp_lc (I : List D → List D → Ev → Prop) {bt : D → M Unit} {tt : M Bool} {te : M D} {vs : List Nat} {l : List D} {Q : List D → Ev → Prop} (h0 : I l [] ρ) (hend : ∀ acc ρ', I [] acc ρ' → Q acc (backE ρ ρ' vs))
    (hs : ∀ d l acc ρ, I (d :: l) acc ρ → wp (bt d) (fun _ => wp tt (fun k ρ1 => if k = true then wp te (fun y ρ2 => acc.length < sizeLine ∧ I l (acc ++ [y]) ρ2) (fun _ _ _ => False) ρ1 else I l acc ρ1) (fun _ _ _ => False)) (fun _ _ _ => False) (wipeE ρ vs)) :
    wp (lcEnd bt tt te vs l) Q E ρ := by
  obtain ⟨r, ρ', e, hr⟩ := lc_run I hs l [] ρ h0
  refine wp_of (b := r) (ρ' := backE ρ ρ' vs) ?_ (hend _ _ hr)
  unfold lcEnd
  rw [e]
/-- a def that is handed things of one's own -/
theorem wp_callO {n np i : Nat} {f : M Fl} {fa : M (List D)} {Q : D → Ev → Prop} {t : T} (h : ρ[i]? = some (.ow t)) : wp (callO n np i f fa) Q E ρ = wp fa (fun ds => wp (callFO n np i f ds) Q E) E ρ := by
  rw [← wp_bind]
  unfold wp callO
  rw [if_pos (by unfold isOw; rw [h])]
theorem wp_callFO {n np i : Nat} {f : M Fl} {ds : List D} {Q : D → Ev → Prop} {t : T} (h : ρ[i]? = some (.ow t)) (hl : ds.length + 1 = np)
    (k : wp f (fun r ρ' => ∃ t' d, ρ'[0]? = some (.ow t') ∧ sameRoot t t' = true ∧ (r = .rt d ∨ (r = .nx ∧ d = .non)) ∧ Q d (ρ.set i (.ow t'))) (fun c l ρ' => ∃ t', ρ'[0]? = some (.ow t') ∧ sameRoot t t' = true ∧ E c l (ρ.set i (.ow t'))) (unE n (.ow t :: ds.map .va))) :
    wp (callFO n np i f ds) Q E ρ := by
  have e0 : callFO n np i f ds ρ = outO i t ρ (f (unE n (.ow t :: ds.map .va))) := by
    unfold callFO
    rw [h]
    simp only []
    rw [if_pos hl]
  unfold wp
  rw [e0]
  unfold wp at k
  cases e : f (unE n (.ow t :: ds.map .va)) with
  | no => rw [e] at k; exact k.elim
  | ex c l ρ' =>
    rw [e] at k
    obtain ⟨t', h1, h2, h3⟩ := k
    cases ρ' with
    | nil => simp at h1
    | cons s ρ' =>
      simp at h1
      subst h1
      simp only [outO, backX]
      rw [if_pos h2]
      exact h3
  | ok r ρ' =>
    rw [e] at k
    obtain ⟨t', d, h1, h2, h4, h3⟩ := k
    cases ρ' with
    | nil => simp at h1
    | cons s ρ' =>
      simp at h1
      subst h1
      rcases h4 with rfl | ⟨rfl, rfl⟩
      · simp only [outO, backO]
        rw [if_pos h2]
        exact h3
      · simp only [outO, backO]
        rw [if_pos h2]
        exact h3
theorem wp_callG {n np : Nat} {f : M Fl} {fa : M (List D)} {Q : D → Ev → Prop} : wp (callG n np f fa) Q E ρ = wp fa (fun ds => wp (callF n np f ds) Q E) E ρ := by
  unfold callG
  rw [wp_bind]
theorem wp_callF {n np : Nat} {f : M Fl} {ds : List D} {Q : D → Ev → Prop} (hl : ds.length = np)
    (k : wp f (fun r _ => ∃ d, (r = .rt d ∨ (r = .nx ∧ d = .non) ∨ ∃ l, r = .ro l ∧ d = .lst l) ∧ Q d ρ) (fun c l _ => E c l ρ) (unE n (ds.map .va))) : wp (callF n np f ds) Q E ρ := by
  unfold wp at k ⊢
  unfold callF
  rw [if_pos hl]
  cases e : f (unE n (ds.map .va)) with
  | no => rw [e] at k; exact k.elim
  | ex c l ρ' => rw [e] at k; exact k
  | ok r ρ' =>
    rw [e] at k
    obtain ⟨d, h4, h3⟩ := k
    rcases h4 with rfl | ⟨rfl, rfl⟩ | ⟨l, rfl, rfl⟩ <;> exact h3
theorem wp_callL {n np : Nat} {f : M Fl} {fa : M (List D)} {Q : List D → Ev → Prop} : wp (callL n np f fa) Q E ρ = wp fa (fun ds => wp (callFL n np f ds) Q E) E ρ := by
  unfold callL
  rw [wp_bind]
theorem wp_callFL {n np : Nat} {f : M Fl} {ds : List D} {Q : List D → Ev → Prop} (hl : ds.length = np)
    (k : wp f (fun r _ => ∃ l, r = .ro l ∧ Q l ρ) (fun c l _ => E c l ρ) (unE n (ds.map .va))) : wp (callFL n np f ds) Q E ρ := by
  unfold wp at k ⊢
  unfold callFL
  rw [if_pos hl]
  cases e : f (unE n (ds.map .va)) with
  | no => rw [e] at k; exact k.elim
  | ex c l ρ' => rw [e] at k; exact k
  | ok r ρ' =>
    rw [e] at k
    obtain ⟨l, rfl, h3⟩ := k
    exact h3
end
end Pd

set_option maxHeartbeats 4000000
namespace Pd
open PySem PySem.Spec PyProof.Rows L2
/-! ### the bag of numbers that a law draws from -/
noncomputable def dBag : M Fl := (seqM (letM 1 (vaM (pure (.int 137)))) (seqM (forM (iL (sliceM (getv 0) (pure none) (partM (pure (.int 63))))) (setv 2) (letM 1 (vaM (op2 modD (callM (one toInt) (consM (op2 addD (op2 addD (op2 mulD (getv 1) (pure (.int 48271))) (op2 modD (callM (one toInt) (consM (getv 2) (pure []))) (pure (.int 2147483629)))) (pure (.int 1))) (pure []))) (pure (.int 2147483647)))))) (retW (lcM (iL (sliceM (getv 0) (pure none) (partM (pure (.int 63))))) (setv 2) (pure true) (op2 modD (callM (one toInt) (consM (callM (one absD) (consM (getv 2) (pure []))) (pure []))) (op2 powD (op2 powD (pure (.int 10)) (pure (.int 60))) (pure (.int 10)))) [2]) (consM (pure (.int 0)) (consM (pure (.int 0)) (consM (getv 1) (consM (pure (.int 0)) (pure []))))))))
noncomputable def dStir : M Fl := (seqM (letM 2 (vaM (pure (.int 0)))) (seqM (forM (iR1 (consM (op2 addD (pure (.int 1)) (op2 fdivD (unD bitsD (getv 1)) (pure (.int 27)))) (pure []))) (setv 3) (seqM (stM 0 4 (op2 addD (peek (op2 ixD (getv 0) (pure (.int 4)))) (pure (.int 1)))) (seqM (letM 4 (vaM (op2 addD (op2 addD (op2 addD (op2 powD (peek (op2 ixD (getv 0) (pure (.int 3)))) (pure (.int 3))) (op2 mulD (pure (.int 69621)) (peek (op2 ixD (getv 0) (pure (.int 3)))))) (op2 mulD (pure (.int 1031)) (peek (op2 ixD (getv 0) (pure (.int 4)))))) (pure (.int 1))))) (seqM (stM 0 3 (op2 modD (callM (one toInt) (consM (getv 4) (pure []))) (pure (.int 2147483647)))) (letM 2 (vaM (op2 addD (op2 mulD (getv 2) (pure (.int 134217728))) (op2 fdivD (peek (op2 ixD (getv 0) (pure (.int 3)))) (pure (.int 16)))))))))) (retM (op2 modD (callM (one toInt) (consM (getv 2) (pure []))) (getv 1)))))
noncomputable def dDraw : M Fl := (seqM (iteM (Pd.andM (tst (peek (op2 eqD (op2 ixD (getv 0) (pure (.int 2))) (pure (.int 0))))) (tst (peek (op2 ltD (op2 ixD (getv 0) (pure (.int 1))) (callM (one lenD) (consM (op2 ixD (getv 0) (pure (.int 0))) (pure []))))))) (seqM (stM 0 2 (peek (op2 ixD (op2 ixD (getv 0) (pure (.int 0))) (op2 ixD (getv 0) (pure (.int 1)))))) (stM 0 1 (op2 addD (peek (op2 ixD (getv 0) (pure (.int 1)))) (pure (.int 1))))) (iteM (tst (peek (op2 eqD (op2 ixD (getv 0) (pure (.int 2))) (pure (.int 0))))) (retM (callO 5 2 0 dStir (consM (getv 1) (pure [])))) (pure .nx))) (seqM (letM 2 (vaM (op2 modD (callM (one toInt) (consM (peek (op2 ixD (getv 0) (pure (.int 2)))) (pure []))) (getv 1)))) (seqM (stM 0 2 (op2 fdivD (peek (op2 ixD (getv 0) (pure (.int 2)))) (getv 1))) (retM (getv 2)))))
/-- the bag as things of one's own -/
def bagT (p q : Addr) (ns : List Int) (i w s n : Int) : T := .l p [.v q (ns.map .int), .d (.int i), .d (.int w), .d (.int s), .d (.int n)]
def Bag (p : Addr) (N : Nat) (t : T) : Prop := ∃ q ns i w s n, p ≠ q ∧ t = bagT p q ns i w s n ∧ ns.length ≤ 63 ∧ 0 ≤ i ∧ 0 ≤ s ∧ s < 2147483647 ∧ 0 ≤ n ∧ n ≤ N

theorem log_of {n k : Nat} (h : n < 2 ^ k) (hk : 0 < k) : n.log2 < k := by
  by_cases z : n = 0
  · subst z; simpa using hk
  · exact (Nat.log2_lt z).mpr h
theorem bMul_of {i j : Int} {a b : Nat} (hi : i.natAbs < 2 ^ a) (hj : j.natAbs < 2 ^ b) (ha : 0 < a) (hb : 0 < b) (hab : a + b ≤ 1000000) : bMul i j = true := by
  have h1 := log_of hi ha
  have h2 := log_of hj hb
  unfold bMul
  rw [decide_eq_true_eq]
  omega
section
variable {Q : D → Ev → Prop} {E : Str → List D → Ev → Prop} {ρ : Ev}
theorem wp_add {i j : Int} : wp (opt (addD (.int i) (.int j))) Q E ρ = Q (.int (i + j)) ρ := wp_some
theorem wp_mod {i j : Int} : wp (opt (modD (.int i) (.int j))) Q E ρ = (0 < j ∧ Q (.int (i % j)) ρ) := by
  show wp (opt (if bMod i j = true then _ else none)) Q E ρ = _
  rw [wp_optif]
  simp [bMod]
theorem wp_mul {i j : Int} : wp (opt (mulD (.int i) (.int j))) Q E ρ = (bMul i j = true ∧ Q (.int (i * j)) ρ) := by
  show wp (opt (if bMul i j = true then _ else none)) Q E ρ = _
  rw [wp_optif]
theorem wp_fdiv {i j : Int} : wp (opt (fdivD (.int i) (.int j))) Q E ρ = ((0 < j ∧ j.natAbs.log2 < 9000) ∧ Q (.int (i / j)) ρ) := by
  show wp (opt (if bDiv i j = true then _ else none)) Q E ρ = _
  rw [wp_optif]
  simp [bDiv]
theorem wp_pow {i j : Int} : wp (opt (powD (.int i) (.int j))) Q E ρ = (bPow i j = true ∧ Q (.int (i ^ j.toNat)) ρ) := by
  show wp (opt (if bPow i j = true then _ else none)) Q E ρ = _
  rw [wp_optif]
theorem wp_toInt {i : Int} : wp (opt (one toInt [.int i])) Q E ρ = Q (.int i) ρ := wp_some
theorem eqD_int {i j : Int} : eqD (.int i) (.int j) = some (.bl (decide (i = j))) := by
  have e : PyData.eqv (.int i) (.int j) = decide (i = j) := by
    simp only [PyData.eqv]
    rfl
  have s : ∀ i, SeqAt.shaped (.int i) = true := fun i => rfl
  simp only [eqD, py, Option.bind_some, s, e, Bool.and_self, if_true]
theorem neD_int {i j : Int} : neD (.int i) (.int j) = some (.bl (decide (i ≠ j))) := by
  have e : PyData.eqv (.int i) (.int j) = decide (i = j) := by
    simp only [PyData.eqv]
    rfl
  have s : ∀ i, SeqAt.shaped (.int i) = true := fun i => rfl
  simp only [neD, py, Option.bind_some, s, e, Bool.and_self, if_true, decide_not]
theorem wp_eqi {i j : Int} : wp (opt (eqD (.int i) (.int j))) Q E ρ = Q (.bl (decide (i = j))) ρ := by
  rw [eqD_int, wp_some]
theorem wp_nei {i j : Int} : wp (opt (neD (.int i) (.int j))) Q E ρ = Q (.bl (decide (i ≠ j))) ρ := by
  rw [neD_int, wp_some]
end
theorem pow_ok {s : Int} (h0 : 0 ≤ s) (h1 : s < 2147483647) : bPow s 3 = true := by
  unfold bPow
  rw [decide_eq_true_eq]
  refine ⟨by decide, .inl ⟨by decide, ?_⟩⟩
  omega

/-- one turn of the stirring -/
theorem stir_turn {p q : Addr} {ns : List Int} {i w s n f many : Int} {k : Nat} {x y : Slot} {Q : Fl → Ev → Prop} {E : Str → List D → Ev → Prop}
    (hs0 : 0 ≤ s) (hs1 : s < 2147483647) (hn0 : 0 ≤ n) (hn1 : n < 1152921504606846976) (hf0 : 0 ≤ f) (hf1 : f < 2 ^ (27 * k)) (hk : k ≤ 400)
    (h : ∀ s' f' : Int, 0 ≤ s' → s' < 2147483647 → 0 ≤ f' → f' < 2 ^ (27 * (k + 1)) → ∀ z, Q .nx [.ow (bagT p q ns i w s' (n + 1)), .va (.int many), .va (.int f'), x, z]) :
    wp (seqM (stM 0 4 (op2 addD (peek (op2 ixD (getv 0) (pure (.int 4)))) (pure (.int 1)))) (seqM (letM 4 (vaM (op2 addD (op2 addD (op2 addD (op2 powD (peek (op2 ixD (getv 0) (pure (.int 3)))) (pure (.int 3))) (op2 mulD (pure (.int 69621)) (peek (op2 ixD (getv 0) (pure (.int 3)))))) (op2 mulD (pure (.int 1031)) (peek (op2 ixD (getv 0) (pure (.int 4)))))) (pure (.int 1))))) (seqM (stM 0 3 (op2 modD (callM (one toInt) (consM (getv 4) (pure []))) (pure (.int 2147483647)))) (letM 2 (vaM (op2 addD (op2 mulD (getv 2) (pure (.int 134217728))) (op2 fdivD (peek (op2 ixD (getv 0) (pure (.int 3)))) (pure (.int 16))))))))) Q E
      [.ow (bagT p q ns i w s n), .va (.int many), .va (.int f), x, y] := by
  unfold bagT
  rw [wp_seq, wp_stM, wp_op2, wp_peekix rfl rfl rfl rfl, wp_pure, wp_add, wp_stGo rfl rfl]
  simp only [List.set_cons_succ, List.set_cons_zero]
  rw [wp_seq, wp_letM, wp_vaM, wp_op2, wp_op2, wp_op2, wp_op2, wp_peekix rfl rfl rfl rfl, wp_pure, wp_pow]
  refine ⟨pow_ok hs0 hs1, ?_⟩
  rw [wp_op2, wp_pure, wp_peekix rfl rfl rfl rfl, wp_mul]
  refine ⟨bMul_of (a := 20) (b := 31) (by decide) (by omega) (by decide) (by decide) (by decide), ?_⟩
  rw [wp_add, wp_op2, wp_pure, wp_peekix rfl rfl rfl rfl, wp_mul]
  refine ⟨bMul_of (a := 20) (b := 61) (by decide) (by omega) (by decide) (by decide) (by decide), ?_⟩
  rw [wp_add, wp_pure, wp_add]
  refine ⟨by simp, ?_⟩
  simp only [List.set_cons_succ, List.set_cons_zero]
  rw [wp_seq, wp_stM, wp_op2, wp_callM, wp_cons, wp_getv rfl, wp_pure, wp_toInt, wp_pure, wp_mod]
  refine ⟨by decide, ?_⟩
  rw [wp_stGo rfl rfl]
  simp only [List.set_cons_succ, List.set_cons_zero]
  generalize hz : (s ^ (3 : Int).toNat + 69621 * s + 1031 * (n + 1) + 1) % 2147483647 = s'
  have e0 : 0 ≤ s' := by rw [← hz]; exact Int.emod_nonneg _ (by decide)
  have e1 : s' < 2147483647 := by rw [← hz]; exact Int.emod_lt_of_pos _ (by decide)
  rw [wp_letM, wp_vaM, wp_op2, wp_op2, wp_getv rfl, wp_pure, wp_mul]
  have hfn : f.natAbs < 2 ^ (27 * k + 1) := by
    have : (f.natAbs : Int) = f := Int.natAbs_of_nonneg hf0
    have h3 : (f.natAbs : Int) < ((2 ^ (27 * k) : Nat) : Int) := by rw [this]; push_cast; exact hf1
    have h4 : f.natAbs < 2 ^ (27 * k) := by exact_mod_cast h3
    exact Nat.lt_of_lt_of_le h4 (Nat.pow_le_pow_right (by decide) (by omega))
  refine ⟨bMul_of (a := 27 * k + 1) (b := 28) hfn (by decide) (by omega) (by decide) (by omega), ?_⟩
  rw [wp_op2, wp_peekix rfl rfl rfl rfl, wp_pure, wp_fdiv]
  refine ⟨by decide, ?_⟩
  rw [wp_add]
  refine ⟨by simp, ?_⟩
  have ed : s' / 16 < 134217728 := by omega
  have ed0 : 0 ≤ s' / 16 := by omega
  refine h s' (f * 134217728 + s' / 16) e0 e1 (by omega) ?_ _
  have e27 : (2 : Int) ^ (27 * (k + 1)) = 2 ^ (27 * k) * 134217728 := by
    rw [Nat.mul_add, Int.pow_add]
    rfl
  rw [e27]
  generalize (2 : Int) ^ (27 * k) = B at *
  omega
/-- the stirring -/
theorem stir_wp {p : Addr} {N : Nat} {t : T} {many : Int} (hb : Bag p N t) (hN : N ≤ 1125899906842624) (hm : 0 < many) (hl : Builtin.Int.intBits many ≤ 8000) {E : Str → List D → Ev → Prop} :
    wp dStir (fun r ρ' => ∃ t' d, ρ'[0]? = some (.ow t') ∧ Bag p (N + 300) t' ∧ r = .rt (.int d) ∧ 0 ≤ d ∧ d < many) E [.ow t, .va (.int many), .un, .un, .un] := by
  obtain ⟨q, ns, i, w, s, n, hpq, ht, hns, hi, hs0, hs1, hn0, hn1⟩ := hb
  subst ht
  unfold dStir
  rw [wp_seq, wp_letM, wp_vaM, wp_pure]
  refine ⟨by simp, ?_⟩
  simp only [List.set_cons_succ, List.set_cons_zero]
  rw [wp_seq, wp_forM, wp_bind, wp_cons, wp_op2, wp_pure, wp_op2, wp_unD, wp_getv rfl]
  rw [show bitsD (.int many) = some (.int (Builtin.Int.intBits many : Int)) from rfl, wp_some, wp_pure, wp_fdiv]
  refine ⟨by decide, ?_⟩
  rw [wp_add, wp_pure]
  generalize hK : (1 + (Builtin.Int.intBits many : Int) / 27) = K
  have hK0 : 0 ≤ K := by omega
  have hK1 : K ≤ 297 := by omega
  rw [show rng1 [.int K] = some (rngL 0 K.toNat) from if_pos (by omega), wp_some]
  refine wp_for (I := fun l ρ => ∃ (j : Nat) (s' f' : Int) (x y : Slot), l.length + j = K.toNat ∧ 0 ≤ s' ∧ s' < 2147483647 ∧ 0 ≤ f' ∧ f' < 2 ^ (27 * j) ∧ ρ = [.ow (bagT p q ns i w s' (n + j)), .va (.int many), .va (.int f'), x, y]) ?_ ?_ ?_
  · refine ⟨0, s, 0, .un, .un, ?_, hs0, hs1, Int.le_refl 0, ?_, ?_⟩
    · unfold rngL
      rw [List.length_map, List.length_range]
      omega
    · exact Int.one_pos
    · rw [show n + ((0 : Nat) : Int) = n by omega]
  · rintro ρ ⟨j, s', f', x, y, hj, h0, h1, h2, h3, rfl⟩
    simp only []
    rw [wp_retM, wp_op2, wp_callM, wp_cons, wp_getv rfl, wp_pure, wp_toInt, wp_getv rfl, wp_mod]
    refine ⟨hm, _, _, rfl, ⟨q, ns, i, w, s', n + j, hpq, rfl, hns, hi, h0, h1, by omega, ?_⟩, rfl, Int.emod_nonneg _ (by omega), Int.emod_lt_of_pos _ hm⟩
    simp at hj
    push_cast
    omega
  · rintro d l ρ ⟨j, s', f', x, y, hj, h0, h1, h2, h3, rfl⟩
    rw [wp_setv]
    refine ⟨by simp, ?_⟩
    simp only [List.set_cons_succ, List.set_cons_zero]
    simp only [List.length_cons] at hj
    refine stir_turn (k := j) h0 h1 (by omega) (by omega) h2 h3 (by omega) fun s2 f2 k0 k1 k2 k3 z => ?_
    refine ⟨j + 1, s2, f2, .va d, z, by omega, k0, k1, k2, k3, ?_⟩
    rw [show n + ((j + 1 : Nat) : Int) = n + j + 1 by push_cast; omega]
end Pd

set_option maxHeartbeats 4000000
namespace Pd
open PySem PySem.Spec PyProof.Rows L2
theorem peek_of {f : M D} {ρ : Ev} {x : D} {ρ' : Ev} (e : f (frz ρ) = .ok x ρ') (hs : scalar x = true) : peek f ρ = .ok x ρ := by
  unfold peek
  rw [e]
  exact if_pos hs
theorem op2_of {g : D → D → Option D} {fa fb : M D} {ρ ρ1 ρ2 : Ev} {a b d : D} (ea : fa ρ = .ok a ρ1) (eb : fb ρ1 = .ok b ρ2) (e : g a b = some d) : op2 g fa fb ρ = .ok d ρ2 := by
  unfold op2
  rw [bind_ok ea, bind_ok eb, e]
  rfl
theorem getv_of {i : Nat} {ρ : Ev} {d : D} (h : ρ[i]? = some (.va d)) : getv i ρ = .ok d ρ := by
  unfold getv
  rw [h]
theorem sameRoot_bag {p q q' : Addr} {ns ns' : List Int} {i w s n i' w' s' n' : Int} : sameRoot (bagT p q ns i w s n) (bagT p q' ns' i' w' s' n') = true := by
  unfold bagT sameRoot
  simp
theorem Bag.same {p : Addr} {N N' : Nat} {t t' : T} (h : Bag p N t) (h' : Bag p N' t') : sameRoot t t' = true := by
  obtain ⟨q, ns, i, w, s, n, _, rfl, _⟩ := h
  obtain ⟨q', ns', i', w', s', n', _, rfl, _⟩ := h'
  exact sameRoot_bag
theorem Bag.mono {p : Addr} {N N' : Nat} {t : T} (h : Bag p N t) (k : N ≤ N') : Bag p N' t := by
  obtain ⟨q, ns, i, w, s, n, h1, h2, h3, h4, h5, h6, h7, h8⟩ := h
  exact ⟨q, ns, i, w, s, n, h1, h2, h3, h4, h5, h6, h7, by omega⟩
theorem wp_callFI {n np i : Nat} {f : M Fl} {ds : List D} {Q : D → Ev → Prop} {t : T} {P : T → Prop} {many : Int} {ρ : Ev} {E : Str → List D → Ev → Prop} (h : ρ[i]? = some (.ow t)) (hl : ds.length + 1 = np)
    (hf : wp f (fun r ρ' => ∃ t' d, ρ'[0]? = some (.ow t') ∧ P t' ∧ r = .rt (.int d) ∧ 0 ≤ d ∧ d < many) (fun _ _ _ => False) (unE n (.ow t :: ds.map .va)))
    (hs : ∀ t', P t' → sameRoot t t' = true) (hQ : ∀ t' d, P t' → 0 ≤ d → d < many → Q (.int d) (ρ.set i (.ow t'))) : wp (callFO n np i f ds) Q E ρ := by
  refine wp_callFO h hl (wp_mono hf (fun r ρ' k => ?_) fun _ _ _ h => h.elim)
  obtain ⟨t', d, k1, k2, rfl, k3, k4⟩ := k
  exact ⟨t', _, k1, hs t' k2, .inl rfl, hQ t' d k2 k3 k4⟩
theorem draw_fn {p : Addr} {N : Nat} {t : T} {many : Int} (hb : Bag p N t) (hN : N ≤ 1125899906842624) (hm : 0 < many) (hl : Builtin.Int.intBits many ≤ 8000) (hl2 : many.natAbs.log2 < 9000) {E : Str → List D → Ev → Prop} :
    wp dDraw (fun r ρ' => ∃ t' d, ρ'[0]? = some (.ow t') ∧ Bag p (N + 300) t' ∧ r = .rt (.int d) ∧ 0 ≤ d ∧ d < many) E [.ow t, .va (.int many), .un] := by
  have hb0 := hb
  obtain ⟨q, ns, i, w, s, n, hpq, ht, hns, hi, hs0, hs1, hn0, hn1⟩ := hb
  subst ht
  -- the end
  have fin : ∀ w' i' : Int, 0 ≤ i' → wp ((seqM (letM 2 (vaM (op2 modD (callM (one toInt) (consM (peek (op2 ixD (getv 0) (pure (.int 2)))) (pure []))) (getv 1)))) (seqM (stM 0 2 (op2 fdivD (peek (op2 ixD (getv 0) (pure (.int 2)))) (getv 1))) (retM (getv 2))))) (fun r ρ' => ∃ t' d, ρ'[0]? = some (.ow t') ∧ Bag p (N + 300) t' ∧ r = .rt (.int d) ∧ 0 ≤ d ∧ d < many) E [.ow (bagT p q ns i' w' s n), .va (.int many), .un] := by
    intro w' i' hi'
    unfold bagT
    rw [wp_seq, wp_letM, wp_vaM, wp_op2, wp_callM, wp_cons, wp_peekix rfl rfl rfl rfl, wp_pure, wp_toInt, wp_getv rfl, wp_mod]
    refine ⟨hm, by simp, ?_⟩
    simp only [List.set_cons_succ, List.set_cons_zero]
    rw [wp_seq, wp_stM, wp_op2, wp_peekix rfl rfl rfl rfl, wp_getv rfl, wp_fdiv]
    refine ⟨⟨hm, hl2⟩, ?_⟩
    rw [wp_stGo rfl rfl]
    simp only [List.set_cons_succ, List.set_cons_zero]
    rw [wp_retM, wp_getv rfl]
    exact ⟨_, _, rfl, ⟨q, ns, i', w' / many, s, n, hpq, rfl, hns, hi', hs0, hs1, hn0, by omega⟩, rfl, Int.emod_nonneg _ (by omega), Int.emod_lt_of_pos _ hm⟩
  have e2 : ∀ w' i', peek (op2 eqD (op2 ixD (getv 0) (pure (.int 2))) (pure (.int 0))) [.ow (bagT p q ns i' w' s n), .va (.int many), .un] = .ok (.bl (decide (w' = 0))) [.ow (bagT p q ns i' w' s n), .va (.int many), .un] := fun w' i' =>
    peek_of (op2_of (op2_of (getv_of rfl) rfl rfl) rfl eqD_int) rfl
  have e1 : peek (op2 ltD (op2 ixD (getv 0) (pure (.int 1))) (callM (one lenD) (consM (op2 ixD (getv 0) (pure (.int 0))) (pure [])))) [.ow (bagT p q ns i w s n), .va (.int many), .un] = .ok (.bl (decide (i < (ns.length : Int)))) [.ow (bagT p q ns i w s n), .va (.int many), .un] := by
    refine peek_of (ρ' := frz [.ow (bagT p q ns i w s n), .va (.int many), .un]) (op2_of (op2_of (getv_of rfl) rfl rfl) (b := .int (ns.length : Int)) (ρ2 := frz [.ow (bagT p q ns i w s n), .va (.int many), .un]) ?_ rfl) rfl
    unfold callM
    rw [bind_ok (m := consM (op2 ixD (getv 0) (pure (.int 0))) (pure [])) (b := [D.lst (ns.map D.int)]) (ρ' := frz [.ow (bagT p q ns i w s n), .va (.int many), .un]) rfl]
    show O.ok (D.int ((ns.map D.int).length : Int)) _ = _
    rw [List.length_map]
  unfold dDraw
  rw [wp_seq, wp_iteM, wp_andM, wp_tst]
  refine wp_of (e2 w i) ?_
  simp only [decide_eq_true_eq]
  by_cases hw : w = 0
  · rw [if_pos hw, wp_tst]
    refine wp_of e1 ?_
    simp only [decide_eq_true_eq]
    by_cases hc : i < (ns.length : Int)
    · rw [if_pos hc, wp_seq, wp_stM]
      have hx : ∃ v, atI (ns.map D.int) i = some (.int v) := by
        have hk : i.toNat < (ns.map D.int).length := by rw [List.length_map]; omega
        refine ⟨ns[i.toNat]'(by rw [List.length_map] at hk; exact hk), ?_⟩
        have hk2 : i.toNat < ns.length := by rw [List.length_map] at hk; exact hk
        have e : ∀ j : Int, j = (i.toNat : Int) → atI (ns.map D.int) j = some (.int ns[i.toNat]) := by
          intro j hj
          unfold atI
          rw [hj, ixN_of hk]
          simp [hk2]
        exact e i (by omega)
      obtain ⟨v, hv⟩ := hx
      have e3 : peek (op2 ixD (op2 ixD (getv 0) (pure (.int 0))) (op2 ixD (getv 0) (pure (.int 1)))) [.ow (bagT p q ns i w s n), .va (.int many), .un] = .ok (.int v) [.ow (bagT p q ns i w s n), .va (.int many), .un] :=
        peek_of (ρ' := frz [.ow (bagT p q ns i w s n), .va (.int many), .un]) (op2_of (op2_of (a := .lst (toDL [.v q (ns.map .int), .d (.int i), .d (.int w), .d (.int s), .d (.int n)])) (getv_of rfl) rfl (d := .lst (ns.map .int)) rfl) (op2_of (getv_of rfl) rfl rfl) (by exact hv)) rfl
      refine wp_of e3 ?_
      unfold bagT
      rw [wp_stGo rfl rfl]
      simp only [List.set_cons_succ, List.set_cons_zero]
      rw [wp_stM, wp_op2, wp_peekix rfl rfl rfl rfl, wp_pure, wp_add, wp_stGo rfl rfl]
      simp only [List.set_cons_succ, List.set_cons_zero]
      exact fin v (i + 1) (by omega)
    · rw [if_neg hc, wp_iteM, wp_tst]
      refine wp_of (e2 w i) ?_
      simp only [decide_eq_true_eq]
      rw [if_pos hw, wp_retM, wp_callO rfl, wp_cons, wp_getv rfl, wp_pure]
      exact wp_callFI (P := Bag p (N + 300)) rfl rfl (stir_wp hb0 hN hm hl) (fun t' k => hb0.same k) fun t' d k h0 h1 => ⟨t', d, rfl, k, rfl, h0, h1⟩
  · rw [if_neg hw]
    simp only [Bool.false_eq_true, if_false]
    rw [wp_iteM, wp_tst]
    refine wp_of (e2 w i) ?_
    simp only [decide_eq_true_eq]
    rw [if_neg hw, wp_pure]
    exact fin w i hi
/-- a draw -/
theorem wp_draw {i : Nat} {p : Addr} {N : Nat} {t : T} {many : Int} {ρ : Ev} {Q : D → Ev → Prop} {E : Str → List D → Ev → Prop} (h : ρ[i]? = some (.ow t)) (hb : Bag p N t) (hN : N ≤ 1125899906842624) (hm : 0 < many) (hl : Builtin.Int.intBits many ≤ 8000) (hl2 : many.natAbs.log2 < 9000)
    (hQ : ∀ t' d, Bag p (N + 300) t' → 0 ≤ d → d < many → Q (.int d) (ρ.set i (.ow t'))) : wp (callO 3 2 i dDraw (consM (pure (.int many)) (pure []))) Q E ρ := by
  rw [wp_callO h, wp_cons, wp_pure, wp_pure]
  exact wp_callFI (P := Bag p (N + 300)) h rfl (draw_fn hb hN hm hl hl2) (fun t' k => hb.same k) hQ
/-- the bag that a law begins with -/
theorem bag_way {ns : List Int} (hl : ns.length ≤ 63) : ∃ k, wayW 3 1 dBag [scr ns] = some k ∧ ∀ t, k t → ∃ p, Bag p 0 t := by
  have hcut : cut (ns.map D.int) none (some 63) = ns.map D.int := by
    unfold cut
    have h0 : HT.sIx (ns.map D.int).length 0 none = 0 := rfl
    have h1 : HT.sIx (ns.map D.int).length (ns.map D.int).length (some 63) = (ns.map D.int).length := by
      unfold HT.sIx
      simp
      omega
    rw [h0, h1, List.drop_zero, Nat.sub_zero, List.take_length]
  have hw : wp dBag (fun r _ => ∃ k, r = .rw k ∧ ∀ t, k t → ∃ p, Bag p 0 t) (fun _ _ _ => False) [.va (scr ns), .un, .un] := by
    unfold dBag
    rw [wp_seq, wp_letM, wp_vaM, wp_pure]
    refine ⟨by simp, ?_⟩
    simp only [List.set_cons_succ, List.set_cons_zero]
    rw [wp_seq, wp_forM, wp_bind]
    unfold sliceM partM
    rw [wp_bind, wp_getv rfl, wp_bind, wp_pure, wp_bind, wp_bind, wp_pure]
    simp only []
    rw [wp_pure, show slD (scr ns) none (some 63) = some (.lst (ns.map D.int)) by unfold scr slD; simp only []; rw [hcut], wp_some]
    rw [show asL (.lst (ns.map D.int)) = some (ns.map D.int) from rfl, wp_some]
    refine wp_for (I := fun l ρ => ∃ (s : Int) (y : Slot) (ms : List Int), l = ms.map .int ∧ 0 ≤ s ∧ s < 2147483647 ∧ ρ = [.va (scr ns), .va (.int s), y]) ⟨137, .un, ns, rfl, by decide, by decide, rfl⟩ ?_ ?_
    · rintro ρ ⟨s, y, _, _, hs0, hs1, rfl⟩
      simp only []
      unfold retW
      rw [wp_bind, wp_lcM, wp_bind, wp_bind, wp_getv rfl, wp_bind, wp_pure, wp_bind, wp_bind, wp_pure]
      simp only []
      rw [wp_pure, show slD (scr ns) none (some 63) = some (.lst (ns.map D.int)) by unfold scr slD; simp only []; rw [hcut], wp_some]
      rw [show asL (.lst (ns.map D.int)) = some (ns.map D.int) from rfl, wp_some]
      refine wp_lc (I := fun l acc ρ => ∃ (y : Slot) (ms zs : List Int), l = ms.map .int ∧ acc = zs.map .int ∧ ms.length + zs.length = ns.length ∧ ρ = [.va (scr ns), .va (.int s), y]) ⟨y, ns, [], rfl, rfl, by simp, rfl⟩ ?_ ?_
      · rintro acc ρ' ⟨y', ms, zs, hm, rfl, hlen, rfl⟩
        have : ms = [] := by cases ms with | nil => rfl | cons a b => simp at hm
        subst this
        have eb : ∀ y y', ∃ y2, backE [.va (scr ns), .va (.int s), y] [.va (scr ns), .va (.int s), y'] [2] = [.va (scr ns), .va (.int s), y2] := fun y y' => ⟨_, rfl⟩
        obtain ⟨y2, eb⟩ := eb y y'
        rw [eb, wp_bind, wp_cons, wp_pure, wp_cons, wp_pure, wp_cons, wp_getv rfl, wp_cons, wp_pure, wp_pure]
        rw [wp_bnd]
        refine ⟨by show (5 : Nat) ≤ _; unfold sizeLine; decide, ?_⟩
        rw [wp_pure]
        refine ⟨_, rfl, ?_⟩
        rintro t ⟨p, q, hpq, rfl⟩
        simp at hlen
        exact ⟨p, q, zs, 0, 0, s, 0, hpq, rfl, by omega, by decide, hs0, hs1, by decide, by decide⟩
      · rintro d l acc ρ ⟨y', ms, zs, hm, rfl, hlen, rfl⟩
        cases ms with
        | nil => simp at hm
        | cons m ms =>
          simp at hm
          obtain ⟨rfl, rfl⟩ := hm
          rw [show wipeE [.va (scr ns), .va (.int s), y'] [2] = [.va (scr ns), .va (.int s), .un] from rfl, wp_setv]
          refine ⟨by simp, ?_⟩
          simp only [List.set_cons_succ, List.set_cons_zero]
          rw [wp_pure]
          simp only [if_true]
          rw [wp_op2, wp_callM, wp_cons, wp_callM, wp_cons, wp_getv rfl, wp_pure]
          rw [show one absD [.int m] = some (.int (if m < 0 then -m else m)) from rfl, wp_some, wp_pure, wp_toInt, wp_op2, wp_op2, wp_pure, wp_pure, wp_pow]
          refine ⟨by decide +kernel, ?_⟩
          rw [wp_pure, wp_pow]
          refine ⟨by decide +kernel, ?_⟩
          rw [wp_mod]
          refine ⟨by decide +kernel, ?_, ?_⟩
          · rw [List.length_map]
            unfold sizeLine
            simp at hlen
            omega
          · exact ⟨_, ms, zs ++ [_], rfl, by rw [List.map_append]; rfl, by simp at hlen ⊢; omega, rfl⟩
    · rintro d l ρ ⟨s, y, ms, hm, hs0, hs1, rfl⟩
      cases ms with
      | nil => simp at hm
      | cons m ms =>
        simp at hm
        obtain ⟨rfl, rfl⟩ := hm
        rw [wp_setv]
        refine ⟨by simp, ?_⟩
        simp only [List.set_cons_succ, List.set_cons_zero]
        rw [wp_letM, wp_vaM, wp_op2, wp_callM, wp_cons, wp_op2, wp_op2, wp_op2, wp_getv rfl, wp_pure, wp_mul]
        refine ⟨bMul_of (a := 31) (b := 16) (by omega) (by decide) (by decide) (by decide) (by decide), ?_⟩
        rw [wp_op2, wp_callM, wp_cons, wp_getv rfl, wp_pure, wp_toInt, wp_pure, wp_mod]
        refine ⟨by decide, ?_⟩
        rw [wp_add, wp_pure, wp_add, wp_pure, wp_toInt, wp_pure, wp_mod]
        refine ⟨by decide, by simp, ?_⟩
        simp only [List.set_cons_succ, List.set_cons_zero]
        exact ⟨_, _, ms, rfl, Int.emod_nonneg _ (by decide), Int.emod_lt_of_pos _ (by decide), rfl⟩
  obtain ⟨r, ρ', e, k, rfl, hk⟩ := wp_ok hw
  refine ⟨k, ?_, hk⟩
  unfold wayW
  rw [if_pos (show [scr ns].length = 1 from rfl), show unE 3 ([scr ns].map .va) = [.va (scr ns), .un, .un] from rfl, e]
end Pd

set_option maxHeartbeats 4000000
namespace Pd
open PySem PySem.Spec PyProof.Rows L2 PySem.W
/-! ### the Hook: what the names reach in n steps, and the interpreter's own statics -/
def asZ (g : Addr → Option Obj) (n : Nat) : List Addr := He.asD g n ++ [cStatics]
def frZ (n : Nat) (g : Addr → Option Obj) : Frag := He.frG g (asZ g n)
def obsZ (n : Nat) (fa : List He.Fa) (fn : List He.DefD) (ex : Frag → Bool) (g : Addr → Option Obj) : He.AlD × Bool := (He.obsD fa fn (frZ n g), ex (frZ n g))
def hookZ (n : Nat) (fa : List He.Fa) (fn : List He.DefD) (ex : Frag → Bool) : PySem.W.Hook where
  α := He.AlD × Bool
  obs := fun s => obsZ n fa fn ex s.heap.get?
  val := fun _ => (He.valD fn, true)
  says := fun _ h => ∃ K : Frag, K.In h ∧ He.SaysD fa fn K ∧ ex K = true
  of := fun _ _ e => ⟨_, He.frG_in, congrArg (fun z : He.AlD × Bool => z.1) e, congrArg (fun z : He.AlD × Bool => z.2) e⟩
  keeps := fun _ _ _ ⟨K, hK, c⟩ k => ⟨K, Frag.In.keeps hK k, c⟩
theorem obsZ_eq {n : Nat} {fa : List He.Fa} {fn : List He.DefD} {ex : Frag → Bool} {g : Addr → Option Obj} {s : Shared} (h : ∀ a, g a = s.heap.get? a) : obsZ n fa fn ex g = (hookZ n fa fn ex).obs s := by
  have e : g = s.heap.get? := funext h
  rw [e]
  rfl
end Pd

set_option maxHeartbeats 4000000
namespace Pd
open PySem PySem.Spec PyProof.Rows L2
/-! ### defs that may ask for the text of a list: no text is being made around them -/
structure RmG (k : Nat) (A : Around) : Prop where
  rm : Room k A
  gd : A.guards = some []
theorem RmG.mono {j k : Nat} {A : Around} (r : RmG k A) (h : j ≤ k) : RmG j A := ⟨r.rm.mono h, r.gd⟩
theorem RmG.deep {k : Nat} {A : Around} (r : RmG (k + 1) A) (e : Env) : RmG k (A.deeper e) := ⟨r.rm.deeper e, r.gd⟩
/-- a def's promise there -/
structure FnG (P : Program) (w : World) (K : PySem.W.Frag) (mg : Str → Option Value) (base : Heap) (CX : CXT) (k : Nat) (f : Addr) (fd : FuncData) (ps : List Str) (sp : Sp) : Prop where
  len : ∀ vs H Q E, sp vs H Q E → vs.length = ps.length
  go : ∀ (A : Around) (outer : List Env) (s : Shared) (H : Hp) (args : Args) (us : List Value) (vs : List V) (Q : VK) (E : XK), RmG k A → Env0 P w K mg base A outer s H →
    BindsTo s fd args (ps.zip us) → Vals vs us → sp vs H Q E → codeAny (model P w) A (.call (.ref f) args) (CR CX outer P w H s Q E) s
section
variable {P : Program} {w : World} {K : PySem.W.Frag} {mg : Str → Option Value} {base : Heap} {CX : CXT} {k : Nat} {f : Addr} {fd : FuncData} {ps : List Str} {sp : Sp}
theorem FnG.of (F : FnOk P w K mg base CX k f fd ps sp) : FnG P w K mg base CX k f fd ps sp :=
  ⟨F.len, fun A o s H a us vs Q E r e b v h => F.run A o s H a us vs Q E r.rm e b v h⟩
theorem FnG.mono {j : Nat} (F : FnG P w K mg base CX j f fd ps sp) (h : j ≤ k) : FnG P w K mg base CX k f fd ps sp :=
  ⟨F.len, fun A o s H a us vs Q E r e b v z => F.go A o s H a us vs Q E (r.mono h) e b v z⟩
/-- a def by its body -/
theorem FnG.body {x qual : Str} {params : Arguments} {stm : List Stmt} {scope : Scope} {dvs : List V} {kws : List (Str × V)} {N : List Str} (F : FunD K x qual params stm scope dvs kws f fd) (S : FnScope N ps scope)
    (len : ∀ vs H Q E, sp vs H Q E → vs.length = ps.length)
    (hb : ∀ (cv : Value) (A : Around) (outer : List Env) (s : Shared) (H : Hp) (vs : List V) (Q : VK) (E : XK), RmG k (A.deeper (envOfC qual scope s.heap.objs.size f cv)) → sp vs H Q E →
      ∃ t, PSs (cxOf CX P w K mg base N qual scope f cv A outer s H E) stm t ∧ t { nx := fun _ H' => Q .non H', rt := Q } (L2.start N vs) H) : FnG P w K mg base CX (k + 1) f fd ps sp := by
  obtain ⟨_, _, _, _, _, _, _, cv, _, _, rfl, lk, hcv, _, _⟩ := F.ex
  refine ⟨len, fun A outer s H args us vs Q E rG e0 hbt rv hsp => ?_⟩
  have KX : K.In s.heap := e0.mod.kin.keeps fun b o z => (e0.bs b o z).1
  refine codeAny_call_function rG.rm.depth (KX _ _ lk) rfl S.co S.gen rfl (PySem.W.codeRec_of KX hcv) (hbt _ _ _ _ ?_)
  refine wpAny_newFunctionEnv_cells S.kind ?_ ?_
  · rintro ⟨n, v⟩ hy
    rcases S.par n (List.of_mem_zip hy).1 with q | q
    · exact .inl q
    · exact .inr ⟨q, PySem.W.cellsFrom_some _ _ _ (.inl q)⟩
  · intro env he s1 x
    subst he
    refine ⟨(e0.mod.nolimit.keeps fun b o z => (e0.bs b o z).1).keeps x.toInCall.keep, codeAny_func ?_⟩
    obtain ⟨t, ht, hq⟩ := hb cv A outer s H vs Q E (rG.deep _) hsp
    have I : Inv (cxOf CX P w K mg base N qual scope f cv A outer s H E) [] (L2.start N vs) H s1 := inv_start S rG.rm.hd e0 (len _ _ _ _ hsp) rv x
    refine wpAny_mono (ht.run [] s1 _ H _ I hq) (fun fl s' hs => ?_) fun _ _ z => z
    cases fl with
    | ret u => exact let ⟨v, _, H', J, r, q⟩ := hs; ⟨v, H', J.os, J.bare, J.base, J.hok, r, q⟩
    | next => exact let ⟨_, H', J, q⟩ := hs; ⟨V.non, H', J.os, J.bare, J.base, J.hok, rfl, q⟩
    | brk => exact hs.elim fun _ z => z.elim fun _ z => z.2.elim
    | cont => exact hs.elim fun _ z => z.elim fun _ z => z.2.elim
end
section
variable {X : Cx} {CX : CXT} {k : Nat} {f : Addr} {fd : FuncData} {ps : List Str} {sp : Sp} {E : L2.St → XK} {x : Str} {p pos : Pos} {e : Expr} {es : List Expr} {t : TA} {kws : List Keyword}
theorem FnG.call (F : FnG X.prog X.w X.K X.mg X.base CX k f fd ps sp) (r : RmG k X.A) {pins : List (Addr × Obj)} {σ : L2.St} {H : Hp} {s : Shared} {Q : VK} {args : Args} {us : List Value} {vs : List V} (hb : BindsTo s fd args (ps.zip us)) (hx : PassesAt CX X σ (E σ))
    (I : Inv X pins σ H s) (rv : Vals vs us) (h : sp vs H Q (E σ)) : wpAny (model X.prog X.w) X.A (call (.ref f) args.pos args.kw) (EP X pins σ Q) X.xe s := by
  refine wpAny_call (codeAny_mono (F.go X.A X.stack s H args us vs Q (E σ) r I.env0 hb rv h) fun r s' z => ?_)
  rcases r with er | fl
  · exact hx pins H s er s' I z
  · rcases fl with u | _ | _ | _ <;> first | exact I.after z | exact False.elim z
end
end Pd

set_option maxHeartbeats 4000000
namespace Pd
open PySem PySem.Spec PyProof.Rows L2
/-! ### text * n -/
def repS (x : Str) (n : Int) : Str := if n < 1 then Str.empty else if (n == 1 || x.length == 0) = true then x else ⟨(List.replicate n.toNat x.cps).foldl (· ++ ·) #[]⟩
def srepD : D → D → Option D
  | .str x, .int n => if (-(2 ^ 63) ≤ n ∧ n ≤ 1000000) ∧ x.length * n.toNat ≤ 1000000 ∧ (repS x n).length ≤ sizeLine then some (.str (repS x n)) else none
  | _, _ => none
def rSrep : R2 := fun x y H Q => ∃ i n, x = .str i ∧ y = .int n ∧ (-(2 ^ 63) ≤ n ∧ n ≤ 1000000) ∧ i.length * n.toNat ≤ 1000000 ∧ (repS i n).length ≤ sizeLine ∧ Q (.str (repS i n)) H
section
variable {C : Ct} {W : WX} {X : Cx}
theorem op_srep : OpR X (binaryOp .Mult) rSrep := by
  intro pins s σ H x y v u Q I rx ry h
  obtain ⟨z, n, rfl, rfl, ⟨h0, h1⟩, h2, h3, q⟩ := h
  obtain ⟨t, rfl⟩ := rx
  obtain ⟨t', rfl⟩ := ry
  refine PySem.P.mul_str ?_ ?_ ?_ ?_
  · rw [decide_eq_false (by omega), decide_eq_false (by omega)]
    rfl
  · intro a b c
    have e1 : n.toNat * z.length ≤ 1000000 := by rw [Nat.mul_comm]; exact h2
    have e2 : n ≥ 1 := by omega
    have e3 : ((2 : Int) ^ 63 - 1) / n ≥ 1000000 := by
      rw [ge_iff_le, Int.le_ediv_iff_mul_le (by omega)]
      have : (1000000 : Int) * n ≤ 1000000 * 1000000 := Int.mul_le_mul_of_nonneg_left h1 (by decide)
      omega
    have e4 : z.length ≤ 1000000 := by
      have : z.length * 1 ≤ z.length * n.toNat := Nat.mul_le_mul_left _ (by omega)
      omega
    omega
  · intro a b
    have : z.length * n.toNat ≤ sizeLine := by rw [sizeLine_eq]; omega
    exact decide_eq_false (Nat.not_lt.mpr this)
  · unfold repS at h3 q
    by_cases c1 : n < 1
    · rw [if_pos c1] at h3 q ⊢
      exact ⟨h3, .str _, H, I.tok _, ⟨_, rfl⟩, q⟩
    · rw [if_neg c1] at h3 q ⊢
      by_cases c2 : (n == 1 || z.length == 0) = true
      · rw [if_pos c2] at h3 q ⊢
        exact ⟨.str _, H, I, ⟨_, rfl⟩, q⟩
      · rw [if_neg c2] at h3 q ⊢
        exact ⟨h3, .str _, H, I.tok _, ⟨_, rfl⟩, q⟩
theorem ok_srep : OpOk C rSrep srepD := fun G H x y a b d Q le ra rb e q => by
  cases a <;> cases b <;> first | (cases e; done) | skip
  cases ra; cases rb
  simp only [srepD] at e
  split at e
  · rename_i hz
    cases e
    exact ⟨_, _, rfl, rfl, hz.1, hz.2.1, hz.2.2, q.now le rfl⟩
  · cases e
theorem pd_srep {a b : Expr} {pos : Pos} {fa fb : M D} (ha : PE X a (dE C W fa)) (hb : PE X b (dE C W fb)) : PE X (.BinOp a .Mult b pos) (dE C W (op2 srepD fa fb)) := pd_op op_srep ok_srep ha hb
/-! ### repr -/
def reprI : D → Option D
  | .int i => if i.natAbs.log2 < 1920 then some (.str (toString i : Str)) else none
  | _ => none
theorem ok_repr : CallOk C (fun xs H Q => ∃ i, xs = [.int i] ∧ i.natAbs.log2 < 1920 ∧ Q (.str (toString i)) H) (one reprI) := fun G H vs l d Q le r e q => by
  obtain ⟨a, x, rfl, rfl, ra, e⟩ := one_cases e r
  cases a <;> first | (cases e; done) | skip
  simp only [reprI] at e
  split at e
  · rename_i hz
    cases e; cases ra
    exact ⟨_, rfl, hz, q.now le rfl⟩
  · cases e
/-- of lists and tuples -/
def reprD (d : D) : Option D := (py d).bind fun p => if p.showable = true ∧ p.hasDict = false ∧ p.depth ≤ 60 ∧ p.shown.length ≤ sizeLine then some (.str p.shown) else none
def rRepr (K : PySem.W.Frag) : List V → Hp → VK → Prop := fun vs H Q => ∃ x p, vs = [x] ∧ (∃ a, x = .ref a) ∧ Dp K H x p ∧ p.showable = true ∧ p.hasDict = false ∧ p.depth ≤ 60 ∧ p.shown.length ≤ sizeLine ∧ Q (.str p.shown) H
theorem call_reprL (gd : X.A.guards = some []) (hu : X.A.units + 64 < cLine) : CallR X (.builtin "repr") (rRepr X.K) := by
  intro pins s σ H xs us Q I r h
  obtain ⟨x, p, rfl, ⟨a, rfl⟩, dp, h1, h2, h3, h4, q⟩ := h
  obtain ⟨u, rfl, rx⟩ := vals1 r
  cases (show u = Value.ref a from rx)
  obtain ⟨as, rd⟩ := Dp.reads I p _ _ dp rx
  exact repr_of_reads' rd h1 (fun z => by rw [h2] at z; cases z) gd (by omega) (fun _ _ z => z) (fun h' u tk hk => ⟨.str _, H, I.kept hk, ⟨_, rfl⟩, q⟩) h4
theorem ok_reprL : CallOk C (rRepr C.K) (one fun d => match d with
    | .lst l => reprD (.lst l)
    | .tup l => reprD (.tup l)
    | _ => none) := fun G H vs l d Q le r e q => by
  obtain ⟨a, x, rfl, rfl, ra, e⟩ := one_cases e r
  have key : ∀ a : D, (∃ z, x = .ref z) → reprD a = some d → Rp C G a x → rRepr C.K [x] H Q := by
    intro a hx e ra
    unfold reprD at e
    obtain ⟨p, e1, e2⟩ := Option.bind_eq_some_iff.mp e
    split at e2
    · rename_i hz
      cases e2
      exact ⟨x, p, rfl, hx, rp_dp le ra e1, hz.1, hz.2.1, hz.2.2.1, hz.2.2.2, q.now le rfl⟩
    · cases e2
  cases a <;> first | (cases e; done) | skip
  · exact key _ (by obtain ⟨z, _, h, _⟩ := ra; exact ⟨z, h⟩) e ra
  · exact key _ (by obtain ⟨z, _, h, _⟩ := ra; exact ⟨z, h⟩) e ra
def reprL : D → Option D := fun d => match d with
    | .lst l => reprD (.lst l)
    | .tup l => reprD (.tup l)
    | _ => none
theorem ok_reprL' : CallOk C (rRepr C.K) (one reprL) := ok_reprL
end
end Pd

set_option maxHeartbeats 4000000
namespace Pd
open PySem PySem.Spec PyProof.Rows L2
section
variable {X : Cx} {CX : CXT} {k : Nat} {f : Addr} {fd : FuncData} {ps : List Str} {sp : Sp} {E : L2.St → XK} {x : Str} {p pos : Pos} {e : Expr} {es : List Expr} {t : TA} {kws : List Keyword}
theorem pe_callSG (F : FnG X.prog X.w X.K X.mg X.base CX k f fd ps sp) (r : RmG k X.A) (hm : X.mg x = some (.ref f)) (hk : PySem.W.keepIn X.K (.ref f) = true) (hb : Binds X.K fd ps []) (hx : ∀ σ, PassesAt CX X σ (E σ)) (ha : PA X (e :: es) t)
    (hg : Gl X x := by rfl) (hdb : (x == ("__debug__" : Str)) = false := by decide) (he : starEach (e :: es) X.env = (false, eval e X.env) :: starEach es X.env := by rfl) (hpl : (backTo pos (starEach es X.env)).any (·.1) = false := by rfl) :
    PE X (.Call (.Name x p) (e :: es) [] pos) (tCallS sp E t) :=
  ⟨fun pins s σ H Q I h => wpAny_Call_Name_kw (ld_glob I hg hm (PySem.W.callWith_K (h₀ := X.base) I.ok.mod.kin hk (thn (ha.run pos pins s σ H _ I h) fun us s1 z => (by
    obtain ⟨vs, H1, J, rv, q⟩ := z
    have hl : us.length = ps.length := rv.length.symm.trans (F.len _ _ _ _ q)
    have z := hb s1 us J.kIn (by rw [List.append_nil]; exact hl)
    rw [List.append_nil] at z
    exact ⟨J.kIn, F.call r z (hx σ) J rv q⟩)) he hpl) hdb)⟩
theorem pe_callKG (F : FnG X.prog X.w X.K X.mg X.base CX k f fd ps sp) (r : RmG k X.A) (hm : X.mg x = some (.ref f)) (hk : PySem.W.keepIn X.K (.ref f) = true) (hb : BindsK X.K fd ps) (hx : ∀ σ, PassesAt CX X σ (E σ)) (ha : PK X kws t)
    (hg : Gl X x := by rfl) (hall : (backToKw pos (keywordEach kws X.env)).all (·.1.isSome) = true := by rfl) (hks : (backToKw pos (keywordEach kws X.env)).filterMap (·.1) = ps := by rfl) (hdb : (x == ("__debug__" : Str)) = false := by decide)
    (hpl : ((backTo pos (starEach [] X.env)).any (·.1) || (backToKw pos (keywordEach kws X.env)).any (·.1.isNone)) = false := by rfl) : PE X (.Call (.Name x p) [] kws pos) (tCallS sp E t) :=
  ⟨fun pins s σ H Q I h => wpAny_Call_Name_kw (ld_glob I hg hm (PySem.W.callWith_KW0 (h₀ := X.base) I.ok.mod.kin hk hall (thn (ha.run pos pins s σ H _ I h) fun us s1 z => (by
    obtain ⟨vs, H1, J, rv, q⟩ := z
    refine ⟨J.kIn, ?_⟩
    rw [hks]
    exact F.call r (hb s1 us J.kIn (rv.length.symm.trans (F.len _ _ _ _ q))) (hx σ) J rv q)) hpl) hdb)⟩
end
/-! ### a def of the module that may ask for texts of lists -/
structure HsG (C : Ct) (P : Program) (w : World) (mg : Str → Option Value) (base : Heap) (x : Str) (fA : Addr) (k : Nat) (ps : List Str) (n np : Nat) (f : M Fl) : Prop where
  ex : ∃ fd, FnG P w C.K mg base (L2.CX P w) k fA fd ps (spG C n np f) ∧ Binds C.K fd ps [] ∧ BindsK C.K fd ps
  mg_ : mg x = some (.ref fA)
  kp : PySem.W.keepIn C.K (.ref fA) = true
section
variable {C : Ct} {P : Program} {w : World} {mg : Str → Option Value} {base : Heap} {k : Nat} {x qual : Str} {params : Arguments} {body : List Stmt} {scope : Scope} {kws : List (Str × V)} {f : Addr} {fd : FuncData} {N ps : List Str} {g : M Fl}
theorem hsG_of (F : FunD C.K x qual params body scope [] kws f fd) (S : FnScope N ps scope) (hm : mg x = some (.ref f))
    (hb : ∀ (kV doc pm : Value) (an : Option Addr) (cv ct : Value) (us : List Value), us.length = ps.length → bindArgs (PySem.W.fnOf x qual params body scope .none kV doc pm an cv ct) ⟨us, []⟩ = pure (ps.zip us))
    (hbk : ∀ (kV doc pm : Value) (an : Option Addr) (cv ct : Value) (us : List Value), us.length = ps.length → bindArgs (PySem.W.fnOf x qual params body scope .none kV doc pm an cv ct) ⟨[], ps.zip us⟩ = pure (ps.zip us))
    (hbody : ∀ (cv : Value) (A : Around) (outer : List Env) (s : Shared) (H : Hp) (E : XK), RmG k (A.deeper (envOfC qual scope s.heap.objs.size f cv)) → PSs (cxOf (L2.CX P w) P w C.K mg base N qual scope f cv A outer s H E) body (dS C (fun c d _ H' => E c d H') g)) :
    HsG C P w mg base x f (k + 1) ps N.length ps.length g :=
  ⟨⟨fd, FnG.body F S (fun vs H Q E h => by
      obtain ⟨G, args, α, hl, w, _⟩ := h
      rw [← hl, ← w.len, List.length_map]) (fun cv A outer s H vs Q E hr h => by
      obtain ⟨G, args, α, hl, w, h⟩ := h
      exact ⟨_, hbody cv A outer s H E hr, G, _, α, w.start, h⟩), F.bindsN hb, bindsK F hbk⟩, hm, F.kp⟩
theorem HsG.of {fA : Addr} {n np : Nat} (H : Hs C P w mg base x fA k ps n np g) : HsG C P w mg base x fA k ps n np g := by
  obtain ⟨fd, F, b⟩ := H.ex
  exact ⟨⟨fd, .of F, b⟩, H.mg_, H.kp⟩
/-- the law's own def, whose first statement is y = _law_bag(script) -/
theorem fn_lawWG {dvs : List V} {n np i : Nat} {fa : M (List D)} {g : M Fl} {rest : T → M Fl} (hp : ps.length = 1) (F : FunD C.K x qual params body scope dvs kws f fd) (S : FnScope N ps scope)
    (hbody : ∀ (cv : Value) (A : Around) (outer : List Env) (s : Shared) (H : Hp) (E : XK), RmG k (A.deeper (envOfC qual scope s.heap.objs.size f cv)) → PSs (cxOf CX0 P w C.K mg base N qual scope f cv A outer s H E) body (dSW C W0 n np i g fa rest)) :
    FnG P w C.K mg base CX0 (k + 1) f fd ps (spLawW C N n np i g fa rest) :=
  FnG.body F S (fun vs H Q E h => by rw [hp]; exact h.1) fun cv A outer s H vs Q E hr h => ⟨_, hbody cv A outer s H E hr, h.2⟩
end
section
variable {C : Ct} {W : WX} {X : Cx} {x : Str} {fA : Addr} {k k' : Nat} {ps : List Str} {n np : Nat} {f : M Fl} {fa : M (List D)} {e : Expr} {es : List Expr} {kws : List Keyword} {p pos : Pos}
theorem pd_callHG (hC : C.K = X.K) (H : HsG C X.prog X.w X.mg X.base x fA k ps n np f) (hr : RmG k' X.A) (tk : Takes X W) (ha : PA X (e :: es) (dA C W fa)) (hk : k ≤ k' := by decide)
    (hg : Gl X x := by rfl) (hdb : (x == ("__debug__" : Str)) = false := by decide) (he : starEach (e :: es) X.env = (false, eval e X.env) :: starEach es X.env := by rfl) (hpl : (backTo pos (starEach es X.env)).any (·.1) = false := by rfl) :
    PE X (.Call (.Name x p) (e :: es) [] pos) (dE C W (callG n np f fa)) := by
  obtain ⟨fd, F, b, _⟩ := H.ex
  exact pe_mono (pe_callSG (hC ▸ F) (hr.mono hk) H.mg_ (hC ▸ H.kp) (hC ▸ b) (fun σ => passAt tk σ) ha hg hdb he hpl) fun _ _ _ h => dE_callG h
end
/-! ### the end of a law that may ask for texts of lists -/
theorem law_go {P : Program} {w : World} {K : PySem.W.Frag} {mg mb : Str → Option Value} {CX : CXT} {k : Nat} {fa a : Addr} {fd : FuncData} {x : Str} {sp : Sp} {s : Shared} {us : List Value} {H : Hp}
    (KX : K.In s.heap) (hns : s.heap.Ns mainGlobals mg) (hb : s.heap.Ns builtinsNs mb) (hbb : ∀ x : Str, x ≠ "__name__" → mb x = bootBuiltins x) (hlim : s.heap.NoLimit) (hg : s.gens = #[])
    (ha : s.heap.get? a = some { cls := .type "list", data := .seq us.toArray }) (hr : Room k callerA)
    (F : ∀ base : Heap, K.In base → base.Ns mainGlobals mg → FnG P w K mg base CX k fa fd [x] sp) (hbind : ∀ (s : Shared) (u : Value), BindsTo s fd ⟨[u], []⟩ [(x, u)])
    (hsp : sp [.ref a] H (fun v _ => v = .bl true) fun _ _ _ => False) (hCX : ∀ e s', CX [] H s (fun _ _ _ => False) e s' → False)
    (hO : Only H) (hok : HOk P w H s.heap) (hA : ∀ b, H b ≠ none → b = a) (hK : H a ≠ none → K.lookup a = none) :
    codeAny (model P w) callerA (.call (.ref fa) ⟨[.ref a], []⟩) (fun r s' => r = .ok (.ret (.bool true)) ∧ OldK s.heap s'.heap ∧ s'.os = s.os ∧ AllBare s'.gens) s := by
  have isa : ∀ {b : Addr} {u : HO}, H b = some u → b = a := fun {b u} q => hA b (by rw [q]; exact fun z => nomatch z)
  have lowD : ∀ {b : Addr} {m : Str → Option Value}, s.heap.Ns b m → (hidT s.heap H).Ns b m := by
    rintro b m ⟨o, es, ep, e, d, r⟩
    refine ⟨o, es, ep, hidT_get e ?_, d, r⟩
    cases q : H b with
    | none => rfl
    | some u =>
      rw [isa q, ha] at e
      cases e
      exact nomatch d
  have KB : K.In (hidT s.heap H) := fun b o e => hidT_get (KX b o e) (by
    cases q : H b with
    | none => rfl
    | some u =>
      have z := isa q
      subst z
      rw [hK (by rw [q]; exact fun z => nomatch z)] at e
      exact nomatch e)
  obtain ⟨mc, l1, l2⟩ := hlim
  have st : Env0 P w K mg (hidT s.heap H) callerA [] s H := { frames := rfl, mod := ⟨KB, lowD hns, ⟨mb, lowD hb, hbb⟩, mc, lowD l1, l2⟩, bs := fun b o e => of_hidT e, bsz := Nat.le_of_eq (hidT_size _ _), funs := trivial, frf := fun b z => (nomatch z), hok := hok, bare := .of_eq hg }
  refine codeAny_mono ((F _ KB (lowD hns)).go callerA [] s H ⟨[.ref a], []⟩ [.ref a] [.ref a] _ _ ⟨hr, rfl⟩ st (hbind s (.ref a)) (.cons rfl .nil) hsp) fun r s' h => ?_
  rcases r with er | fl
  · exact (hCX er s' h).elim
  cases fl with
  | ret u =>
    obtain ⟨v, H', os, bare, un, hok', rv, rfl⟩ := h
    obtain rfl : u = Value.bool true := rv
    refine ⟨rfl, OldK.of_keep fun b o e => ?_, os, bare⟩
    rcases hO b with z | ⟨ob, xs, z⟩
    · exact un.keep b o e z (fun z => nomatch z) fun z => nomatch z
    · have e1 := (hok b _ z).1
      have e2 := (hok' b _ (un.frzs b ob _ z)).1
      rw [e1] at e
      cases e
      exact e2
  | _ => exact False.elim h
theorem law_callG {P : Program} {w : World} {K : PySem.W.Frag} {mg mb : Str → Option Value} {CX : CXT} {k : Nat} {fa a : Addr} {fd : FuncData} {x : Str} {sp : Sp} {s : Shared} {us : List Value} {ns : List Int}
    (KX : K.In s.heap) (hns : s.heap.Ns mainGlobals mg) (hb : s.heap.Ns builtinsNs mb) (hbb : ∀ x : Str, x ≠ "__name__" → mb x = bootBuiltins x) (hlim : s.heap.NoLimit) (hg : s.gens = #[])
    (ha : s.heap.get? a = some { cls := .type "list", data := .seq us.toArray }) (hi : IntsAre us ns) (hl : ns.length ≤ sizeLine) (hr : Room k callerA)
    (F : ∀ base : Heap, K.In base → base.Ns mainGlobals mg → FnG P w K mg base CX k fa fd [x] sp) (hbind : ∀ (s : Shared) (u : Value), BindsTo s fd ⟨[u], []⟩ [(x, u)])
    (hsp : ∀ H : Hp, Only H → SqL K H a (ns.map V.int) → sp [.ref a] H (fun v _ => v = .bl true) fun _ _ _ => False) (hCX : ∀ H e s', CX [] H s (fun _ _ _ => False) e s' → False) :
    codeAny (model P w) callerA (.call (.ref fa) ⟨[.ref a], []⟩) (fun r s' => r = .ok (.ret (.bool true)) ∧ OldK s.heap s'.heap ∧ s'.os = s.os ∧ AllBare s'.gens) s := by
  have rv := vals_ints hi
  have sz := hi.length
  cases q : K.lookup a with
  | some o =>
    have e := KX a o q
    rw [ha] at e
    cases e
    have h0 : Only fun _ => none := fun _ => .inl rfl
    refine law_go (H := fun _ => none) (us := us) KX hns hb hbb hlim hg ha hr F hbind (hsp _ h0 (.inr ⟨_, us.toArray, _, q, rfl, rfl, rfl, ?_, ?_⟩)) (hCX _) h0 (fun _ _ z => nomatch z) (fun _ z => (z rfl).elim) fun z => (z rfl).elim
    · rw [List.size_toArray, sz]
      exact hl
    · simpa using rv
  | none =>
    let H1 : Hp := fun b => if b = a then some (.frz { cls := .type "list", data := .seq us.toArray } (.lst (ns.map V.int))) else none
    have at_ : H1 a = some (.frz { cls := .type "list", data := .seq us.toArray } (.lst (ns.map V.int))) := if_pos rfl
    have off : ∀ {b}, b ≠ a → H1 b = none := fun n => if_neg n
    have h0 : Only H1 := fun b => by
      by_cases z : b = a
      · rw [z, at_]; exact .inr ⟨_, _, rfl⟩
      · exact .inl (off z)
    refine law_go (H := H1) (us := us) KX hns hb hbb hlim hg ha hr F hbind (hsp _ h0 (.inl (.inr ⟨_, at_⟩))) (hCX _) h0 (fun b u z => ?_) (fun b z => Classical.byContradiction fun n => z (off n)) fun _ => q
    by_cases n : b = a
    · subst n
      rw [at_] at z
      cases z
      exact ⟨ha, by rw [List.length_map]; exact hl, us, _, rv, ha⟩
    · rw [off n] at z
      cases z
/-- a law: F gives the written part, the function object, the promise over every base -/
theorem walk_ofG {l : PySem.W.OpenLaw} {n k : Nat} {q : Program} {loose : List Str} {XP : (Str → Option Value) → Heap → Prop} {YP : World → Heap → Prop} {d : DefRec} {CX : CXT} {x : Str}
    (hn : l.most = some n) (hn2 : n ≤ sizeLine) (hdf : d.params.defaults = []) (hr : Room k callerA)
    (F : ∀ (w : World) (mg : Str → Option Value) (fa : Addr) (h : Heap), YP w h → h.Ns mainGlobals mg → mg d.name = some (.ref fa) → ∃ (K : PySem.W.Frag) (fd : FuncData) (sp : Sp), K.In h ∧ (∀ (s : Shared) (u : Value), BindsTo s fd ⟨[u], []⟩ [(x, u)]) ∧
      (∀ (H : Hp) (a : Addr) (ns : List Int), ns.length ≤ n → Only H → SqL K H a (ns.map V.int) → sp [.ref a] H (fun v _ => v = .bl true) fun _ _ _ => False) ∧ ∀ base : Heap, K.In base → base.Ns mainGlobals mg → FnG l.prog w K mg base CX k fa fd [x] sp)
    (hCX : ∀ (H : Hp) (s : Shared) (e : Value) (s' : Shared), CX [] H s (fun _ _ _ => False) e s' → False) : PySem.W.WalkO q loose XP YP l.row.toRowW d [] (fun f vs => PySem.call f vs) := by
  refine Att.attach_call hn hdf fun w s₀ s₁ mg mb fa o pm cd doc a us ns G Y ho hd hcd hmg hobj hints hlen hg => ?_
  obtain ⟨K, fd, sp, KX, hb, hsp, hF⟩ := F w mg fa _ Y G.T.g hmg
  exact law_callG KX G.T.g G.T.b G.T.builtins G.T.nolimit hg hobj hints (Nat.le_trans hlen hn2) hr hF hb (fun H hO hS => hsp H a ns hlen hO hS) fun H e s' => hCX H s₁ e s'
end Pd

set_option maxHeartbeats 4000000
namespace Pd
open PySem PySem.Spec PyProof.Rows L2
/-! ### x = [e, ..], each a new list; then a rest that ends in a value, whatever the places are -/
def OwL (C : Ct) (G H : Hp) (α : Nat → List Addr) (H0 : Hp) (α0 : Nat → List Addr) : List (List D) → List Addr → Prop
  | [], ps => ps = []
  | l :: ls, ps => ∃ p r, ps = p :: r ∧ p ∉ r ∧ (∃ xs, H p = some (.lst xs) ∧ RpL C G l xs) ∧ G p = none ∧ (∀ i, p ∉ α i) ∧ ((∃ i, p ∈ α0 i) ∨ H0 p = none) ∧ OwL C G H α H0 α0 ls r
section
variable {C : Ct} {W : WX} {X : Cx}
def RnLs (C : Ct) (W : WX) (m : M (List (List D))) (σ : L2.St) (G H : Hp) (ρ : Ev) (α : Nat → List Addr) (Q : List V → Hp → Prop) : Prop := match m ρ with
  | .ok ls ρ' => ∀ ps G' H' α', Step G H α G' H' α' → Wf C G' H' σ ρ' α' → OwL C G' H' α' H α ls ps → Q (ps.map .ref) H'
  | .ex c l ρ' => ∀ cls dct G' H' α', Step G H α G' H' α' → Wf C G' H' σ ρ' α' → ExOk C c l cls dct G' H' → W cls dct σ H'
  | .no => False
def dLs (C : Ct) (W : WX) (f : M (List (List D))) : TA := fun σ H Q => ∃ G ρ α, Wf C G H σ ρ α ∧ RnLs C W f σ G H ρ α Q
def consL (f : M (List D)) (fs : M (List (List D))) : M (List (List D)) := f >>= fun l => fs >>= fun ls => pure (l :: ls)
theorem OwL.from {H G' H' : Hp} {α1 α' : Nat → List Addr} {H0 : Hp} {α0 : Nat → List Addr} (h : ∀ p, ((∃ i, p ∈ α1 i) ∨ H p = none) → (∃ i, p ∈ α0 i) ∨ H0 p = none) : ∀ {ls : List (List D)} {ps : List Addr}, OwL C G' H' α' H α1 ls ps → OwL C G' H' α' H0 α0 ls ps
  | [], _, k => k
  | l :: ls, _, k => by
    obtain ⟨p, r, rfl, h1, h2, h3, h4, h5, h6⟩ := k
    exact ⟨p, r, rfl, h1, h2, h3, h4, h p h5, OwL.from h h6⟩
theorem OwL.org {G' H' : Hp} {α' : Nat → List Addr} {H0 : Hp} {α0 : Nat → List Addr} : ∀ {ls : List (List D)} {ps : List Addr}, OwL C G' H' α' H0 α0 ls ps → ∀ p ∈ ps, (∃ i, p ∈ α0 i) ∨ H0 p = none
  | [], _, k, p, m => by cases k; exact nomatch m
  | l :: ls, _, k, q, m => by
    obtain ⟨p, r, rfl, h1, h2, h3, h4, h5, h6⟩ := k
    rcases List.mem_cons.mp m with rfl | m
    · exact h5
    · exact OwL.org h6 q m
theorem pls_nil : PA X [] (dLs C W (pure [])) := pa_mono pa_nil fun σ H Q h => by
  obtain ⟨G, ρ, α, w, h⟩ := h
  exact h [] G H α (.refl ..) w rfl
theorem pls_cons {e : Expr} {es : List Expr} {f : M (List D)} {fs : M (List (List D))} (he : PE X e (dL C W f)) (hes : PA X es (dLs C W fs)) (hs : starEach (e :: es) X.env = (false, eval e X.env) :: starEach es X.env := by rfl) : PA X (e :: es) (dLs C W (consL f fs)) :=
  pa_mono (pa_cons he hes hs) fun σ H Q h => by
    obtain ⟨G, ρ, α, w, h⟩ := h
    refine ⟨G, ρ, α, w, ?_⟩
    unfold RnLs consL at h
    unfold RnL
    cases e1 : f ρ with
    | no => rw [bind_no e1] at h; exact h
    | ex c l ρ' => rw [bind_ex e1] at h; exact h
    | ok l ρ1 =>
      rw [bind_ok e1] at h
      intro p xs G1 H1 α1 st1 w1 k1 k2 k3 k4 k5
      refine ⟨G1, ρ1, α1, w1, ?_⟩
      unfold RnLs
      cases e2 : fs ρ1 with
      | no => rw [bind_no e2] at h; exact h
      | ex c m ρ' =>
        rw [bind_ex e2] at h
        exact fun cls dct G' H' α' s w r => h cls dct G' H' α' (st1.trans s) w r
      | ok ls ρ2 =>
        rw [bind_ok e2] at h
        intro ps G2 H2 α2 st2 w2 ow
        obtain ⟨m1, m2, m3⟩ := st2.other k1 k3 k4
        have np : p ∉ ps := fun m => by
          rcases ow.org p m with ⟨i, z⟩ | z
          · exact k4 i z
          · rw [k1] at z; cases z
        exact h (p :: ps) G2 H2 α2 (st1.trans st2) w2 ⟨p, ps, rfl, np, ⟨xs, m1, k2.mono st2.gg⟩, m2, m3, k5, ow.from fun q z => st1.new' z⟩
/-- the tree of such a display -/
def dspT : List (List D) → List Addr → List T
  | l :: ls, p :: ps => .v p l :: dspT ls ps
  | _, _ => []
def okT (ls : List (List D)) (t : T) : Prop := ∃ p ps, ps.length = ls.length ∧ (p :: ps).Nodup ∧ t = .l p (dspT ls ps)
open Classical in
noncomputable def demGo (i : Nat) (ls : List (List D)) (rest : M Fl) : M Fl := fun ρ =>
  if h : (i < ρ.length ∧ ls.length ≤ sizeLine) ∧ ∃ d, ∀ t, okT ls t → ∃ ρ', ρ'.length = ρ.length ∧ rest (ρ.set i (.ow t)) = .ok (.rt d) ρ' then .ok (.rt h.2.choose) (List.replicate ρ.length .un) else .no
noncomputable def demM (i : Nat) (fs : M (List (List D))) (rest : M Fl) : M Fl := fs >>= fun ls => demGo i ls rest
theorem adr_dsp : ∀ {ls : List (List D)} {ps : List Addr}, ps.length = ls.length → adrL (dspT ls ps) = ps
  | [], [], _ => rfl
  | l :: ls, p :: ps, h => by
    show T.adr (.v p l) ++ adrL (dspT ls ps) = _
    rw [adr_dsp (ls := ls) (ps := ps) (by simpa using h)]
    rfl
theorem OwL.len {G H : Hp} {α : Nat → List Addr} {H0 : Hp} {α0 : Nat → List Addr} : ∀ {ls : List (List D)} {ps : List Addr}, OwL C G H α H0 α0 ls ps → ps.length = ls.length
  | [], _, k => by cases k; rfl
  | l :: ls, _, k => by
    obtain ⟨p, r, rfl, _, _, _, _, _, h6⟩ := k
    simp [OwL.len h6]
theorem OwL.nd {G H : Hp} {α : Nat → List Addr} {H0 : Hp} {α0 : Nat → List Addr} : ∀ {ls : List (List D)} {ps : List Addr}, OwL C G H α H0 α0 ls ps → ps.Nodup
  | [], _, k => by cases k; exact List.nodup_nil
  | l :: ls, _, k => by
    obtain ⟨p, r, rfl, h, _, _, _, _, h6⟩ := k
    exact List.nodup_cons.mpr ⟨h, OwL.nd h6⟩
theorem OwL.all {G H : Hp} {α : Nat → List Addr} {H0 : Hp} {α0 : Nat → List Addr} : ∀ {ls : List (List D)} {ps : List Addr}, OwL C G H α H0 α0 ls ps → ∀ p ∈ ps, G p = none ∧ (∃ o, H p = some o) ∧ ∀ i, p ∉ α i
  | [], _, k, p, m => by cases k; exact nomatch m
  | l :: ls, _, k, q, m => by
    obtain ⟨p, r, rfl, h1, ⟨xs, h2, _⟩, h3, h4, h5, h6⟩ := k
    rcases List.mem_cons.mp m with rfl | m
    · exact ⟨h3, ⟨_, h2⟩, h4⟩
    · exact OwL.all h6 q m
theorem OwL.rp {G H H' : Hp} {α : Nat → List Addr} {H0 : Hp} {α0 : Nat → List Addr} : ∀ {ls : List (List D)} {ps : List Addr}, OwL C G H α H0 α0 ls ps → (∀ p ∈ ps, H' p = H p) → RpOL C G H' (dspT ls ps) (ps.map .ref)
  | [], _, k, _ => by cases k; rfl
  | l :: ls, _, k, e => by
    obtain ⟨p, r, rfl, h1, ⟨xs, h2, h2'⟩, h3, h4, h5, h6⟩ := k
    exact ⟨.ref p, r.map .ref, rfl, ⟨xs, rfl, by rw [e p (List.mem_cons_self ..)]; exact h2, h2'⟩, OwL.rp h6 fun q m => e q (List.mem_cons_of_mem _ m)⟩
theorem wf_un {G H G' H' : Hp} {σ : L2.St} {ρ : Ev} {α : Nat → List Addr} {n : Nat} (w : Wf C G H σ ρ α) (hn : ρ.length = n) : Wf C G H σ (List.replicate n .un) noα where
  le := w.le
  len := by rw [List.length_replicate, ← hn]; exact w.len
  sl := fun i x r _ e => by
    rw [List.eq_of_mem_replicate (List.mem_of_getElem? e)]
    rfl
  out := fun _ _ => rfl
  nd := fun _ => List.nodup_nil
  dj := fun _ _ _ m _ => nomatch m
  ng := fun _ _ m => nomatch m
theorem pds_dem {es : List Expr} {fs : M (List (List D))} {rest : M Fl} {sts : List Stmt} {y : Str} {p2 pos pos2 : Pos} (i : Nat) (hN : X.N.Nodup) (ha : PA X es (dLs C W fs)) (hrest : PSs X sts (dS C W rest))
    (hi : X.N[i]? = some y := by rfl) (hx : Loc X.env.scope y := by first | exact Or.inl rfl | exact Or.inr rfl) (hf : X.fn y = true ∨ X.env.scope.names.lookup y = some .local := by first | exact .inl rfl | exact .inr rfl | assumption)
    (hs : swapsWithSole [.Name y p2] (.List es pos) pos2.line X.env = pure false := by rfl) (hw : swappedStores [.Name y p2] (.List es pos) X.env = pure none := by rfl) (h1 : (assignEach [.Name y p2] X.env).map (·.2) = [assign (.Name y p2) X.env] := by rfl) :
    PSs X (.Assign [.Name y p2] (.List es pos) pos2 :: sts) (dS C W (demM i fs rest)) :=
  pss_mono (pss_cons (ps_asg (pe_lst ha) (pg_name (i := i) hN hi hx hf) hs hw h1) hrest) fun E σ H h => by
    obtain ⟨G, ρ, α, w, h⟩ := h
    refine ⟨G, ρ, α, w, ?_⟩
    unfold RnS demM at h
    unfold RnLs
    cases e1 : fs ρ with
    | no => rw [bind_no e1] at h; exact h
    | ex c l ρ' =>
      rw [bind_ex e1] at h
      exact fun cls dct G' H' α' s w r => h cls dct σ G' H' α' s w r
    | ok ls ρ1 =>
      rw [bind_ok e1] at h
      intro ps G1 H1 α1 st1 w1 ow
      by_cases hh : (i < ρ1.length ∧ ls.length ≤ sizeLine) ∧ ∃ d, ∀ t, okT ls t → ∃ ρ', ρ'.length = ρ1.length ∧ rest (ρ1.set i (.ow t)) = .ok (.rt d) ρ'
      case neg =>
        rw [show demGo i ls rest ρ1 = .no from dif_neg hh] at h
        exact h.elim
      case pos =>
        rw [show demGo i ls rest ρ1 = .ok (.rt hh.2.choose) (List.replicate ρ1.length .un) from dif_pos hh] at h
        obtain ⟨⟨hi1, hz⟩, hd⟩ := hh
        refine ⟨by rw [List.length_map, ow.len]; exact hz, fun p n => ?_⟩
        have np : p ∉ ps := fun m => by
          obtain ⟨_, ⟨o, ho⟩, _⟩ := ow.all p m
          rw [n] at ho; cases ho
        have gp : G1 p = none := by
          cases q : G1 p with
          | none => rfl
          | some u => rw [w1.le p u q] at n; cases n
        have ap : ∀ i, p ∉ α1 i := fun i m => by
          obtain ⟨_, o, k⟩ := w1.ng i p m
          rw [n] at k; cases k
        obtain ⟨ρ', hl, e⟩ := Classical.choose_spec hd (.l p (dspT ls ps)) ⟨p, ps, ow.len, List.nodup_cons.mpr ⟨np, ow.nd⟩, rfl⟩
        have adr : T.adr (.l p (dspT ls ps)) = p :: ps := by
          show p :: adrL (dspT ls ps) = _
          rw [adr_dsp ow.len]
        have keep : ∀ q ∈ ps, upd H1 p (.lst (ps.map V.ref)) q = H1 q := fun q m => upd_ne fun z => np (z ▸ m)
        have pd : Pend G1 (upd H1 p (.lst (ps.map V.ref))) α1 (T.adr (.l p (dspT ls ps))) := by
          rw [adr]
          refine ⟨List.nodup_cons.mpr ⟨np, ow.nd⟩, fun a m => ?_⟩
          rcases List.mem_cons.mp m with rfl | m
          · exact ⟨gp, ⟨_, upd_same⟩, ap⟩
          · rw [keep a m]
            exact ow.all a m
        have rv : RpO C G1 (upd H1 p (.lst (ps.map V.ref))) (.l p (dspT ls ps)) (.ref p) := ⟨ps.map .ref, rfl, upd_same, ow.rp keep⟩
        have w2 := (w1.side (o := .lst (ps.map V.ref)) gp ap).setS hi1 (s := .ow (.l p (dspT ls ps))) (v := .ref p) ⟨rfl, _, rfl, rv⟩ pd
        have st2 := (st1.trans ((Step.refl ..).side (o := .lst (ps.map V.ref)) n)).onS (i := i) (as := T.adr (.l p (dspT ls ps))) fun a m => by
          rw [adr] at m
          rcases List.mem_cons.mp m with rfl | m
          · exact st1.new' (.inr n)
          · exact ow.org a m
        refine ⟨G1, _, _, w2, ?_⟩
        unfold RnS
        rw [e]
        intro v σ' G' H' α' st w' r
        have st3 := st2.trans st
        exact h v σ' G' H' noα ⟨st3.gg, st3.hh, st3.fr, (fun _ _ m => nomatch m), st3.fz⟩ (wf_un (G' := G') (H' := H') w' hl) r
end
end Pd

set_option maxHeartbeats 4000000
namespace Pd
open PySem PySem.Spec PyProof.Rows L2
section
variable {C : Ct} {W : WX} {X : Cx} {x : Str} {pos : Pos}
/-! ### numbers and texts of the module -/
theorem pd_gint {i : Int} (h : ∃ t, X.mg x = some (.int i t)) (hg : Gl X x := by rfl) (hd : (x == ("__debug__" : Str)) = false := by decide) : PE X (.Name x pos) (dE C W (pure (.int i))) := by
  obtain ⟨t, e⟩ := h
  exact pd_glob (v := .int i) e ⟨t, rfl⟩ (fun _ => rfl) hg hd
theorem pd_gstr {y : Str} (h : ∃ t, X.mg x = some (.str y t)) (hg : Gl X x := by rfl) (hd : (x == ("__debug__" : Str)) = false := by decide) : PE X (.Name x pos) (dE C W (pure (.str y))) := by
  obtain ⟨t, e⟩ := h
  exact pd_glob (v := .str y) e ⟨t, rfl⟩ (fun _ => rfl) hg hd
end
end Pd

set_option maxHeartbeats 4000000
namespace Pd
open PySem PySem.Spec PyProof.Rows L2
/-! ### texts by their signs -/
abbrev TS (l : List Nat) : Str := SX.S l
def okc (l : List Nat) : Prop := ∀ c ∈ l, c < 0x110000
theorem strOk_S {l : List Nat} (h : okc l) : PyData.strOk (TS l) = true := by
  unfold PyData.strOk
  rw [← Array.all_toList]
  exact List.all_eq_true.mpr fun c hc => decide_eq_true (h c hc)
theorem shaped_str {l : List Nat} (h : okc l) : SeqAt.shaped (.str (TS l)) = true := by
  show (PyData.strOk (TS l) && decide ((PyData.str (TS l)).depth ≤ 64)) = true
  rw [strOk_S h]
  rfl
theorem eqv_str (a b : List Nat) : PyData.eqv (.str (TS a)) (.str (TS b)) = decide (a = b) := by
  have : PyData.eqv (.str (TS a)) (.str (TS b)) = (TS a == TS b) := by simp only [PyData.eqv]
  rw [this, SX.S_beq_eq]
theorem eqD_str {a b : List Nat} (ha : okc a) (hb : okc b) : eqD (.str (TS a)) (.str (TS b)) = some (.bl (decide (a = b))) := by
  simp only [eqD, py, Option.bind_some, shaped_str ha, shaped_str hb, Bool.and_self, if_true, eqv_str]
theorem neD_str {a b : List Nat} (ha : okc a) (hb : okc b) : neD (.str (TS a)) (.str (TS b)) = some (.bl (decide (a ≠ b))) := by
  simp only [neD, py, Option.bind_some, shaped_str ha, shaped_str hb, Bool.and_self, if_true, eqv_str, decide_not]
theorem inD_one (c : Nat) (l : List Nat) : inD (.str (TS [c])) (.str (TS l)) = some (.bl (decide (c ∈ l))) := by
  simp only [inD, SX.in_one]
theorem isND_none : isND .non .non = some (.bl true) := rfl
/-- the comparisons with None -/
def optI : Option Nat → D
  | some n => .int n
  | none => .non
theorem isND_opt (o : Option Nat) : isND (optI o) .non = some (.bl (decide (o = none))) := by cases o <;> rfl

/-! ### a number's text -/
def digs (a : List Nat) : Bool := a.all fun c => decide (48 ≤ c) && decide (c ≤ 57)
def figs (a : List Nat) : Option Nat := if 1 ≤ a.length ∧ a.length ≤ 60 ∧ digs a = true then (if a = [48] ∨ a.head? ≠ some 48 then some (NumText.digitsVal a) else none) else none
noncomputable def dFig : M Fl := (seqM (iteM (Pd.orM (Pd.notM (tst (chnM leD leD (pure (.int 1)) (callM (one lenD) (consM (getv 0) (pure []))) (pure (.int 60))))) (Pd.notM (tst (callM (one allD) (consM (ltM (lcM (iS (getv 0)) (setv 1) (pure true) (op2 inD (getv 1) (pure (.str "0123456789"))) [1])) (pure [])))))) (retM (pure .non)) (pure .nx)) (retM (iteM (Pd.orM (tst (op2 eqD (getv 0) (pure (.str "0")))) (tst (op2 neD (op2 ixD (getv 0) (pure (.int 0))) (pure (.str "0"))))) (callM (one toInt) (consM (getv 0) (pure []))) (pure .non))))
theorem str_figs : ("0123456789" : Str) = TS [48, 49, 50, 51, 52, 53, 54, 55, 56, 57] := by decide +kernel
theorem str_0 : ("0" : Str) = TS [48] := by decide +kernel
theorem str_minus : ("-" : Str) = TS [45] := by decide +kernel
theorem str_comma : ("," : Str) = TS [44] := by decide +kernel
theorem str_e : ("" : Str) = TS [] := by decide +kernel
theorem lenD_S {l : List Nat} (h : l.length ≤ sizeLine) : lenD (.str (TS l)) = some (.int l.length) := by
  unfold lenD
  simp only []
  rw [if_pos (by rw [SX.S_len]; exact h), SX.S_len]
theorem ixD_S {l : List Nat} {i : Nat} {c : Nat} (h : l.length ≤ sizeLine) (e : l[i]? = some c) : ixD (.str (TS l)) (.int (i : Int)) = some (.str (TS [c])) := by
  have hl : i < l.length := (List.getElem?_eq_some_iff.mp e).1
  unfold ixD
  simp only []
  rw [if_pos (by rw [SX.S_len]; exact h)]
  have : atI (TS l).cps.toList (i : Int) = some c := by
    show atI l (i : Int) = some c
    unfold atI
    rw [ixN_of hl]
    exact e
  rw [this]
  rfl
theorem wp_chn {g g' : D → D → Option D} {fa fb fc : M D} {Q : D → Ev → Prop} {E : Str → List D → Ev → Prop} {ρ : Ev} : wp (chnM g g' fa fb fc) Q E ρ = wp fa (fun a => wp fb (fun b ρ' => match g a b with
    | some (.bl true) => wp fc (fun c => wp (opt (g' b c)) Q E) E ρ'
    | some (.bl false) => Q (.bl false) ρ'
    | _ => False) E) E ρ := by
  unfold chnM
  rw [wp_bind]
  congr 1
  funext a ρ1
  rw [wp_bind]
  congr 1
  funext b ρ2
  cases g a b with
  | none => simp only [wp_no]
  | some d =>
    cases d with
    | bl k => cases k <;> simp only [wp_bind, wp_pure]
    | _ => simp only [wp_no]
theorem leD_int {i j : Int} : leD (.int i) (.int j) = some (.bl (decide (i ≤ j))) := rfl
theorem all_fig (l : List Nat) : (l.all fun c => decide (c ∈ [48, 49, 50, 51, 52, 53, 54, 55, 56, 57])) = digs l := by
  unfold digs
  congr 1
  funext c
  rw [Bool.eq_iff_iff, Bool.and_eq_true, decide_eq_true_eq, decide_eq_true_eq, decide_eq_true_eq]
  simp only [List.mem_cons, List.not_mem_nil, or_false]
  omega
theorem fig_wp {a : List Nat} (hok : okc a) (hz : a.length ≤ sizeLine) {x : Slot} {Q : Fl → Ev → Prop} {E : Str → List D → Ev → Prop} (hQ : ∀ ρ', Q (.rt (optI (figs a))) ρ') : wp dFig Q E [.va (.str (TS a)), x] := by
  have key : ∀ x : Slot, (1 ≤ a.length ∧ a.length ≤ 60 ∧ digs a = true) → wp (retM (iteM (Pd.orM (tst (op2 eqD (getv 0) (pure (.str "0")))) (tst (op2 neD (op2 ixD (getv 0) (pure (.int 0))) (pure (.str "0"))))) (callM (one toInt) (consM (getv 0) (pure []))) (pure .non))) Q E [.va (.str (TS a)), x] := by
    intro x hh
    obtain ⟨h1, h2, h3⟩ := hh
    have ho : okc [48] := by intro c hc; rw [List.mem_singleton.mp hc]; decide
    have hto : one toInt [.str (TS a)] = some (.int (NumText.digitsVal a : Nat)) := by
      show (PySem.intText? (TS a)).bind _ = _
      rw [SX.int_S h3 (fun e => by rw [e] at h1; exact absurd h1 (by decide)) (by omega)]
      show (if (TS a).length ≤ 640 then _ else none) = _
      rw [if_pos (by rw [SX.S_len]; omega)]
    rw [wp_retM, wp_iteM, wp_orM, wp_tst, wp_op2, wp_getv rfl, wp_pure, str_0, eqD_str hok ho, wp_some]
    by_cases c1 : a = [48]
    · simp only [c1, decide_true, if_true]
      rw [c1] at hto hQ
      rw [wp_callM, wp_cons, wp_getv rfl, wp_pure, hto, wp_some]
      exact hQ _
    · simp only [c1, decide_false, Bool.false_eq_true, if_false]
      cases a with
      | nil => exact absurd h1 (by decide)
      | cons d r =>
        rw [wp_tst, wp_op2, wp_op2, wp_getv rfl, wp_pure, show (0 : Int) = ((0 : Nat) : Int) from rfl, ixD_S (c := d) hz rfl, wp_some, wp_pure, neD_str (fun c hc => hok c (by rw [List.mem_singleton.mp hc]; exact List.mem_cons_self ..)) ho, wp_some]
        by_cases c2 : d = 48
        · rw [show decide ([d] ≠ [48]) = false by rw [c2]; rfl]
          simp only [Bool.false_eq_true, if_false]
          rw [wp_pure]
          have : figs (d :: r) = none := by
            unfold figs
            rw [if_pos ⟨h1, h2, h3⟩, if_neg]
            rintro (h | h)
            · exact c1 h
            · exact h (by rw [c2]; rfl)
          rw [this] at hQ
          exact hQ _
        · rw [show decide ([d] ≠ [48]) = true by simp [c2]]
          simp only [if_true]
          rw [wp_callM, wp_cons, wp_getv rfl, wp_pure, hto, wp_some]
          have : figs (d :: r) = some (NumText.digitsVal (d :: r)) := by
            unfold figs
            rw [if_pos ⟨h1, h2, h3⟩, if_pos]
            exact .inr (by simp [c2])
          rw [this] at hQ
          exact hQ _
  have bad : ¬(1 ≤ a.length ∧ a.length ≤ 60 ∧ digs a = true) → figs a = none := fun h => if_neg h
  unfold dFig
  rw [wp_seq, wp_iteM, wp_orM, wp_notM, wp_tst, wp_chn, wp_pure, wp_callM, wp_cons, wp_getv rfl, wp_pure, show one lenD [.str (TS a)] = some (.int a.length) from lenD_S hz, wp_some, leD_int]
  by_cases c1 : (1 : Int) ≤ a.length
  · rw [decide_eq_true c1]
    simp only []
    rw [wp_pure, leD_int, wp_some]
    by_cases c2 : (a.length : Int) ≤ 60
    · simp only [c2, decide_true, Bool.not_true, Bool.false_eq_true, if_false]
      rw [wp_notM, wp_tst, wp_callM, wp_cons]
      unfold ltM
      rw [wp_bind, wp_lcM, wp_bind, wp_getv rfl, show signs (.str (TS a)) = some (a.map fun c => .str (TS [c])) by
        unfold signs
        first | rfl | (rw [if_pos (by rw [SX.S_len]; exact hz)])]
      rw [wp_some]
      refine wp_lc (I := fun l acc ρ => ∃ (p q : List Nat) (y : Slot), a = p ++ q ∧ l = q.map (fun c => .str (TS [c])) ∧ acc = (p.map fun c => .bl (decide (c ∈ [48, 49, 50, 51, 52, 53, 54, 55, 56, 57]))) ∧ ρ = [.va (.str (TS a)), y]) ⟨[], a, x, rfl, rfl, rfl, rfl⟩ ?_ ?_
      · rintro acc ρ ⟨p, q, y, e, hl, rfl, rfl⟩
        have : q = [] := List.map_eq_nil_iff.mp hl.symm
        subst this
        rw [List.append_nil] at e
        subst e
        rw [wp_pure, wp_pure]
        have hal : one allD [.lst (a.map fun c => .bl (decide (c ∈ [48, 49, 50, 51, 52, 53, 54, 55, 56, 57])))] = some (.bl (digs a)) := by
          show (asBls _).map _ = _
          rw [show (a.map fun c => D.bl (decide (c ∈ [48, 49, 50, 51, 52, 53, 54, 55, 56, 57]))) = (a.map fun c => decide (c ∈ [48, 49, 50, 51, 52, 53, 54, 55, 56, 57])).map D.bl by rw [List.map_map]; rfl, asBls_map, Option.map_some, List.all_map, ← all_fig]
          rfl
        rw [hal, wp_some]
        simp only []
        have eb : ∀ y, ∃ y2, backE [.va (.str (TS a)), x] [.va (.str (TS a)), y] [1] = [.va (.str (TS a)), y2] := fun y => ⟨_, rfl⟩
        obtain ⟨y2, eb⟩ := eb y
        rw [eb]
        by_cases c3 : digs a = true
        · simp only [c3, Bool.not_true, Bool.false_eq_true, if_false]
          rw [wp_pure]
          exact key _ ⟨by omega, by omega, c3⟩
        · simp only [Bool.not_eq_true] at c3
          simp only [c3, Bool.not_false, if_true]
          rw [wp_retM, wp_pure]
          rw [bad (by rw [c3]; simp)] at hQ
          exact hQ _
      · rintro d l acc ρ ⟨p, q, y, e, hl, rfl, rfl⟩
        cases q with
        | nil => simp at hl
        | cons c q =>
          simp only [List.map_cons, List.cons.injEq] at hl
          obtain ⟨rfl, rfl⟩ := hl
          rw [show wipeE [.va (.str (TS a)), y] [1] = [.va (.str (TS a)), .un] from rfl, wp_setv]
          refine ⟨by simp, ?_⟩
          simp only [List.set_cons_succ, List.set_cons_zero]
          rw [wp_pure]
          simp only [if_true]
          rw [wp_op2, wp_getv rfl, wp_pure, str_figs, inD_one, wp_some]
          refine ⟨?_, p ++ [c], q, _, by rw [e]; simp, rfl, ?_, rfl⟩
          · rw [List.length_map]
            have := congrArg List.length e
            rw [List.length_append, List.length_cons] at this
            omega
          · rw [List.map_append]
            rfl
    · simp only [c2, decide_false, Bool.not_false, if_true]
      rw [wp_retM, wp_pure]
      rw [bad (by omega)] at hQ
      exact hQ _
  · rw [decide_eq_false c1]
    simp only [Bool.not_false, if_true]
    rw [wp_retM, wp_pure]
    rw [bad (by omega)] at hQ
    exact hQ _
end Pd

set_option maxHeartbeats 4000000
namespace Pd
open PySem PySem.Spec PyProof.Rows L2
section
variable {β : Type} {E : Str → List D → Ev → Prop} {ρ : Ev}
theorem wp_m1M {g : D → D → Option D} {fa fb : M D} {Q : D → Ev → Prop} : wp (m1M g fa fb) Q E ρ = wp fa (fun a ρ' => match a with
    | .str z => wp fb (fun b => wp (opt (g (.str z) b)) Q E) E ρ'
    | _ => False) E ρ := by
  unfold m1M
  rw [wp_bind]
  congr 1
  funext a ρ'
  cases a <;> simp only [wp_bind, wp_no]
theorem wp_gnil {Q : Unit → Ev → Prop} : wp (gnil []) Q E ρ = Q () ρ := by
  unfold gnil
  rw [wp_pure]
theorem wp_gcons {b : D → M Unit} {bs : List D → M Unit} {d : D} {l : List D} {Q : Unit → Ev → Prop} : wp (gcons b bs (d :: l)) Q E ρ = wp (b d) (fun _ => wp (bs l) Q E) E ρ := by
  unfold gcons
  rw [wp_bind]
theorem wp_gtup {bs : List D → M Unit} {l : List D} {Q : Unit → Ev → Prop} : wp (gtup bs (.tup l)) Q E ρ = wp (bs l) Q E ρ := rfl
theorem wp_asgM {f : M D} {bt : D → M Unit} {Q : Fl → Ev → Prop} : wp (asgM f bt) Q E ρ = wp f (fun d => wp (bindT bt d) Q E) E ρ := by
  unfold asgM
  rw [wp_bind]
theorem wp_bindT {bt : D → M Unit} {d : D} {Q : Fl → Ev → Prop} (h : wp (bt d) (fun _ => Q .nx) (fun _ _ _ => False) ρ) : wp (bindT bt d) Q E ρ := by
  obtain ⟨u, ρ', e, h⟩ := wp_ok h
  refine wp_of (b := .nx) (ρ' := ρ') ?_ h
  unfold bindT
  rw [e]
theorem wp_par2 {i j : Nat} {f g : M Slot} {Q : Fl → Ev → Prop} : wp (par2M i j f g) Q E ρ = wp f (fun s => wp g (fun t ρ' => i < ρ'.length ∧ j < ρ'.length ∧ Q .nx ((ρ'.set i s).set j t)) E) E ρ := by
  unfold par2M
  rw [wp_bind]
  congr 1
  funext s ρ1
  rw [wp_bind]
  congr 1
  funext t ρ2
  rw [wp_bind]
  have e : ∀ (k : Nat) (s : Slot) (ρ : Ev) (Q : Unit → Ev → Prop), wp (setS k s) Q E ρ = (k < ρ.length ∧ Q () (ρ.set k s)) := by
    intro k s ρ Q
    unfold wp setS
    by_cases h : k < ρ.length
    · rw [if_pos h]; simp [h]
    · rw [if_neg h]; simp [h]
  rw [e]
  congr 1
  rw [wp_bind, e, List.length_set, wp_pure]
theorem wp_mkM {c : Str} {f : M D} {Q : Fl → Ev → Prop} : wp (mkM c f) Q E ρ = wp f (fun d ρ' => E c [d] ρ') E ρ := by
  unfold mkM
  rw [wp_bind]
  congr 1
  funext d ρ'
  unfold wp
  rfl
theorem wp_dsp {f : M (List D)} {Q : List D → Ev → Prop} : wp (dspL f) Q E ρ = wp f (fun l ρ' => l.length ≤ sizeLine ∧ Q l ρ') E ρ := by
  unfold dspL
  rw [wp_bind]
  congr 1
  funext l ρ'
  rw [wp_bnd, wp_pure]
theorem wp_tupM {f : M (List D)} {Q : D → Ev → Prop} : wp (tupM f) Q E ρ = wp f (fun l ρ' => l.length ≤ sizeLine ∧ Q (.tup l) ρ') E ρ := by
  unfold tupM
  rw [wp_bind]
  congr 1
  funext l ρ'
  rw [wp_bnd, wp_pure]
theorem wp_lstM {f : M (List D)} {Q : D → Ev → Prop} : wp (lstM f) Q E ρ = wp f (fun l ρ' => l.length ≤ sizeLine ∧ Q (.lst l) ρ') E ρ := by
  unfold lstM
  rw [wp_bind]
  congr 1
  funext l ρ'
  rw [wp_bnd, wp_pure]
theorem wp_rovL {i : Nat} {l : List D} {Q : Fl → Ev → Prop} (h : ρ[i]? = some (.ls l)) : wp (rovM i) Q E ρ = Q (.ro l) (ρ.set i .un) := by
  unfold wp rovM
  rw [h]
theorem wp_owA {i : Nat} {l : List D} {fa : M (List D)} {d : D} {ρ' : Ev} {Q : D → Ev → Prop} (h : ρ[i]? = some (.ls l)) (e : fa ρ = .ok [d] ρ') (h' : ρ'[i]? = some (.ls l)) (hz : l.length < sizeLine) (k : Q .non (ρ'.set i (.ls (l ++ [d])))) : wp (owM i apD fa) Q E ρ := by
  refine wp_of (b := .non) (ρ' := ρ'.set i (.ls (l ++ [d]))) ?_ k
  unfold owM
  rw [if_pos (by unfold hasL; rw [h]; rfl), bind_ok e]
  unfold owGo
  rw [h']
  simp only [ownL, apD]
  rw [if_pos hz]
  rfl
end
theorem peekI {Q : D → Ev → Prop} {E : Str → List D → Ev → Prop} {ρ : Ev} {f : M D} {x : D} (e : ∃ ρ', f (frz ρ) = .ok x ρ') (hs : scalar x = true) (k : Q x ρ) : wp (peek f) Q E ρ := by
  obtain ⟨ρ', e⟩ := e
  exact wp_of (peek_of e hs) k

/-! ### a stretch, a set: what the readers give -/
def parM (a : List Nat) : List Nat × Bool × List Nat := match TL.par [45] [] a with
  | some (p, q) => (p, true, q)
  | none => (a, false, [])
def strFin (mark : Bool) (f l before : Option Nat) : Option (Nat × Nat) := match f, l with
  | some f, some l => if 10 ^ 30 ≤ l ∨ (mark = true ∧ l ≤ f) then none else (match before with
    | none => some (f, l)
    | some b => if b + 1 < f then some (f, l) else none)
  | _, _ => none
def strt (a : List Nat) (before : Option Nat) : Option (Nat × Nat) := strFin (parM a).2.1 (figs (parM a).1) (if (parM a).2.1 = true then figs (parM a).2.2 else figs (parM a).1) before
def spanD (s : Nat × Nat) : D := .tup [.int s.1, .int s.2]
def optS : Option (Nat × Nat) → D
  | some s => spanD s
  | none => .non
noncomputable def dStr : M Fl := (seqM (asgM (m1M partitionD (getv 0) (pure (.str "-"))) (gtup (gcons (setv 2) (gcons (setv 3) (gcons (setv 4) gnil))))) (seqM (letM 5 (vaM (callG 2 1 dFig (consM (getv 2) (pure []))))) (seqM (letM 6 (vaM (iteM (tst (op2 eqD (getv 3) (pure (.str "-")))) (callG 2 1 dFig (consM (getv 4) (pure []))) (getv 5)))) (seqM (iteM (Pd.orM (tst (op2 isND (getv 5) (pure .non))) (Pd.orM (tst (op2 isND (getv 6) (pure .non))) (Pd.orM (tst (op2 geD (getv 6) (pure (.int 1000000000000000000000000000000)))) (Pd.andM (tst (op2 eqD (getv 3) (pure (.str "-")))) (tst (op2 geD (getv 5) (getv 6))))))) (retM (pure .non)) (pure .nx)) (retM (iteM (Pd.orM (tst (op2 isND (getv 1) (pure .non))) (tst (op2 gtD (getv 5) (op2 addD (getv 1) (pure (.int 1)))))) (tupM (consM (getv 5) (consM (getv 6) (pure [])))) (pure .non)))))))
theorem par_sub {S a acc p q : List Nat} (hS : S ≠ []) : TL.par S acc a = some (p, q) → ∃ m, p = acc ++ m ∧ a = m ++ (S ++ q) := by
  induction a generalizing acc with
  | nil => intro h; cases h
  | cons c r ih =>
    intro h
    by_cases hp : TL.pre S (c :: r) = true
    · rw [TL.par_hit hp] at h
      cases h
      refine ⟨[], by simp, ?_⟩
      unfold TL.pre at hp
      rw [beq_iff_eq] at hp
      have := List.take_append_drop S.length (c :: r)
      rw [hp] at this
      exact this.symm
    · rw [TL.par_miss (by simpa using hp)] at h
      obtain ⟨m, h1, h2⟩ := ih h
      exact ⟨c :: m, by rw [h1]; simp, by rw [h2]; rfl⟩
theorem okc_app {a b : List Nat} : okc (a ++ b) ↔ okc a ∧ okc b := by
  unfold okc
  constructor
  · intro h
    exact ⟨fun c hc => h c (List.mem_append_left _ hc), fun c hc => h c (List.mem_append_right _ hc)⟩
  · rintro ⟨h1, h2⟩ c hc
    rcases List.mem_append.mp hc with h | h
    · exact h1 c h
    · exact h2 c h
theorem ok45 : okc [45] := by intro c hc; rw [List.mem_singleton.mp hc]; decide
theorem ok44 : okc [44] := by intro c hc; rw [List.mem_singleton.mp hc]; decide
theorem ok0 : okc [] := by intro c hc; cases hc
theorem isND_i {i : Int} : isND (.int i) .non = some (.bl false) := rfl
theorem str_wp {a : List Nat} (hok : okc a) (hz : a.length ≤ sizeLine) (before : Option Nat) {x2 x3 x4 x5 x6 : Slot} {Q : Fl → Ev → Prop} {E : Str → List D → Ev → Prop} (hQ : ∀ ρ', Q (.rt (optS (strt a before))) ρ') :
    wp dStr Q E [.va (.str (TS a)), .va (optI before), x2, x3, x4, x5, x6] := by
  -- the three parts
  obtain ⟨p, mark, q, hp, hpar, okp, okq, hzp, hzq⟩ : ∃ (p : List Nat) (mark : Bool) (q : List Nat), parM a = (p, mark, q) ∧
      Txt.partition (TS a) (TS [45]) = (TS p, TS (if mark = true then [45] else []), TS q) ∧ okc p ∧ okc q ∧ p.length ≤ sizeLine ∧ q.length ≤ sizeLine := by
    unfold parM
    cases e : TL.par [45] [] a with
    | none => exact ⟨a, false, [], rfl, SX.partition_none (by decide) e, hok, ok0, hz, Nat.zero_le _⟩
    | some pq =>
      obtain ⟨p, q⟩ := pq
      obtain ⟨m, h1, h2⟩ := par_sub (by decide) e
      rw [List.nil_append] at h1
      subst h1
      rw [h2] at hok hz
      obtain ⟨o1, o2⟩ := okc_app.mp hok
      obtain ⟨_, o3⟩ := okc_app.mp o2
      rw [List.length_append, List.length_append] at hz
      exact ⟨p, true, q, rfl, SX.partition_some (by decide) e, o1, o3, by omega, by omega⟩
  have hm : okc (if mark = true then [45] else []) := by
    cases mark
    · exact ok0
    · exact ok45
  have hs : strt a before = strFin mark (figs p) (if mark = true then figs q else figs p) before := by
    unfold strt
    rw [hp]
  rw [hs] at hQ
  clear hs hp
  unfold dStr
  rw [wp_seq, wp_asgM, wp_m1M, wp_getv rfl]
  simp only []
  rw [wp_pure, str_minus, show partitionD (.str (TS a)) (.str (TS [45])) = some (.tup [.str (TS p), .str (TS (if mark = true then [45] else [])), .str (TS q)]) by
    unfold partitionD
    simp only []
    rw [if_pos ⟨by decide, by rw [SX.S_len]; exact hz⟩, hpar], wp_some]
  refine wp_bindT ?_
  rw [wp_gtup, wp_gcons, wp_setv]
  refine ⟨by simp, ?_⟩
  simp only [List.set_cons_succ, List.set_cons_zero]
  rw [wp_gcons, wp_setv]
  refine ⟨by simp, ?_⟩
  simp only [List.set_cons_succ, List.set_cons_zero]
  rw [wp_gcons, wp_setv]
  refine ⟨by simp, ?_⟩
  simp only [List.set_cons_succ, List.set_cons_zero]
  rw [wp_gnil, wp_seq, wp_letM, wp_vaM, wp_callG, wp_cons, wp_getv rfl, wp_pure]
  refine wp_callF rfl (fig_wp (x := .un) okp hzp fun ρ' => ⟨_, .inl rfl, ?_⟩)
  refine ⟨by simp, ?_⟩
  simp only [List.set_cons_succ, List.set_cons_zero]
  rw [wp_seq, wp_letM, wp_vaM, wp_iteM, wp_tst, wp_op2, wp_getv rfl, wp_pure, eqD_str hm ok45, wp_some]
  have hmk : decide ((if mark = true then [45] else [] : List Nat) = [45]) = mark := by cases mark <;> rfl
  rw [hmk]
  have fin : ∀ l : Option Nat, l = (if mark = true then figs q else figs p) → wp (seqM (iteM (Pd.orM (tst (op2 isND (getv 5) (pure .non))) (Pd.orM (tst (op2 isND (getv 6) (pure .non))) (Pd.orM (tst (op2 geD (getv 6) (pure (.int 1000000000000000000000000000000)))) (Pd.andM (tst (op2 eqD (getv 3) (pure (.str (TS [45]))))) (tst (op2 geD (getv 5) (getv 6))))))) (retM (pure .non)) (pure .nx)) (retM (iteM (Pd.orM (tst (op2 isND (getv 1) (pure .non))) (tst (op2 gtD (getv 5) (op2 addD (getv 1) (pure (.int 1)))))) (tupM (consM (getv 5) (consM (getv 6) (pure [])))) (pure .non)))) Q E
      [.va (.str (TS a)), .va (optI before), .va (.str (TS p)), .va (.str (TS (if mark = true then [45] else []))), .va (.str (TS q)), .va (optI (figs p)), .va (optI l)] := by
    intro l hl
    rw [← hl] at hQ
    unfold strFin at hQ
    rw [wp_seq, wp_iteM, wp_orM, wp_tst, wp_op2, wp_getv rfl, wp_pure, isND_opt, wp_some]
    cases hf : figs p with
    | none =>
      rw [hf] at hQ
      simp only [decide_true, if_true]
      rw [wp_retM, wp_pure]
      exact hQ _
    | some f =>
      rw [hf] at hQ
      simp only [reduceCtorEq, decide_false, Bool.false_eq_true, if_false]
      rw [wp_orM, wp_tst, wp_op2, wp_getv rfl, wp_pure, isND_opt, wp_some]
      cases l with
      | none =>
        simp only [decide_true, if_true]
        rw [wp_retM, wp_pure]
        exact hQ _
      | some l =>
        simp only [reduceCtorEq, decide_false, Bool.false_eq_true, if_false]
        rw [wp_orM, wp_tst, wp_op2, wp_getv rfl, wp_pure, show geD (optI (some l)) (.int 1000000000000000000000000000000) = some (.bl (decide ((1000000000000000000000000000000 : Int) ≤ (l : Int)))) from rfl, wp_some]
        simp only [] at hQ
        by_cases c1 : (1000000000000000000000000000000 : Int) ≤ (l : Int)
        · rw [if_pos (.inl (by omega))] at hQ
          simp only [c1, decide_true, if_true]
          rw [wp_retM, wp_pure]
          exact hQ _
        · simp only [c1, decide_false, Bool.false_eq_true, if_false]
          rw [wp_andM, wp_tst, wp_op2, wp_getv rfl, wp_pure, eqD_str hm ok45, wp_some, hmk]
          have go : ¬ (10 ^ 30 ≤ l ∨ (mark = true ∧ l ≤ f)) → wp (retM (iteM (Pd.orM (tst (op2 isND (getv 1) (pure .non))) (tst (op2 gtD (getv 5) (op2 addD (getv 1) (pure (.int 1)))))) (tupM (consM (getv 5) (consM (getv 6) (pure [])))) (pure .non))) Q E
              [.va (.str (TS a)), .va (optI before), .va (.str (TS p)), .va (.str (TS (if mark = true then [45] else []))), .va (.str (TS q)), .va (optI (some f)), .va (optI (some l))] := by
            intro hn
            rw [if_neg hn] at hQ
            rw [wp_retM, wp_iteM, wp_orM, wp_tst, wp_op2, wp_getv rfl, wp_pure, isND_opt, wp_some]
            have tup : (∀ ρ', Q (.rt (optS (some (f, l)))) ρ') → wp (tupM (consM (getv 5) (consM (getv 6) (pure [])))) (fun d => Q (.rt d)) E [.va (.str (TS a)), .va (optI before), .va (.str (TS p)), .va (.str (TS (if mark = true then [45] else []))), .va (.str (TS q)), .va (optI (some f)), .va (optI (some l))] := by
              intro h
              rw [wp_tupM, wp_cons, wp_getv rfl, wp_cons, wp_getv rfl, wp_pure]
              exact ⟨by show (2 : Nat) ≤ _; unfold sizeLine; decide, h _⟩
            cases before with
            | none =>
              simp only [decide_true, if_true]
              exact tup hQ
            | some b =>
              simp only [reduceCtorEq, decide_false, Bool.false_eq_true, if_false]
              rw [wp_tst, wp_op2, wp_getv rfl, wp_op2, wp_getv rfl, wp_pure, show optI (some b) = .int b from rfl, wp_add, show gtD (optI (some f)) (.int ((b : Int) + 1)) = some (.bl (decide ((b : Int) + 1 < (f : Int)))) from rfl, wp_some]
              simp only [] at hQ
              by_cases c2 : (b : Int) + 1 < (f : Int)
              · rw [if_pos (by omega)] at hQ
                simp only [c2, decide_true, if_true]
                exact tup hQ
              · rw [if_neg (by omega)] at hQ
                simp only [c2, decide_false, Bool.false_eq_true, if_false]
                rw [wp_pure]
                exact hQ _
          cases mark with
          | false =>
            simp only [Bool.false_eq_true, if_false]
            rw [wp_pure]
            exact go (by simp; omega)
          | true =>
            simp only [if_true]
            rw [wp_tst, wp_op2, wp_getv rfl, wp_getv rfl, show geD (optI (some f)) (optI (some l)) = some (.bl (decide ((l : Int) ≤ (f : Int)))) from rfl, wp_some]
            by_cases c2 : (l : Int) ≤ (f : Int)
            · rw [if_pos (.inr ⟨rfl, by omega⟩)] at hQ
              simp only [c2, decide_true, if_true]
              rw [wp_retM, wp_pure]
              exact hQ _
            · simp only [c2, decide_false, Bool.false_eq_true, if_false]
              rw [wp_pure]
              exact go (by rintro (h | h); exact c1 (by omega); exact c2 (by omega))
  cases mark with
  | true =>
    simp only [if_true]
    rw [wp_callG, wp_cons, wp_getv rfl, wp_pure]
    refine wp_callF rfl (fig_wp (x := .un) okq hzq fun ρ' => ⟨_, .inl rfl, ?_⟩)
    refine ⟨by simp, ?_⟩
    simp only [List.set_cons_succ, List.set_cons_zero]
    exact fin (figs q) rfl
  | false =>
    simp only [Bool.false_eq_true, if_false]
    rw [wp_getv rfl]
    refine ⟨by simp, ?_⟩
    simp only [List.set_cons_succ, List.set_cons_zero]
    exact fin (figs p) rfl
end Pd

set_option maxHeartbeats 4000000
namespace Pd
open PySem PySem.Spec PyProof.Rows L2
def rdGo : List (List Nat) → Nat → Option Nat → List (Nat × Nat) → Except Nat (List (Nat × Nat))
  | [], _, _, acc => .ok acc
  | w :: ws, k, b, acc => match strt w b with
    | none => .error k
    | some s => if k = 12 then .error k else rdGo ws (k + 1) (some s.2) (acc ++ [s])
def rdSet (a : List Nat) : Except Nat (List (Nat × Nat)) := match TL.spl [44] 0 [] a with
  | [] => .ok []
  | w :: ws => if w = [45] then (if ws = [] then .ok [] else .error 1) else rdGo (w :: ws) 0 none []
theorem spl_mem {S : List Nat} : ∀ {a : List Nat} {k : Nat} {acc w : List Nat}, w ∈ TL.spl S k acc a → (∀ c ∈ w, c ∈ acc ∨ c ∈ a) ∧ w.length ≤ acc.length + a.length
  | [], k, acc, w, h => by
    rw [TL.spl_nil] at h
    rw [List.mem_singleton.mp h]
    exact ⟨fun c hc => .inl hc, by simp⟩
  | c :: r, 0, acc, w, h => by
    by_cases hp : TL.pre S (c :: r) = true
    · rw [TL.spl_hit hp] at h
      rcases List.mem_cons.mp h with rfl | h
      · exact ⟨fun c hc => .inl hc, by simp⟩
      · obtain ⟨h1, h2⟩ := spl_mem h
        refine ⟨fun d hd => ?_, by simp at h2 ⊢; omega⟩
        rcases h1 d hd with h | h
        · cases h
        · exact .inr (List.mem_cons_of_mem _ h)
    · rw [TL.spl_miss (by simpa using hp)] at h
      obtain ⟨h1, h2⟩ := spl_mem h
      refine ⟨fun d hd => ?_, by simp at h2 ⊢; omega⟩
      rcases h1 d hd with h | h
      · rcases List.mem_append.mp h with h | h
        · exact .inl h
        · exact .inr (by rw [List.mem_singleton.mp h]; exact List.mem_cons_self ..)
      · exact .inr (List.mem_cons_of_mem _ h)
  | c :: r, k + 1, acc, w, h => by
    obtain ⟨h1, h2⟩ := spl_mem (show w ∈ TL.spl S k acc r from h)
    refine ⟨fun d hd => ?_, by simp at h2 ⊢; omega⟩
    rcases h1 d hd with h | h
    · exact .inl h
    · exact .inr (List.mem_cons_of_mem _ h)
theorem spl_ne {S : List Nat} : ∀ {a : List Nat} {k : Nat} {acc : List Nat}, TL.spl S k acc a ≠ []
  | [], k, acc => by rw [TL.spl_nil]; simp
  | c :: r, 0, acc => by
    by_cases hp : TL.pre S (c :: r) = true
    · rw [TL.spl_hit hp]; simp
    · rw [TL.spl_miss (by simpa using hp)]; exact spl_ne
  | c :: r, k + 1, acc => spl_ne (a := r) (k := k) (acc := acc)
noncomputable def dRset : M Fl := (seqM (letM 1 (vaM (m1M splitD (getv 0) (pure (.str ","))))) (seqM (iteM (tst (op2 eqD (op2 ixD (getv 1) (pure (.int 0))) (pure (.str "-")))) (seqM (iteM (tst (op2 gtD (callM (one lenD) (consM (getv 1) (pure []))) (pure (.int 1)))) (mkM "InvalidText" (pure (.int 1))) (pure .nx)) (retoM (dspL (pure [])))) (pure .nx)) (seqM (par2M 2 3 (lsM (dspL (pure []))) (vaM (pure .non))) (seqM (forM (iEn (consM (getv 1) (pure []))) (gtup (gcons (setv 4) (gcons (setv 5) gnil))) (seqM (letM 6 (vaM (callG 7 2 dStr (consM (getv 5) (consM (getv 3) (pure [])))))) (seqM (iteM (Pd.orM (tst (op2 isND (getv 6) (pure .non))) (tst (op2 eqD (getv 4) (pure (.int 12))))) (mkM "InvalidText" (getv 4)) (pure .nx)) (seqM (dropM (owM 2 apD (consM (getv 6) (pure [])))) (letM 3 (vaM (op2 ixD (getv 6) (pure (.int 1))))))))) (rovM 2)))))
def setEnd (r : Except Nat (List (Nat × Nat))) (Q : Fl → Ev → Prop) (E : Str → List D → Ev → Prop) (ρ : Ev) : Prop := match r with
  | .ok sp => Q (.ro (sp.map spanD)) ρ
  | .error k => E "InvalidText" [.int k] ρ
theorem rset_wp {a : List Nat} (hok : okc a) (hz : a.length + 2 ≤ sizeLine) {x1 x2 x3 x4 x5 x6 : Slot} {Q : Fl → Ev → Prop} {E : Str → List D → Ev → Prop} (hQ : ∀ ρ', setEnd (rdSet a) Q E ρ') :
    wp dRset Q E [.va (.str (TS a)), x1, x2, x3, x4, x5, x6] := by
  have hw : ∀ w ∈ TL.spl [44] 0 [] a, okc w ∧ w.length ≤ sizeLine := fun w hm => by
    obtain ⟨h1, h2⟩ := spl_mem hm
    refine ⟨fun c hc => ?_, by simp at h2; omega⟩
    rcases h1 c hc with h | h
    · cases h
    · exact hok c h
  unfold rdSet at hQ
  unfold dRset
  rw [wp_seq, wp_letM, wp_vaM, wp_m1M, wp_getv rfl]
  simp only []
  rw [wp_pure, str_comma, show splitD (.str (TS a)) (.str (TS [44])) = some (.lst ((TL.spl [44] 0 [] a).map fun w => .str (TS w))) by
    unfold splitD
    simp only []
    rw [if_pos ⟨by decide, by rw [SX.S_len]; exact hz⟩, SX.split_S (by decide) (by decide), List.map_map]
    rfl, wp_some]
  refine ⟨by simp, ?_⟩
  simp only [List.set_cons_succ, List.set_cons_zero]
  generalize hws : TL.spl [44] 0 [] a = words at *
  cases words with
  | nil => exact absurd hws spl_ne
  | cons w ws =>
    rw [wp_seq, wp_iteM, wp_tst, wp_op2, wp_op2, wp_getv rfl, wp_pure, show ixD (.lst ((w :: ws).map fun w => .str (TS w))) (.int 0) = some (.str (TS w)) by
      unfold ixD
      simp only []
      rw [show (0 : Int) = ((0 : Nat) : Int) from rfl]
      unfold atI
      rw [ixN_of (by simp)]
      rfl, wp_some, wp_pure, str_minus, eqD_str (hw w (List.mem_cons_self ..)).1 ok45, wp_some]
    simp only [] at hQ
    by_cases c1 : w = [45]
    · rw [if_pos c1] at hQ
      simp only [c1, decide_true, if_true]
      rw [wp_seq, wp_iteM, wp_tst, wp_op2, wp_callM, wp_cons, wp_getv rfl, wp_pure, show ∀ l : List D, one lenD [.lst l] = some (.int (l.length : Int)) from fun _ => rfl, wp_some, wp_pure]
      rw [show ∀ n : Int, gtD (.int n) (.int 1) = some (.bl (decide (1 < n))) from fun _ => rfl, wp_some]
      by_cases c2 : ws = []
      · rw [if_pos c2] at hQ
        subst c2
        rw [show decide ((1 : Int) < (([[45]].map fun w : List Nat => D.str (TS w)).length : Int)) = false from rfl]
        simp only [Bool.false_eq_true, if_false]
        rw [wp_pure]
        simp only []
        rw [wp_retoM, wp_dsp, wp_pure]
        exact ⟨Nat.zero_le _, hQ _⟩
      · rw [if_neg c2] at hQ
        have : (1 : Int) < ((([45] :: ws).map fun w : List Nat => D.str (TS w)).length : Int) := by
          rw [List.length_map, List.length_cons]
          have : 0 < ws.length := List.length_pos_iff.mpr c2
          omega
        rw [decide_eq_true this]
        simp only [if_true]
        rw [wp_mkM, wp_pure]
        exact hQ _
    · rw [if_neg c1] at hQ
      simp only [c1, decide_false, Bool.false_eq_true, if_false]
      rw [wp_pure]
      simp only []
      rw [wp_seq, wp_par2, wp_lsM, wp_dsp, wp_pure]
      refine ⟨Nat.zero_le _, ?_⟩
      rw [wp_vaM, wp_pure]
      refine ⟨by simp, by simp, ?_⟩
      simp only [List.set_cons_succ, List.set_cons_zero]
      rw [wp_seq, wp_forM, wp_bind, wp_cons, wp_getv rfl, wp_pure]
      rw [show ∀ l : List D, enum1 [.lst l] = some (enumL l) from fun _ => rfl, wp_some]
      generalize hres : rdGo (w :: ws) 0 none [] = res at hQ
      refine wp_for (I := fun l ρ => ∃ (vs : List (List Nat)) (k : Nat) (b : Option Nat) (acc : List (Nat × Nat)) (y4 y5 y6 : Slot), l = (vs.zipIdx k).map (fun p => .tup [.int (p.2 : Int), .str (TS p.1)]) ∧
        rdGo vs k b acc = res ∧ (∀ v ∈ vs, okc v ∧ v.length ≤ sizeLine) ∧ acc.length = k ∧ k ≤ 12 ∧ ρ = [.va (.str (TS a)), .va (.lst ((w :: ws).map fun w => .str (TS w))), .ls (acc.map spanD), .va (optI b), y4, y5, y6]) ?_ ?_ ?_
      · refine ⟨w :: ws, 0, none, [], x4, x5, x6, ?_, hres, hw, rfl, by decide, rfl⟩
        unfold enumL
        rw [List.zipIdx_map, List.map_map]
        rfl
      · rintro ρ ⟨vs, k, b, acc, y4, y5, y6, hl, hr, hv, hk, hk2, rfl⟩
        have : vs = [] := by
          cases vs with
          | nil => rfl
          | cons v vs => simp at hl
        subst this
        simp only []
        rw [wp_rovL rfl]
        rw [← hr] at hQ
        exact hQ _
      · rintro d l ρ ⟨vs, k, b, acc, y4, y5, y6, hl, hr, hv, hk, hk2, rfl⟩
        cases vs with
        | nil => simp at hl
        | cons v vs =>
          rw [List.zipIdx_cons, List.map_cons, List.cons.injEq] at hl
          obtain ⟨rfl, rfl⟩ := hl
          obtain ⟨ov, zv⟩ := hv v (List.mem_cons_self ..)
          rw [wp_gtup, wp_gcons, wp_setv]
          refine ⟨by simp, ?_⟩
          simp only [List.set_cons_succ, List.set_cons_zero]
          rw [wp_gcons, wp_setv]
          refine ⟨by simp, ?_⟩
          simp only [List.set_cons_succ, List.set_cons_zero]
          rw [wp_gnil, wp_seq, wp_letM, wp_vaM, wp_callG, wp_cons, wp_getv rfl, wp_cons, wp_getv rfl, wp_pure]
          refine wp_callF rfl (str_wp (x2 := .un) (x3 := .un) (x4 := .un) (x5 := .un) (x6 := .un) ov zv b fun ρ' => ⟨_, .inl rfl, ?_⟩)
          refine ⟨by simp, ?_⟩
          simp only [List.set_cons_succ, List.set_cons_zero]
          rw [wp_seq, wp_iteM, wp_orM, wp_tst, wp_op2, wp_getv rfl, wp_pure]
          unfold rdGo at hr
          cases hs : strt v b with
          | none =>
            rw [hs] at hr
            rw [show isND (optS none) .non = some (.bl true) from rfl, wp_some]
            simp only [if_true]
            rw [wp_mkM, wp_getv rfl]
            rw [← hr] at hQ
            exact hQ _
          | some s =>
            rw [hs] at hr
            rw [show isND (optS (some s)) .non = some (.bl false) from rfl, wp_some]
            simp only [Bool.false_eq_true, if_false] at hr ⊢
            rw [wp_tst, wp_op2, wp_getv rfl, wp_pure, eqD_int, wp_some]
            by_cases c3 : k = 12
            · rw [if_pos c3] at hr
              rw [decide_eq_true (show (k : Int) = 12 by omega)]
              simp only [if_true]
              rw [wp_mkM, wp_getv rfl]
              rw [← hr] at hQ
              exact hQ _
            · rw [if_neg c3] at hr
              rw [decide_eq_false (show ¬ (k : Int) = 12 by omega)]
              simp only [Bool.false_eq_true, if_false]
              rw [wp_pure]
              simp only []
              rw [wp_seq, wp_dropM]
              refine wp_owA (l := acc.map spanD) (d := spanD s) (ρ' := [.va (.str (TS a)), .va (.lst ((w :: ws).map fun w => .str (TS w))), .ls (acc.map spanD), .va (optI b), .va (.int k), .va (.str (TS v)), .va (optS (some s))]) rfl rfl rfl (by rw [List.length_map]; unfold sizeLine; omega) ?_
              simp only [List.set_cons_succ, List.set_cons_zero]
              rw [wp_letM, wp_vaM, wp_op2, wp_getv rfl, wp_pure, show ixD (optS (some s)) (.int 1) = some (.int s.2) from rfl, wp_some]
              refine ⟨by simp, ?_⟩
              simp only [List.set_cons_succ, List.set_cons_zero]
              refine ⟨vs, k + 1, some s.2, acc ++ [s], .va (.int k), .va (.str (TS v)), .va (optS (some s)), rfl, hr, fun x hx => hv x (List.mem_cons_of_mem _ hx), by simp [hk], by omega, ?_⟩
              rw [List.map_append]
              rfl
end Pd

set_option maxHeartbeats 4000000
namespace Pd
open PySem PySem.Spec PyProof.Rows L2
/-! ### sets as texts -/
def wordL (s : Nat × Nat) : List Nat := if s.1 = s.2 then TL.numL s.1 else TL.numL s.1 ++ (45 :: TL.numL s.2)
def lineL (sp : List (Nat × Nat)) : List Nat := if sp = [] then [45] else TL.joinL [44] (sp.map wordL)
def goodS : Option Nat → List (Nat × Nat) → Prop
  | _, [] => True
  | lo, (a, b) :: r => a ≤ b ∧ b < 10 ^ 30 ∧ (∀ l, lo = some l → l + 1 < a) ∧ goodS (some b) r
theorem num_head (n : Nat) : TL.numL n = [48] ∨ (TL.numL n).head? ≠ some 48 := by
  induction n using Nat.strongRecOn with
  | _ n ih =>
    by_cases h : n < 10
    · rw [TL.numL_lt h]
      by_cases z : n = 0
      · subst z; exact .inl rfl
      · exact .inr (by simp [z])
    · rw [TL.numL_step (by omega)]
      right
      have e0 : TL.numL 0 = [48] := TL.numL_lt (by decide)
      rcases ih (n / 10) (by omega) with z | z
      · rw [← e0] at z
        have := TL.numL_inj z
        omega
      · cases e : TL.numL (n / 10) with
        | nil => exact absurd e (TL.numL_ne _)
        | cons c r =>
          rw [e] at z
          simpa using z
theorem num_digs (n : Nat) : digs (TL.numL n) = true := by
  unfold digs
  rw [List.all_eq_true]
  intro c hc
  have := TL.numL_digits n c hc
  simp [this]
theorem figs_num {n : Nat} (h : n < 10 ^ 60) : figs (TL.numL n) = some n := by
  unfold figs
  have h1 : 1 ≤ (TL.numL n).length := List.length_pos_iff.mpr (TL.numL_ne n)
  rw [if_pos ⟨h1, TL.numL_len (by decide) h, num_digs n⟩, if_pos (num_head n), TL.numL_val]
theorem num_len {n : Nat} (h : n < 10 ^ 30) : (TL.numL n).length ≤ 30 := TL.numL_len (by decide) h
theorem num_okc (n : Nat) : okc (TL.numL n) := fun c hc => by
  have := TL.numL_digits n c hc
  omega
theorem num_no (n : Nat) {c : Nat} (h : c < 48 ∨ 57 < c) : c ∉ TL.numL n := TL.numL_free h
theorem word_okc (s : Nat × Nat) : okc (wordL s) := by
  unfold wordL
  split
  · exact num_okc _
  · exact okc_app.mpr ⟨num_okc _, fun c hc => by
      rcases List.mem_cons.mp hc with rfl | h
      · decide
      · exact num_okc _ c h⟩
theorem word_len {s : Nat × Nat} (h1 : s.1 < 10 ^ 30) (h2 : s.2 < 10 ^ 30) : (wordL s).length ≤ 61 := by
  unfold wordL
  have a1 := num_len h1
  have a2 := num_len h2
  split
  · omega
  · rw [List.length_append, List.length_cons]
    omega
theorem word_no {s : Nat × Nat} {c : Nat} (h : c < 45 ∨ 57 < c) : c ∉ wordL s := by
  unfold wordL
  split
  · exact num_no _ (by omega)
  · intro m
    rcases List.mem_append.mp m with m | m
    · exact num_no _ (by omega) m
    · rcases List.mem_cons.mp m with rfl | m
      · omega
      · exact num_no _ (by omega) m
theorem word_head (s : Nat × Nat) : ∃ c r, wordL s = c :: r ∧ 48 ≤ c ∧ c ≤ 57 := by
  cases e : TL.numL s.1 with
  | nil => exact absurd e (TL.numL_ne _)
  | cons c r =>
    have := TL.numL_digits s.1 c (by rw [e]; exact List.mem_cons_self ..)
    unfold wordL
    rw [e]
    split
    · exact ⟨c, r, rfl, this⟩
    · exact ⟨c, r ++ (45 :: TL.numL s.2), rfl, this⟩
theorem strt_word {a b : Nat} {lo : Option Nat} (h1 : a ≤ b) (h2 : b < 10 ^ 30) (h3 : ∀ l, lo = some l → l + 1 < a) : strt (wordL (a, b)) lo = some (a, b) := by
  have p60 : (10 : Nat) ^ 30 < 10 ^ 60 := by decide
  have fa : figs (TL.numL a) = some a := figs_num (by omega)
  have fb : figs (TL.numL b) = some b := figs_num (by omega)
  have n45 : ∀ n, 45 ∉ TL.numL n := fun n => num_no n (by omega)
  have fin : ∀ mark : Bool, (mark = true → a < b) → strFin mark (some a) (some b) lo = some (a, b) := by
    intro mark hm
    unfold strFin
    simp only []
    rw [if_neg (by rintro (h | ⟨h, h'⟩); omega; have := hm h; omega)]
    cases lo with
    | none => rfl
    | some l => exact if_pos (h3 l rfl)
  unfold strt wordL
  by_cases e : a = b
  · subst e
    have hp : parM (TL.numL a) = (TL.numL a, false, []) := by
      unfold parM
      rw [TL.par_none1 (n45 a)]
    simp only [if_true, hp, Bool.false_eq_true, if_false, fa]
    exact fin false (fun h => by cases h)
  · have hp : parM (TL.numL a ++ (45 :: TL.numL b)) = (TL.numL a, true, TL.numL b) := by
      unfold parM
      rw [show TL.numL a ++ (45 :: TL.numL b) = TL.numL a ++ ([45] ++ TL.numL b) from rfl, TL.par_part1 (n45 a)]
      rfl
    simp only [e, if_false, hp, if_true, fa, fb]
    exact fin true fun _ => by omega
theorem rdGo_words : ∀ {sp : List (Nat × Nat)} {k : Nat} {lo : Option Nat} {acc : List (Nat × Nat)}, goodS lo sp → k + sp.length ≤ 12 → rdGo (sp.map wordL) k lo acc = .ok (acc ++ sp)
  | [], k, lo, acc, _, _ => by simp [rdGo]
  | (a, b) :: r, k, lo, acc, ⟨h1, h2, h3, h4⟩, hk => by
    rw [List.length_cons] at hk
    rw [List.map_cons]
    unfold rdGo
    rw [strt_word h1 h2 h3]
    simp only []
    rw [if_neg (by omega), rdGo_words h4 (by omega), List.append_assoc]
    rfl
theorem rdSet_line {sp : List (Nat × Nat)} (h : goodS none sp) (hl : sp.length ≤ 12) : rdSet (lineL sp) = .ok sp := by
  unfold lineL
  by_cases e : sp = []
  · subst e
    rfl
  · rw [if_neg e]
    unfold rdSet
    have : TL.spl [44] 0 [] (TL.joinL [44] (sp.map wordL)) = sp.map wordL := TL.spl_join (fun z => e (List.map_eq_nil_iff.mp z)) fun p hp => by
      obtain ⟨s, _, rfl⟩ := List.mem_map.mp hp
      exact word_no (by omega)
    rw [this]
    cases sp with
    | nil => exact absurd rfl e
    | cons s r =>
      rw [List.map_cons]
      simp only []
      obtain ⟨c, q, hw, h1, h2⟩ := word_head s
      rw [if_neg (by rw [hw]; intro z; cases z; omega)]
      have := rdGo_words (k := 0) (acc := []) h (by omega)
      rw [List.map_cons, List.nil_append] at this
      exact this
/-! lengths -/
theorem joinL_snoc : ∀ {ps : List (List Nat)} {S w : List Nat}, TL.joinL S (ps ++ [w]) = if ps = [] then w else TL.joinL S ps ++ (S ++ w)
  | [], S, w => rfl
  | [p], S, w => rfl
  | p :: q :: r, S, w => by
    show p ++ (S ++ TL.joinL S ((q :: r) ++ [w])) = _
    rw [joinL_snoc, if_neg (by simp), if_neg (by simp)]
    show _ = p ++ (S ++ TL.joinL S (q :: r)) ++ (S ++ w)
    simp [List.append_assoc]
theorem joinL_len {S : List Nat} {m : Nat} : ∀ {ps : List (List Nat)}, (∀ p ∈ ps, p.length + S.length ≤ m) → (TL.joinL S ps).length ≤ m * ps.length
  | [], _ => Nat.zero_le _
  | [p], h => by
    have := h p (List.mem_singleton.mpr rfl)
    show p.length ≤ m * 1
    omega
  | p :: q :: r, h => by
    have h1 := h p (List.mem_cons_self ..)
    have h2 := joinL_len (ps := q :: r) fun x hx => h x (List.mem_cons_of_mem _ hx)
    show (p ++ (S ++ TL.joinL S (q :: r))).length ≤ _
    rw [List.length_append, List.length_append, List.length_cons (a := p), Nat.mul_succ]
    omega
theorem joinL_okc {S : List Nat} (hS : okc S) : ∀ {ps : List (List Nat)}, (∀ p ∈ ps, okc p) → okc (TL.joinL S ps)
  | [], _ => ok0
  | [p], h => h p (List.mem_singleton.mpr rfl)
  | p :: q :: r, h => okc_app.mpr ⟨h p (List.mem_cons_self ..), okc_app.mpr ⟨hS, joinL_okc hS fun x hx => h x (List.mem_cons_of_mem _ hx)⟩⟩
theorem joinL_ne {S : List Nat} : ∀ {ps : List (List Nat)}, ps ≠ [] → (∀ p ∈ ps, p ≠ []) → TL.joinL S ps ≠ []
  | [], h, _ => absurd rfl h
  | [p], _, h => h p (List.mem_singleton.mpr rfl)
  | p :: q :: r, _, h => fun z => h p (List.mem_cons_self ..) (List.append_eq_nil_iff.mp z).1
def smallS (sp : List (Nat × Nat)) : Prop := ∀ s ∈ sp, s.1 ≤ s.2 ∧ s.2 < 10 ^ 30
theorem goodS.small : ∀ {sp : List (Nat × Nat)} {lo : Option Nat}, goodS lo sp → smallS sp
  | [], _, _, s, m => by cases m
  | (a, b) :: r, _, ⟨h1, h2, h3, h4⟩, s, m => by
    rcases List.mem_cons.mp m with rfl | m
    · exact ⟨h1, h2⟩
    · exact h4.small s m
theorem line_okc (sp : List (Nat × Nat)) : okc (lineL sp) := by
  unfold lineL
  split
  · exact ok45
  · exact joinL_okc ok44 fun p hp => by
      obtain ⟨s, _, rfl⟩ := List.mem_map.mp hp
      exact word_okc s
theorem words_len {sp : List (Nat × Nat)} (h : smallS sp) : (TL.joinL [44] (sp.map wordL)).length ≤ 62 * sp.length := by
  have := joinL_len (S := [44]) (m := 62) (ps := sp.map wordL) fun p hp => by
    obtain ⟨s, m, rfl⟩ := List.mem_map.mp hp
    obtain ⟨a, b⟩ := h s m
    have := word_len (s := s) (by omega) b
    simp
    omega
  rwa [List.length_map] at this
theorem line_len {sp : List (Nat × Nat)} (h : smallS sp) : (lineL sp).length ≤ 62 * sp.length + 1 := by
  unfold lineL
  split
  · simp
  · have := words_len h
    omega
/-! ### the writers -/
theorem pyL_strs : ∀ ws : List (List Nat), pyL (ws.map fun w => .str (TS w)) = some (ws.map fun w => .str (TS w))
  | [] => rfl
  | w :: ws => by
    simp only [List.map_cons, pyL, py, Option.bind_some, pyL_strs ws, Option.map_some]
theorem lay_strs : ∀ {ws : List (List Nat)}, (∀ w ∈ ws, okc w) → PyData.canLayAll0 (ws.map fun w => .str (TS w)) = true ∧ PyData.depthAll (ws.map fun w => .str (TS w)) = 0
  | [], _ => ⟨rfl, rfl⟩
  | w :: ws, h => by
    obtain ⟨h1, h2⟩ := lay_strs (ws := ws) fun x hx => h x (List.mem_cons_of_mem _ hx)
    refine ⟨?_, ?_⟩
    · simp only [List.map_cons, PyData.canLayAll0, PyData.canLay0, strOk_S (h w (List.mem_cons_self ..)), h1, Bool.and_self]
    · simp only [List.map_cons, PyData.depthAll, PyData.depth, h2, Nat.max_self]
theorem neD_strs {ws : List (List Nat)} (h : ∀ w ∈ ws, okc w) : neD (.lst (ws.map fun w => .str (TS w))) (.lst []) = some (.bl (decide (ws ≠ []))) := by
  obtain ⟨h1, h2⟩ := lay_strs h
  have s1 : SeqAt.shaped (.list (ws.map fun w => .str (TS w))) = true := by
    show ((PyData.list _).canLay0 && decide _) = true
    simp only [PyData.canLay0, h1, PyData.depth, h2, Bool.true_and]
    rfl
  have s2 : SeqAt.shaped (.list []) = true := rfl
  have e : PyData.eqv (.list (ws.map fun w => .str (TS w))) (.list []) = decide (ws = []) := by
    cases ws <;> simp only [PyData.eqv, List.map_nil, List.map_cons, PyData.eqvAll] <;> rfl
  simp only [neD, py, pyL, pyL_strs, Option.map_some, Option.bind_some, s1, s2, Bool.and_self, if_true, e, decide_not]
theorem num_txt (n : Nat) : (toString (n : Int) : Str) = TS (TL.numL n) := SX.num_S n
theorem log_small {n : Nat} (h : n < 10 ^ 30) : (n : Int).natAbs.log2 < 1920 := by
  rw [Int.natAbs_natCast]
  refine log_of (k := 1920) (Nat.lt_of_lt_of_le h ?_) (by decide)
  decide +kernel
noncomputable def dWset : M Fl := (seqM (letM 1 (lsM (lcM (iL (getv 0)) (gtup (gcons (setv 2) (gcons (setv 3) gnil))) (pure true) (iteM (tst (op2 ltD (getv 2) (getv 3))) (joinedM [(unD fmtD (getv 2)), (pure (.str "-")), (unD fmtD (getv 3))] Str.empty) (callM (one toStr) (consM (getv 2) (pure [])))) [2, 3]))) (retM (iteM (tst (op2 neD (getv 1) (lstM (pure [])))) (m1M joinD (pure (.str ",")) (getv 1)) (pure (.str "-")))))
theorem fmtD_num {n : Nat} (h : n < 10 ^ 30) : fmtD (.int n) = some (.str (TS (TL.numL n))) := by
  unfold fmtD
  simp only []
  rw [if_pos (log_small h), num_txt]
theorem toStr_num {n : Nat} (h : n < 10 ^ 30) : one toStr [.int n] = some (.str (TS (TL.numL n))) := by
  show toStr (.int n) = _
  unfold toStr
  simp only []
  rw [if_pos (log_small h), num_txt]
theorem reprI_num {n : Nat} (h : n < 10 ^ 30) : one reprI [.int n] = some (.str (TS (TL.numL n))) := by
  show reprI (.int n) = _
  unfold reprI
  simp only []
  rw [if_pos (log_small h), num_txt]
theorem wp_joined_cons {f : M D} {fs : List (M D)} {acc : Str} {Q : D → Ev → Prop} {E : Str → List D → Ev → Prop} {ρ : Ev} : wp (joinedM (f :: fs) acc) Q E ρ = wp f (fun d ρ' => match d with
    | .str y => (acc ++ y).length ≤ sizeLine ∧ wp (joinedM fs (acc ++ y)) Q E ρ'
    | _ => False) E ρ := by
  show wp (f >>= fun d => match d with
    | .str y => bnd (acc ++ y).length (joinedM fs (acc ++ y))
    | _ => no) Q E ρ = _
  rw [wp_bind]
  congr 1
  funext d ρ'
  cases d <;> simp only [wp_no, wp_bnd]
theorem S_nil_cat (a : List Nat) : Str.empty ++ TS a = TS a := by
  rw [show Str.empty = TS [] from rfl, SX.S_cat, List.nil_append]
theorem wset_wp {sp : List (Nat × Nat)} (h : smallS sp) (hl : sp.length ≤ 1000) {x1 x2 x3 : Slot} {Q : Fl → Ev → Prop} {E : Str → List D → Ev → Prop} (hQ : ∀ ρ', Q (.rt (.str (TS (lineL sp)))) ρ') :
    wp dWset Q E [.va (.lst (sp.map spanD)), x1, x2, x3] := by
  unfold dWset
  rw [wp_seq, wp_letM, wp_lsM, wp_lcM, wp_bind, wp_getv rfl, show asL (.lst (sp.map spanD)) = some (sp.map spanD) from rfl, wp_some]
  refine wp_lc (I := fun l acc ρ => ∃ (p q : List (Nat × Nat)) (y2 y3 : Slot), sp = p ++ q ∧ l = q.map spanD ∧ acc = ((p.map wordL).map fun w => .str (TS w)) ∧ ρ = [.va (.lst (sp.map spanD)), x1, y2, y3]) ⟨[], sp, x2, x3, rfl, rfl, rfl, rfl⟩ ?_ ?_
  · rintro acc ρ ⟨p, q, y2, y3, e, hq, rfl, rfl⟩
    have : q = [] := List.map_eq_nil_iff.mp hq.symm
    subst this
    rw [List.append_nil] at e
    subst e
    have eb : ∃ z2 z3, backE [.va (.lst (sp.map spanD)), x1, x2, x3] [.va (.lst (sp.map spanD)), x1, y2, y3] [2, 3] = [.va (.lst (sp.map spanD)), x1, z2, z3] := ⟨_, _, rfl⟩
    obtain ⟨z2, z3, eb⟩ := eb
    rw [eb]
    refine ⟨by simp, ?_⟩
    simp only [List.set_cons_succ, List.set_cons_zero]
    have ho : ∀ w ∈ sp.map wordL, okc w := fun w hw => by
      obtain ⟨s, _, rfl⟩ := List.mem_map.mp hw
      exact word_okc s
    rw [wp_retM, wp_iteM, wp_tst, wp_op2, wp_getl rfl]
    simp only [List.set_cons_succ, List.set_cons_zero]
    rw [wp_lstM, wp_pure]
    refine ⟨Nat.zero_le _, ?_⟩
    rw [neD_strs ho, wp_some]
    unfold lineL at hQ
    by_cases c : sp = []
    · rw [if_pos c] at hQ
      subst c
      simp only [List.map_nil, ne_eq, not_true_eq_false, decide_false, Bool.false_eq_true, if_false]
      rw [wp_pure, str_minus]
      exact hQ _
    · rw [if_neg c] at hQ
      rw [decide_eq_true (show sp.map wordL ≠ [] from fun z => c (List.map_eq_nil_iff.mp z))]
      simp only [if_true]
      rw [wp_m1M, wp_pure]
      simp only []
      rw [wp_getv rfl, str_comma, show joinD (.str (TS [44])) (.lst ((sp.map wordL).map fun w => .str (TS w))) = some (.str (TS (TL.joinL [44] (sp.map wordL)))) by
        unfold joinD
        simp only []
        rw [show ((sp.map wordL).map fun w => D.str (TS w)) = ((sp.map wordL).map TS).map D.str by simp [List.map_map, Function.comp_def], asStrs_map, Option.bind_some, if_pos, SX.join_S]
        have hs : ∀ l : List (Nat × Nat), smallS l → (((l.map wordL).map TS).map (·.length)).sum ≤ 61 * l.length := by
          intro l
          induction l with
          | nil => intro _; exact Nat.zero_le _
          | cons s l ih =>
            intro hs
            obtain ⟨a1, a2⟩ := hs s (List.mem_cons_self ..)
            have := word_len (s := s) (by omega) a2
            have := ih fun x hx => hs x (List.mem_cons_of_mem _ hx)
            simp only [List.map_cons, List.sum_cons, List.length_cons, SX.S_len] at this ⊢
            omega
        have := hs sp h
        rw [List.length_map, List.length_map, show (TS [44]).length = 1 from rfl]
        omega, wp_some]
      exact hQ _
  · rintro d l acc ρ ⟨p, q, y2, y3, e, hq, rfl, rfl⟩
    cases q with
    | nil => simp at hq
    | cons s q =>
      rw [List.map_cons, List.cons.injEq] at hq
      obtain ⟨rfl, rfl⟩ := hq
      obtain ⟨a1, a2⟩ := h s (by rw [e]; simp)
      rw [show wipeE [.va (.lst (sp.map spanD)), x1, y2, y3] [2, 3] = [.va (.lst (sp.map spanD)), x1, .un, .un] from rfl]
      unfold spanD
      rw [wp_gtup, wp_gcons, wp_setv]
      refine ⟨by simp, ?_⟩
      simp only [List.set_cons_succ, List.set_cons_zero]
      rw [wp_gcons, wp_setv]
      refine ⟨by simp, ?_⟩
      simp only [List.set_cons_succ, List.set_cons_zero]
      rw [wp_gnil, wp_pure]
      simp only [if_true]
      rw [wp_iteM, wp_tst, wp_op2, wp_getv rfl, wp_getv rfl, show ltD (.int (s.1 : Int)) (.int (s.2 : Int)) = some (.bl (decide ((s.1 : Int) < (s.2 : Int)))) from rfl, wp_some]
      have fin : ∀ ρ', ρ' = [.va (.lst (sp.map spanD)), x1, .va (.int s.1), .va (.int s.2)] → ((p.map wordL).map fun w => D.str (TS w)).length < sizeLine ∧ ∃ (p' q' : List (Nat × Nat)) (y2 y3 : Slot), sp = p' ++ q' ∧ q.map spanD = q'.map spanD ∧ ((p.map wordL).map fun w => D.str (TS w)) ++ [.str (TS (wordL s))] = ((p'.map wordL).map fun w => .str (TS w)) ∧ ρ' = [.va (.lst (sp.map spanD)), x1, y2, y3] := by
        intro ρ' hρ
        refine ⟨?_, p ++ [s], q, _, _, by rw [e]; simp, rfl, by simp, hρ⟩
        rw [List.length_map, List.length_map]
        have := congrArg List.length e
        rw [List.length_append] at this
        unfold sizeLine
        omega
      by_cases c : s.1 = s.2
      · rw [decide_eq_false (show ¬ (s.1 : Int) < (s.2 : Int) by omega)]
        simp only [Bool.false_eq_true, if_false]
        rw [wp_callM, wp_cons, wp_getv rfl, wp_pure, toStr_num (by omega), wp_some]
        rw [show TL.numL s.1 = wordL s by unfold wordL; rw [if_pos c]]
        exact fin _ rfl
      · rw [decide_eq_true (show (s.1 : Int) < (s.2 : Int) by omega)]
        simp only [if_true]
        have l1 := num_len (show s.1 < 10 ^ 30 by omega)
        have l2 := num_len a2
        rw [wp_joined_cons, wp_unD, wp_getv rfl, fmtD_num (by omega), wp_some]
        simp only [S_nil_cat]
        refine ⟨by rw [SX.S_len]; unfold sizeLine; omega, ?_⟩
        rw [wp_joined_cons, wp_pure, str_minus]
        simp only [SX.S_cat]
        refine ⟨by rw [SX.S_len, List.length_append]; unfold sizeLine; simp; omega, ?_⟩
        rw [wp_joined_cons, wp_unD, wp_getv rfl, fmtD_num a2, wp_some]
        simp only [SX.S_cat]
        refine ⟨by rw [SX.S_len, List.length_append, List.length_append]; unfold sizeLine; simp; omega, ?_⟩
        unfold joinedM
        rw [wp_pure]
        rw [show TL.numL s.1 ++ [45] ++ TL.numL s.2 = wordL s by unfold wordL; rw [if_neg c, List.append_assoc]; rfl]
        exact fin _ rfl
noncomputable def dLine : M Fl := (seqM (letM 1 (vaM (pure (.str "")))) (seqM (forM (iL (getv 0)) (gtup (gcons (setv 2) (gcons (setv 3) gnil))) (seqM (letM 4 (vaM (iteM (tst (op2 eqD (getv 2) (getv 3))) (callM (one reprI) (consM (getv 2) (pure []))) (op2 addD (op2 addD (callM (one reprI) (consM (getv 2) (pure []))) (pure (.str "-"))) (callM (one reprI) (consM (getv 3) (pure []))))))) (letM 1 (vaM (op2 addD (op2 addD (getv 1) (op2 srepD (pure (.str ",")) (callM (one toInt) (consM (op2 neD (getv 1) (pure (.str ""))) (pure []))))) (getv 4)))))) (retM (iteM (tst (op2 neD (getv 1) (pure (.str "")))) (getv 1) (pure (.str "-"))))))
theorem addD_S {a b : List Nat} (h : a.length + b.length ≤ sizeLine) : addD (.str (TS a)) (.str (TS b)) = some (.str (TS (a ++ b))) := by
  unfold addD
  simp only []
  rw [if_pos (by rw [SX.S_len, SX.S_len]; exact h), SX.S_cat]
theorem srep01 (k : Bool) : srepD (.str (TS [44])) (.int (if k = true then 1 else 0)) = some (.str (TS (if k = true then [44] else []))) := by
  cases k <;> rfl
theorem line_wp {sp : List (Nat × Nat)} (h : smallS sp) (hl : sp.length ≤ 1000) {x1 x2 x3 x4 : Slot} {Q : Fl → Ev → Prop} {E : Str → List D → Ev → Prop} (hQ : ∀ ρ', Q (.rt (.str (TS (lineL sp)))) ρ') :
    wp dLine Q E [.va (.lst (sp.map spanD)), x1, x2, x3, x4] := by
  unfold dLine
  rw [str_e, str_minus, str_comma, wp_seq, wp_letM, wp_vaM, wp_pure]
  refine ⟨by simp, ?_⟩
  simp only [List.set_cons_succ, List.set_cons_zero]
  rw [wp_seq, wp_forM, wp_bind, wp_getv rfl, show asL (.lst (sp.map spanD)) = some (sp.map spanD) from rfl, wp_some]
  have ow : ∀ p : List (Nat × Nat), ∀ w ∈ p.map wordL, okc w := fun p w hw => by
    obtain ⟨s, _, rfl⟩ := List.mem_map.mp hw
    exact word_okc s
  have nw : ∀ p : List (Nat × Nat), ∀ w ∈ p.map wordL, w ≠ [] := fun p w hw => by
    obtain ⟨s, _, rfl⟩ := List.mem_map.mp hw
    obtain ⟨c, r, e, _⟩ := word_head s
    rw [e]
    simp
  have je : ∀ p : List (Nat × Nat), decide (TL.joinL [44] (p.map wordL) ≠ []) = decide (p ≠ []) := fun p => by
    by_cases c : p = []
    · subst c; rfl
    · rw [decide_eq_true c, decide_eq_true]
      exact joinL_ne (fun z => c (List.map_eq_nil_iff.mp z)) (nw p)
  refine wp_for (I := fun l ρ => ∃ (p q : List (Nat × Nat)) (y2 y3 y4 : Slot), sp = p ++ q ∧ l = q.map spanD ∧ ρ = [.va (.lst (sp.map spanD)), .va (.str (TS (TL.joinL [44] (p.map wordL)))), y2, y3, y4]) ⟨[], sp, x2, x3, x4, rfl, rfl, rfl⟩ ?_ ?_
  · rintro ρ ⟨p, q, y2, y3, y4, e, hq, rfl⟩
    have : q = [] := List.map_eq_nil_iff.mp hq.symm
    subst this
    rw [List.append_nil] at e
    subst e
    simp only []
    rw [wp_retM, wp_iteM, wp_tst, wp_op2, wp_getv rfl, wp_pure, neD_str (joinL_okc ok44 (ow sp)) ok0, wp_some, je]
    unfold lineL at hQ
    by_cases c : sp = []
    · rw [if_pos c] at hQ
      rw [decide_eq_false (by simp [c])]
      simp only [Bool.false_eq_true, if_false]
      rw [wp_pure]
      exact hQ _
    · rw [if_neg c] at hQ
      rw [decide_eq_true c]
      simp only [if_true]
      rw [wp_getv rfl]
      exact hQ _
  · rintro d l ρ ⟨p, q, y2, y3, y4, e, hq, rfl⟩
    cases q with
    | nil => simp at hq
    | cons s q =>
      rw [List.map_cons, List.cons.injEq] at hq
      obtain ⟨rfl, rfl⟩ := hq
      obtain ⟨a1, a2⟩ := h s (by rw [e]; simp)
      have hp : smallS p := fun x hx => h x (by rw [e]; exact List.mem_append_left _ hx)
      have hlen : p.length ≤ 1000 := by
        have := congrArg List.length e
        rw [List.length_append] at this
        omega
      have jl := words_len hp
      have wl := word_len (s := s) (by omega) a2
      have l1 := num_len (show s.1 < 10 ^ 30 by omega)
      have l2 := num_len a2
      rw [show spanD s = .tup [.int s.1, .int s.2] from rfl, wp_gtup, wp_gcons, wp_setv]
      refine ⟨by simp, ?_⟩
      simp only [List.set_cons_succ, List.set_cons_zero]
      rw [wp_gcons, wp_setv]
      refine ⟨by simp, ?_⟩
      simp only [List.set_cons_succ, List.set_cons_zero]
      rw [wp_gnil, wp_seq, wp_letM, wp_vaM, wp_iteM, wp_tst, wp_op2, wp_getv rfl, wp_getv rfl, wp_eqi]
      have fin : wp (letM 1 (vaM (op2 addD (op2 addD (getv 1) (op2 srepD (pure (.str (TS [44]))) (callM (one toInt) (consM (op2 neD (getv 1) (pure (.str (TS [])))) (pure []))))) (getv 4)))) (forK (fun ρ => ∃ (p q' : List (Nat × Nat)) (y2 y3 y4 : Slot), sp = p ++ q' ∧ q.map spanD = q'.map spanD ∧ ρ = [.va (.lst (sp.map spanD)), .va (.str (TS (TL.joinL [44] (p.map wordL)))), y2, y3, y4]) fun r ρ' => match r with
            | .nx => wp (retM (iteM (tst (op2 neD (getv 1) (pure (.str (TS []))))) (getv 1) (pure (.str (TS [45]))))) Q E ρ'
            | r => Q r ρ') E
          [.va (.lst (sp.map spanD)), .va (.str (TS (TL.joinL [44] (p.map wordL)))), .va (.int s.1), .va (.int s.2), .va (.str (TS (wordL s)))] := by
        rw [wp_letM, wp_vaM, wp_op2, wp_op2, wp_getv rfl, wp_op2, wp_pure, wp_callM, wp_cons, wp_op2, wp_getv rfl, wp_pure, neD_str (joinL_okc ok44 (ow p)) ok0, wp_some, wp_pure, je]
        rw [show one toInt [.bl (decide (p ≠ []))] = some (.int (if decide (p ≠ []) = true then 1 else 0)) from rfl, wp_some, srep01, wp_some]
        have l3 : (if decide (p ≠ []) = true then [44] else [] : List Nat).length ≤ 1 := by split <;> decide
        rw [addD_S (by unfold sizeLine; omega), wp_some, wp_getv rfl, addD_S (by rw [List.length_append]; unfold sizeLine; omega), wp_some]
        refine ⟨by simp, ?_⟩
        simp only [List.set_cons_succ, List.set_cons_zero]
        refine ⟨p ++ [s], q, .va (.int s.1), .va (.int s.2), .va (.str (TS (wordL s))), by rw [e]; simp, rfl, ?_⟩
        rw [List.map_append, List.map_singleton, joinL_snoc]
        by_cases c : p = []
        · subst c; rfl
        · rw [if_neg (fun z => c (List.map_eq_nil_iff.mp z)), decide_eq_true c, if_pos rfl, List.append_assoc]
      by_cases c : s.1 = s.2
      · rw [decide_eq_true (show (s.1 : Int) = (s.2 : Int) by omega)]
        simp only [if_true]
        rw [wp_callM, wp_cons, wp_getv rfl, wp_pure, reprI_num (by omega), wp_some]
        refine ⟨by simp, ?_⟩
        simp only [List.set_cons_succ, List.set_cons_zero]
        rw [show TL.numL s.1 = wordL s by unfold wordL; rw [if_pos c]]
        exact fin
      · rw [decide_eq_false (show ¬ (s.1 : Int) = (s.2 : Int) by omega)]
        simp only [Bool.false_eq_true, if_false]
        rw [wp_op2, wp_op2, wp_callM, wp_cons, wp_getv rfl, wp_pure, reprI_num (by omega), wp_some, wp_pure, addD_S (by unfold sizeLine; simp; omega), wp_some, wp_callM, wp_cons, wp_getv rfl, wp_pure, reprI_num a2, wp_some, addD_S (by unfold sizeLine; simp; omega), wp_some]
        refine ⟨by simp, ?_⟩
        simp only [List.set_cons_succ, List.set_cons_zero]
        rw [show TL.numL s.1 ++ [45] ++ TL.numL s.2 = wordL s by unfold wordL; rw [if_neg c, List.append_assoc]; rfl]
        exact fin
end Pd

set_option maxHeartbeats 4000000
namespace Pd
open PySem PySem.Spec PyProof.Rows L2
theorem whN_succ {c : M Bool} {body : M Fl} {n : Nat} {ρ : Ev} : whN c body (n + 1) ρ = (match c ρ with
    | .ok true ρ1 => (match body ρ1 with
      | .ok .nx ρ2 => whN c body n ρ2
      | .ok .ct ρ2 => whN c body n ρ2
      | .ok .bk ρ2 => .ok .nx ρ2
      | r => r)
    | .ok false ρ1 => .ok .nx ρ1
    | .ex e l ρ1 => .ex e l ρ1
    | .no => .no) := rfl
theorem wp_while (I : Nat → Ev → Prop) {c : M Bool} {body : M Fl} {Q : Fl → Ev → Prop} {E : Str → List D → Ev → Prop} {m : Nat} {ρ : Ev} (h0 : I m ρ)
    (hs : ∀ m ρ, I m ρ → wp c (fun k ρ1 => if k = true then wp body (forK (fun ρ2 => ∃ m', m' < m ∧ I m' ρ2) Q) E ρ1 else Q .nx ρ1) E ρ) : wp (whM c body) Q E ρ := by
  have key : ∀ m ρ, I m ρ → ∃ n, wp (whN c body n) Q E ρ := by
    intro m
    induction m using Nat.strongRecOn with
    | _ m ih =>
      intro ρ h
      have z := hs m ρ h
      unfold wp at z
      cases e : c ρ with
      | no => rw [e] at z; exact z.elim
      | ex x l ρ1 =>
        rw [e] at z
        refine ⟨1, wp_ofx (c := x) (l := l) (ρ' := ρ1) ?_ z⟩
        unfold whN
        rw [e]
      | ok k ρ1 =>
        rw [e] at z
        simp only [] at z
        cases k with
        | false =>
          refine ⟨1, wp_of (b := .nx) (ρ' := ρ1) ?_ z⟩
          unfold whN
          rw [e]
        | true =>
          simp only [if_true] at z
          have more : ∀ ρ2, (∃ m', m' < m ∧ I m' ρ2) → (∀ n, whN c body (n + 1) ρ = whN c body n ρ2) → ∃ n, wp (whN c body n) Q E ρ := by
            rintro ρ2 ⟨m', hm, hi⟩ hn
            obtain ⟨n, hw⟩ := ih m' hm ρ2 hi
            refine ⟨n + 1, ?_⟩
            unfold wp at hw ⊢
            rw [hn n]
            exact hw
          cases e2 : body ρ1 with
          | no => rw [e2] at z; exact z.elim
          | ex x l ρ2 =>
            rw [e2] at z
            refine ⟨1, wp_ofx (c := x) (l := l) (ρ' := ρ2) ?_ z⟩
            unfold whN
            rw [e]
            simp only []
            rw [e2]
          | ok r ρ2 =>
            rw [e2] at z
            cases r with
            | nx => exact more ρ2 z fun n => (by rw [whN_succ, e]; simp only []; rw [e2])
            | ct => exact more ρ2 z fun n => (by rw [whN_succ, e]; simp only []; rw [e2])
            | bk =>
              refine ⟨1, wp_of (b := .nx) (ρ' := ρ2) ?_ z⟩
              unfold whN
              rw [e]
              simp only []
              rw [e2]
            | rt d =>
              refine ⟨1, wp_of (b := .rt d) (ρ' := ρ2) ?_ z⟩
              unfold whN
              rw [e]
              simp only []
              rw [e2]
            | ro d =>
              refine ⟨1, wp_of (b := .ro d) (ρ' := ρ2) ?_ z⟩
              unfold whN
              rw [e]
              simp only []
              rw [e2]
            | rw d =>
              refine ⟨1, wp_of (b := .rw d) (ρ' := ρ2) ?_ z⟩
              unfold whN
              rw [e]
              simp only []
              rw [e2]
  obtain ⟨n, hn⟩ := key m ρ h0
  have ne : whN c body n ρ ≠ .no := by
    intro z
    unfold wp at hn
    rw [z] at hn
    exact hn
  unfold wp at hn ⊢
  rw [whM_of ne]
  exact hn

/-! ### the flask of numbers -/
def flT (p q : Addr) (ns : List Int) (b n : Int) : T := .l p [.v q (ns.map .int), .d (.int b), .d (.int n)]
def Flask (p : Addr) (N : Nat) (t : T) : Prop := ∃ q ns b n, p ≠ q ∧ t = flT p q ns b n ∧ ns.length ≤ 40 ∧ 0 ≤ b ∧ b < 170141183460469231731687303715884105727 ∧ 0 ≤ n ∧ n ≤ N
theorem Flask.same {p : Addr} {N N' : Nat} {t t' : T} (h : Flask p N t) (h' : Flask p N' t') : sameRoot t t' = true := by
  obtain ⟨q, ns, b, n, _, rfl, _⟩ := h
  obtain ⟨q', ns', b', n', _, rfl, _⟩ := h'
  unfold flT sameRoot
  simp
theorem Flask.mono {p : Addr} {N N' : Nat} {t : T} (h : Flask p N t) (k : N ≤ N') : Flask p N' t := by
  obtain ⟨q, ns, b, n, h1, h2, h3, h4, h5, h6, h7⟩ := h
  exact ⟨q, ns, b, n, h1, h2, h3, h4, h5, h6, by omega⟩
theorem pyL_ints : ∀ ns : List Int, pyL (ns.map .int) = some (ns.map .int)
  | [] => rfl
  | n :: ns => by simp only [List.map_cons, pyL, py, Option.bind_some, pyL_ints ns, Option.map_some]
theorem lay_ints : ∀ ns : List Int, PyData.canLayAll0 (ns.map .int) = true ∧ PyData.depthAll (ns.map .int) = 0
  | [] => ⟨rfl, rfl⟩
  | n :: ns => by
    obtain ⟨h1, h2⟩ := lay_ints ns
    exact ⟨by simp only [List.map_cons, PyData.canLayAll0, PyData.canLay0, h1, Bool.and_self], by simp only [List.map_cons, PyData.depthAll, PyData.depth, h2, Nat.max_self]⟩
theorem neD_ints (ns : List Int) : neD (.lst (ns.map .int)) (.lst []) = some (.bl (decide (ns ≠ []))) := by
  obtain ⟨h1, h2⟩ := lay_ints ns
  have s1 : SeqAt.shaped (.list (ns.map .int)) = true := by
    show ((PyData.list _).canLay0 && decide _) = true
    simp only [PyData.canLay0, h1, PyData.depth, h2, Bool.true_and]
    rfl
  have s2 : SeqAt.shaped (.list []) = true := rfl
  have e : PyData.eqv (.list (ns.map .int)) (.list []) = decide (ns = []) := by
    cases ns <;> simp only [PyData.eqv, List.map_nil, List.map_cons, PyData.eqvAll] <;> rfl
  simp only [neD, py, pyL, pyL_ints, Option.map_some, Option.bind_some, s1, s2, Bool.and_self, if_true, e, decide_not]
noncomputable def dDrip : M Fl := (seqM (whM (Pd.andM (tst (peek (op2 neD (op2 ixD (getv 0) (pure (.int 0))) (lstM (pure []))))) (tst (peek (op2 ltD (op2 ixD (op2 ixD (getv 0) (pure (.int 0))) (pure (.int 0))) (pure (.int 2)))))) (dropM (itM 0 0 popAtD [(.int 0)]))) (seqM (iteM (tst (peek (op2 neD (op2 ixD (getv 0) (pure (.int 0))) (lstM (pure []))))) (seqM (letM 2 (vaM (op2 modD (callM (one toInt) (consM (peek (op2 ixD (op2 ixD (getv 0) (pure (.int 0))) (pure (.int 0)))) (pure []))) (getv 1)))) (seqM (st2M 0 0 0 (op2 fdivD (peek (op2 ixD (op2 ixD (getv 0) (pure (.int 0))) (pure (.int 0)))) (getv 1))) (retM (getv 2)))) (pure .nx)) (seqM (stM 0 2 (op2 addD (peek (op2 ixD (getv 0) (pure (.int 2)))) (pure (.int 1)))) (seqM (letM 3 (vaM (op2 addD (op2 mulD (peek (op2 ixD (getv 0) (pure (.int 1)))) (peek (op2 ixD (getv 0) (pure (.int 1))))) (op2 mulD (op2 mulD (pure (.int 70001)) (peek (op2 ixD (getv 0) (pure (.int 2))))) (peek (op2 ixD (getv 0) (pure (.int 2)))))))) (seqM (stM 0 1 (op2 modD (callM (one toInt) (consM (op2 addD (getv 3) (op2 mulD (pure (.int 31)) (peek (op2 ixD (getv 0) (pure (.int 2)))))) (pure []))) (pure (.int 170141183460469231731687303715884105727)))) (seqM (letM 3 (vaM (op2 addD (op2 mulD (peek (op2 ixD (getv 0) (pure (.int 1)))) (peek (op2 ixD (getv 0) (pure (.int 1))))) (op2 mulD (pure (.int 90001)) (peek (op2 ixD (getv 0) (pure (.int 2)))))))) (seqM (letM 4 (vaM (op2 addD (op2 mulD (peek (op2 ixD (getv 0) (pure (.int 1)))) (op2 powD (pure (.int 10)) (pure (.int 38)))) (op2 modD (callM (one toInt) (consM (getv 3) (pure []))) (pure (.int 170141183460469231731687303715884105727)))))) (retM (op2 modD (callM (one toInt) (consM (op2 fdivD (getv 4) (op2 powD (pure (.int 2)) (pure (.int 35)))) (pure []))) (getv 1))))))))))
theorem fl_ne {p q : Addr} {ns : List Int} {b n : Int} {r : List Slot} : peek (op2 neD (op2 ixD (getv 0) (pure (.int 0))) (lstM (pure []))) (.ow (flT p q ns b n) :: r) = .ok (.bl (decide (ns ≠ []))) (.ow (flT p q ns b n) :: r) := by
  refine peek_of (ρ' := frz (.ow (flT p q ns b n) :: r)) (op2_of (a := .lst (ns.map .int)) (b := .lst []) (ρ2 := frz (.ow (flT p q ns b n) :: r)) (op2_of (getv_of rfl) rfl rfl) ?_ (neD_ints ns)) rfl
  rfl
theorem fl_00 {p q : Addr} {m : Int} {ns : List Int} {b n : Int} {r : List Slot} : peek (op2 ixD (op2 ixD (getv 0) (pure (.int 0))) (pure (.int 0))) (.ow (flT p q (m :: ns) b n) :: r) = .ok (.int m) (.ow (flT p q (m :: ns) b n) :: r) :=
  peek_of (ρ' := frz (.ow (flT p q (m :: ns) b n) :: r)) (op2_of (op2_of (a := .lst (toDL [.v q ((m :: ns).map .int), .d (.int b), .d (.int n)])) (getv_of rfl) rfl (d := .lst ((m :: ns).map .int)) rfl) rfl (by
    show atI (D.int m :: ns.map .int) 0 = some (.int m)
    rw [show (0 : Int) = ((0 : Nat) : Int) from rfl]
    unfold atI
    rw [ixN_of (by simp)]
    rfl)) rfl
theorem fl_lt {p q : Addr} {m : Int} {ns : List Int} {b n : Int} {r : List Slot} : peek (op2 ltD (op2 ixD (op2 ixD (getv 0) (pure (.int 0))) (pure (.int 0))) (pure (.int 2))) (.ow (flT p q (m :: ns) b n) :: r) = .ok (.bl (decide (m < 2))) (.ow (flT p q (m :: ns) b n) :: r) :=
  peek_of (ρ' := frz (.ow (flT p q (m :: ns) b n) :: r)) (op2_of (op2_of (op2_of (a := .lst (toDL [.v q ((m :: ns).map .int), .d (.int b), .d (.int n)])) (getv_of rfl) rfl (d := .lst ((m :: ns).map .int)) rfl) rfl (by
    show atI (D.int m :: ns.map .int) 0 = some (.int m)
    rw [show (0 : Int) = ((0 : Nat) : Int) from rfl]
    unfold atI
    rw [ixN_of (by simp)]
    rfl)) rfl rfl) rfl
theorem drip_fn {p : Addr} {N : Nat} {t : T} {sides : Int} (hb : Flask p N t) (hN : N ≤ 1125899906842624) (hm : 0 < sides) (hl : sides.natAbs.log2 < 9000) {E : Str → List D → Ev → Prop} :
    wp dDrip (fun r ρ' => ∃ t' d, ρ'[0]? = some (.ow t') ∧ Flask p (N + 1) t' ∧ r = .rt (.int d) ∧ 0 ≤ d ∧ d < sides) E [.ow t, .va (.int sides), .un, .un, .un] := by
  obtain ⟨q, ns, b, n, hpq, ht, hns, hb0, hb1, hn0, hn1⟩ := hb
  subst ht
  unfold dDrip
  rw [wp_seq]
  refine wp_while (I := fun m ρ => ∃ ms : List Int, ms.length = m ∧ ms.length ≤ 40 ∧ ρ = [.ow (flT p q ms b n), .va (.int sides), .un, .un, .un]) (m := ns.length) ⟨ns, rfl, hns, rfl⟩ ?_
  rintro m ρ ⟨ms, rfl, hms, rfl⟩
  have fin : wp (seqM (iteM (tst (peek (op2 neD (op2 ixD (getv 0) (pure (.int 0))) (lstM (pure []))))) (seqM (letM 2 (vaM (op2 modD (callM (one toInt) (consM (peek (op2 ixD (op2 ixD (getv 0) (pure (.int 0))) (pure (.int 0)))) (pure []))) (getv 1)))) (seqM (st2M 0 0 0 (op2 fdivD (peek (op2 ixD (op2 ixD (getv 0) (pure (.int 0))) (pure (.int 0)))) (getv 1))) (retM (getv 2)))) (pure .nx)) (seqM (stM 0 2 (op2 addD (peek (op2 ixD (getv 0) (pure (.int 2)))) (pure (.int 1)))) (seqM (letM 3 (vaM (op2 addD (op2 mulD (peek (op2 ixD (getv 0) (pure (.int 1)))) (peek (op2 ixD (getv 0) (pure (.int 1))))) (op2 mulD (op2 mulD (pure (.int 70001)) (peek (op2 ixD (getv 0) (pure (.int 2))))) (peek (op2 ixD (getv 0) (pure (.int 2)))))))) (seqM (stM 0 1 (op2 modD (callM (one toInt) (consM (op2 addD (getv 3) (op2 mulD (pure (.int 31)) (peek (op2 ixD (getv 0) (pure (.int 2)))))) (pure []))) (pure (.int 170141183460469231731687303715884105727)))) (seqM (letM 3 (vaM (op2 addD (op2 mulD (peek (op2 ixD (getv 0) (pure (.int 1)))) (peek (op2 ixD (getv 0) (pure (.int 1))))) (op2 mulD (pure (.int 90001)) (peek (op2 ixD (getv 0) (pure (.int 2)))))))) (seqM (letM 4 (vaM (op2 addD (op2 mulD (peek (op2 ixD (getv 0) (pure (.int 1)))) (op2 powD (pure (.int 10)) (pure (.int 38)))) (op2 modD (callM (one toInt) (consM (getv 3) (pure []))) (pure (.int 170141183460469231731687303715884105727)))))) (retM (op2 modD (callM (one toInt) (consM (op2 fdivD (getv 4) (op2 powD (pure (.int 2)) (pure (.int 35)))) (pure []))) (getv 1)))))))))
      (fun r ρ' => ∃ t' d, ρ'[0]? = some (.ow t') ∧ Flask p (N + 1) t' ∧ r = .rt (.int d) ∧ 0 ≤ d ∧ d < sides) E [.ow (flT p q ms b n), .va (.int sides), .un, .un, .un] := by
    rw [wp_seq, wp_iteM, wp_tst]
    refine wp_of fl_ne ?_
    cases ms with
    | cons m ms =>
      simp only [ne_eq, reduceCtorEq, not_false_eq_true, decide_true, if_true]
      rw [wp_seq, wp_letM, wp_vaM, wp_op2, wp_callM, wp_cons]
      refine wp_of fl_00 ?_
      rw [wp_pure, wp_toInt, wp_getv rfl, wp_mod]
      refine ⟨hm, by simp, ?_⟩
      simp only [List.set_cons_succ, List.set_cons_zero]
      unfold st2M
      rw [wp_seq, wp_bind, wp_op2]
      refine wp_of fl_00 ?_
      rw [wp_getv rfl, wp_fdiv]
      refine ⟨⟨hm, hl⟩, ?_⟩
      refine wp_of (b := .nx) (ρ' := [.ow (flT p q (m / sides :: ms) b n), .va (.int sides), .va (.int (m % sides)), .un, .un]) ?_ ?_
      · unfold st2Go flT
        simp
      · simp only []
        rw [wp_retM, wp_getv rfl]
        exact ⟨_, _, rfl, ⟨q, m / sides :: ms, b, n, hpq, rfl, by simpa using hms, hb0, hb1, hn0, by omega⟩, rfl, Int.emod_nonneg _ (by omega), Int.emod_lt_of_pos _ hm⟩
    | nil =>
      simp only [ne_eq, not_true_eq_false, decide_false, Bool.false_eq_true, if_false]
      rw [wp_pure]
      simp only []
      unfold flT
      rw [wp_seq, wp_stM, wp_op2, wp_peekix rfl rfl rfl rfl, wp_pure, wp_add, wp_stGo rfl rfl]
      simp only [List.set_cons_succ, List.set_cons_zero]
      rw [wp_seq, wp_letM, wp_vaM, wp_op2, wp_op2, wp_peekix rfl rfl rfl rfl, wp_peekix rfl rfl rfl rfl, wp_mul]
      refine ⟨bMul_of (a := 128) (b := 128) (by omega) (by omega) (by decide) (by decide) (by decide), ?_⟩
      rw [wp_op2, wp_op2, wp_pure, wp_peekix rfl rfl rfl rfl, wp_mul]
      refine ⟨bMul_of (a := 20) (b := 60) (by decide) (by omega) (by decide) (by decide) (by decide), ?_⟩
      rw [wp_peekix rfl rfl rfl rfl, wp_mul]
      refine ⟨bMul_of (a := 80) (b := 60) (by omega) (by omega) (by decide) (by decide) (by decide), ?_⟩
      rw [wp_add]
      refine ⟨by simp, ?_⟩
      simp only [List.set_cons_succ, List.set_cons_zero]
      rw [wp_seq, wp_stM, wp_op2, wp_callM, wp_cons, wp_op2, wp_getv rfl, wp_op2, wp_pure, wp_peekix rfl rfl rfl rfl, wp_mul]
      refine ⟨bMul_of (a := 20) (b := 60) (by decide) (by omega) (by decide) (by decide) (by decide), ?_⟩
      rw [wp_add, wp_pure, wp_toInt, wp_pure, wp_mod]
      refine ⟨by decide, ?_⟩
      rw [wp_stGo rfl rfl]
      simp only [List.set_cons_succ, List.set_cons_zero]
      generalize hz : (b * b + 70001 * (n + 1) * (n + 1) + 31 * (n + 1)) % 170141183460469231731687303715884105727 = b'
      have e0 : 0 ≤ b' := by rw [← hz]; exact Int.emod_nonneg _ (by decide)
      have e1 : b' < 170141183460469231731687303715884105727 := by rw [← hz]; exact Int.emod_lt_of_pos _ (by decide)
      rw [wp_seq, wp_letM, wp_vaM, wp_op2, wp_op2, wp_peekix rfl rfl rfl rfl, wp_peekix rfl rfl rfl rfl, wp_mul]
      refine ⟨bMul_of (a := 128) (b := 128) (by omega) (by omega) (by decide) (by decide) (by decide), ?_⟩
      rw [wp_op2, wp_pure, wp_peekix rfl rfl rfl rfl, wp_mul]
      refine ⟨bMul_of (a := 20) (b := 60) (by decide) (by omega) (by decide) (by decide) (by decide), ?_⟩
      rw [wp_add]
      refine ⟨by simp, ?_⟩
      simp only [List.set_cons_succ, List.set_cons_zero]
      rw [wp_seq, wp_letM, wp_vaM, wp_op2, wp_op2, wp_peekix rfl rfl rfl rfl, wp_op2, wp_pure, wp_pure, wp_pow]
      refine ⟨by decide +kernel, ?_⟩
      rw [wp_mul]
      refine ⟨bMul_of (a := 128) (b := 128) (by omega) (by decide) (by decide) (by decide) (by decide), ?_⟩
      rw [wp_op2, wp_callM, wp_cons, wp_getv rfl, wp_pure, wp_toInt, wp_pure, wp_mod]
      refine ⟨by decide, ?_⟩
      rw [wp_add]
      refine ⟨by simp, ?_⟩
      simp only [List.set_cons_succ, List.set_cons_zero]
      rw [wp_retM, wp_op2, wp_callM, wp_cons, wp_op2, wp_getv rfl, wp_op2, wp_pure, wp_pure, wp_pow]
      refine ⟨by decide +kernel, ?_⟩
      rw [wp_fdiv]
      refine ⟨by decide, ?_⟩
      rw [wp_pure, wp_toInt, wp_getv rfl, wp_mod]
      exact ⟨hm, _, _, rfl, ⟨q, [], b', n + 1, hpq, rfl, by decide, e0, e1, by omega, by omega⟩, rfl, Int.emod_nonneg _ (by omega), Int.emod_lt_of_pos _ hm⟩
  rw [wp_andM, wp_tst]
  refine wp_of fl_ne ?_
  cases ms with
  | nil =>
    simp only [ne_eq, not_true_eq_false, decide_false, Bool.false_eq_true, if_false]
    exact fin
  | cons m ms =>
    simp only [ne_eq, reduceCtorEq, not_false_eq_true, decide_true, if_true]
    rw [wp_tst]
    refine wp_of fl_lt ?_
    by_cases c : m < 2
    · simp only [c, decide_true, if_true]
      rw [wp_dropM]
      refine wp_of (b := .int m) (ρ' := [.ow (flT p q ms b n), .va (.int sides), .un, .un, .un]) ?_ ⟨ms.length, by simp, ms, rfl, by simp at hms; omega, rfl⟩
      unfold itM flT
      have e : popAtD ((m :: ms).map .int) [.int 0] = some (.int m, ms.map .int) := by
        unfold popAtD
        simp only []
        rw [if_pos (by decide)]
        have : seqIndex? 0 ((m :: ms).map D.int).length = some 0 := by
          unfold seqIndex?
          simp
        rw [this]
        rfl
      simp only [List.getElem?_cons_zero]
      rw [e]
      rfl
    · simp only [c, decide_false, Bool.false_eq_true, if_false]
      exact fin
theorem wp_drip {i : Nat} {p : Addr} {N : Nat} {t : T} {sides : Int} {ρ : Ev} {Q : D → Ev → Prop} {E : Str → List D → Ev → Prop} (h : ρ[i]? = some (.ow t)) (hb : Flask p N t) (hN : N ≤ 1125899906842624) (hm : 0 < sides) (hl : sides.natAbs.log2 < 9000)
    (hQ : ∀ t' d, Flask p (N + 1) t' → 0 ≤ d → d < sides → Q (.int d) (ρ.set i (.ow t'))) : wp (callFO 5 2 i dDrip [.int sides]) Q E ρ :=
  wp_callFI (P := Flask p (N + 1)) h rfl (drip_fn hb hN hm hl) (fun t' k => hb.same k) hQ
theorem wp_dripC {i : Nat} {p : Addr} {N : Nat} {t : T} {sides : Int} {ρ : Ev} {Q : D → Ev → Prop} {E : Str → List D → Ev → Prop} (h : ρ[i]? = some (.ow t)) (hb : Flask p N t) (hN : N ≤ 1125899906842624) (hm : 0 < sides) (hl : sides.natAbs.log2 < 9000)
    (hQ : ∀ t' d, Flask p (N + 1) t' → 0 ≤ d → d < sides → Q (.int d) (ρ.set i (.ow t'))) : wp (callO 5 2 i dDrip (consM (pure (.int sides)) (pure []))) Q E ρ := by
  rw [wp_callO h, wp_cons, wp_pure, wp_pure]
  exact wp_drip h hb hN hm hl hQ
end Pd

set_option maxHeartbeats 4000000
namespace Pd
open PySem PySem.Spec PyProof.Rows L2
noncomputable def dFlask : M Fl := (seqM (letM 1 (vaM (op2 powD (pure (.int 43)) (pure (.int 22))))) (seqM (forM (iL (sliceM (getv 0) (pure none) (partM (pure (.int 40))))) (setv 2) (letM 1 (vaM (op2 modD (callM (one toInt) (consM (op2 addD (op2 mulD (getv 1) (pure (.int 4101842887655102017))) (getv 2)) (pure []))) (pure (.int 170141183460469231731687303715884105727)))))) (retW (lcM (iL (sliceM (getv 0) (pure none) (partM (pure (.int 40))))) (setv 2) (tst (op2 geD (callM (one absD) (consM (getv 2) (pure []))) (op2 powD (pure (.int 10)) (pure (.int 18))))) (callM (one absD) (consM (getv 2) (pure []))) [2]) (consM (getv 1) (consM (pure (.int 0)) (pure []))))))
theorem flask_way {ns : List Int} : ∃ k, wayW 3 1 dFlask [scr ns] = some k ∧ ∀ t, k t → ∃ p, Flask p 0 t := by
  have hcut : ∃ ms : List Int, ms.length ≤ 40 ∧ cut (ns.map D.int) none (some 40) = ms.map D.int := by
    refine ⟨ns.take 40, by simp; omega, ?_⟩
    unfold cut
    have h0 : HT.sIx (ns.map D.int).length 0 none = 0 := rfl
    have h1 : HT.sIx (ns.map D.int).length (ns.map D.int).length (some 40) = min 40 (ns.map D.int).length := by
      unfold HT.sIx
      simp
    rw [h0, h1, List.drop_zero, Nat.sub_zero, List.map_take, ← List.take_take, List.take_length]
  obtain ⟨ms, hms, hcut⟩ := hcut
  have hw : wp dFlask (fun r _ => ∃ k, r = .rw k ∧ ∀ t, k t → ∃ p, Flask p 0 t) (fun _ _ _ => False) [.va (scr ns), .un, .un] := by
    have hit : ∀ {s y} {Q : List D → Ev → Prop} {E : Str → List D → Ev → Prop}, Q (ms.map .int) [.va (scr ns), s, y] → wp (iL (sliceM (getv 0) (pure none) (partM (pure (.int 40))))) Q E [.va (scr ns), s, y] := by
      intro s y Q E h
      unfold sliceM partM
      rw [wp_bind, wp_bind, wp_getv rfl, wp_bind, wp_pure, wp_bind, wp_bind, wp_pure]
      simp only []
      rw [wp_pure, show slD (scr ns) none (some 40) = some (.lst (ms.map D.int)) by unfold scr slD; simp only []; rw [hcut], wp_some]
      rw [show asL (.lst (ms.map D.int)) = some (ms.map D.int) from rfl, wp_some]
      exact h
    unfold dFlask
    rw [wp_seq, wp_letM, wp_vaM, wp_op2, wp_pure, wp_pure, wp_pow]
    refine ⟨by decide +kernel, by simp, ?_⟩
    simp only [List.set_cons_succ, List.set_cons_zero]
    rw [wp_seq, wp_forM]
    refine hit ?_
    refine wp_for (I := fun l ρ => ∃ (s : Int) (y : Slot) (ms : List Int), l = ms.map .int ∧ 0 ≤ s ∧ s < 170141183460469231731687303715884105727 ∧ ρ = [.va (scr ns), .va (.int s), y]) ⟨_, .un, ms, rfl, by decide, by decide, rfl⟩ ?_ ?_
    · rintro ρ ⟨s, y, _, _, hs0, hs1, rfl⟩
      simp only []
      unfold retW
      rw [wp_bind, wp_lcM]
      refine hit ?_
      refine wp_lc (I := fun l acc ρ => ∃ (y : Slot) (ks zs : List Int), l = ks.map .int ∧ acc = zs.map .int ∧ ks.length + zs.length ≤ 40 ∧ ρ = [.va (scr ns), .va (.int s), y]) ⟨y, ms, [], rfl, rfl, by simpa using hms, rfl⟩ ?_ ?_
      · rintro acc ρ' ⟨y', ks, zs, hm, rfl, hlen, rfl⟩
        have eb : ∀ y y', ∃ y2, backE [.va (scr ns), .va (.int s), y] [.va (scr ns), .va (.int s), y'] [2] = [.va (scr ns), .va (.int s), y2] := fun y y' => ⟨_, rfl⟩
        obtain ⟨y2, eb⟩ := eb y y'
        rw [eb, wp_bind, wp_cons, wp_getv rfl, wp_cons, wp_pure, wp_pure]
        rw [wp_bnd]
        refine ⟨by show (3 : Nat) ≤ _; unfold sizeLine; decide, ?_⟩
        rw [wp_pure]
        refine ⟨_, rfl, ?_⟩
        rintro t ⟨p, q, hpq, rfl⟩
        exact ⟨p, q, zs, s, 0, hpq, rfl, by omega, hs0, hs1, by decide, by decide⟩
      · rintro d l acc ρ ⟨y', ks, zs, hm, rfl, hlen, rfl⟩
        cases ks with
        | nil => simp at hm
        | cons m ks =>
          simp at hm
          obtain ⟨rfl, rfl⟩ := hm
          rw [List.length_cons] at hlen
          rw [show wipeE [.va (scr ns), .va (.int s), y'] [2] = [.va (scr ns), .va (.int s), .un] from rfl, wp_setv]
          refine ⟨by simp, ?_⟩
          simp only [List.set_cons_succ, List.set_cons_zero]
          have ha : one absD [.int m] = some (.int (if m < 0 then -m else m)) := rfl
          rw [wp_tst, wp_op2, wp_callM, wp_cons, wp_getv rfl, wp_pure, ha, wp_some, wp_op2, wp_pure, wp_pure, wp_pow]
          refine ⟨by decide +kernel, ?_⟩
          generalize (if m < 0 then -m else m) = m' at ha ⊢
          rw [show ∀ j : Int, geD (.int m') (.int j) = some (.bl (decide (j ≤ m'))) from fun _ => rfl, wp_some]
          simp only []
          split
          · rw [wp_callM, wp_cons, wp_getv rfl, wp_pure, ha, wp_some]
            refine ⟨by rw [List.length_map]; unfold sizeLine; omega, _, ks, zs ++ [m'], rfl, by rw [List.map_append]; rfl, by rw [List.length_append, List.length_singleton]; omega, rfl⟩
          · exact ⟨_, ks, zs, rfl, rfl, by omega, rfl⟩
    · rintro d l ρ ⟨s, y, ms, hm, hs0, hs1, rfl⟩
      cases ms with
      | nil => simp at hm
      | cons m ms =>
        simp at hm
        obtain ⟨rfl, rfl⟩ := hm
        rw [wp_setv]
        refine ⟨by simp, ?_⟩
        simp only [List.set_cons_succ, List.set_cons_zero]
        rw [wp_letM, wp_vaM, wp_op2, wp_callM, wp_cons, wp_op2, wp_op2, wp_getv rfl, wp_pure, wp_mul]
        refine ⟨bMul_of (a := 128) (b := 63) (by omega) (by decide) (by decide) (by decide) (by decide), ?_⟩
        rw [wp_getv rfl, wp_add, wp_pure, wp_toInt, wp_pure, wp_mod]
        refine ⟨by decide, by simp, ?_⟩
        simp only [List.set_cons_succ, List.set_cons_zero]
        exact ⟨_, _, ms, rfl, Int.emod_nonneg _ (by decide), Int.emod_lt_of_pos _ (by decide), rfl⟩
  obtain ⟨r, ρ', e, k, rfl, hk⟩ := wp_ok hw
  refine ⟨k, ?_, hk⟩
  unfold wayW
  rw [if_pos (show [scr ns].length = 1 from rfl), show unE 3 ([scr ns].map .va) = [.va (scr ns), .un, .un] from rfl, e]
/-! ### spans far apart -/
noncomputable def dFar : M Fl := (seqM (par2M 2 3 (lsM (dspL (pure []))) (vaM (callO 5 2 0 dDrip (consM (op2 ixD (lstM (consM (pure (.int 2)) (consM (op2 powD (pure (.int 10)) (pure (.int 29))) (pure [])))) (callO 5 2 0 dDrip (consM (pure (.int 2)) (pure [])))) (pure []))))) (seqM (forM (iR1 (consM (callO 5 2 0 dDrip (consM (op2 addD (getv 1) (pure (.int 1))) (pure []))) (pure []))) (setv 4) (seqM (letM 5 (vaM (op2 addD (getv 3) (op2 ixD (lstM (consM (pure (.int 0)) (consM (pure (.int 0)) (consM (pure (.int 1)) (consM (callO 5 2 0 dDrip (consM (op2 powD (pure (.int 10)) (pure (.int 28))) (pure []))) (pure [])))))) (callO 5 2 0 dDrip (consM (pure (.int 4)) (pure []))))))) (seqM (iteM (tst (op2 ltD (getv 5) (op2 powD (pure (.int 10)) (pure (.int 30))))) (dropM (owM 2 apD (consM (tupM (consM (getv 3) (consM (getv 5) (pure [])))) (pure [])))) (pure .nx)) (letM 3 (vaM (op2 addD (op2 addD (getv 5) (pure (.int 2))) (op2 ixD (lstM (consM (pure (.int 0)) (consM (pure (.int 1)) (consM (callO 5 2 0 dDrip (consM (op2 powD (pure (.int 10)) (pure (.int 28))) (pure []))) (pure []))))) (callO 5 2 0 dDrip (consM (pure (.int 3)) (pure [])))))))))) (seqM (iteM (Pd.andM (tst (op2 eqD (callO 5 2 0 dDrip (consM (pure (.int 4)) (pure []))) (pure (.int 0)))) (Pd.andM (tst (peek (op2 neD (getv 2) (lstM (pure []))))) (Pd.andM (tst (peek (op2 ltD (op2 ixD (ixv 2 (unD negD (pure (.int 1)))) (pure (.int 1))) (op2 subD (op2 powD (pure (.int 10)) (pure (.int 30))) (pure (.int 2)))))) (tst (peek (op2 ltD (lenv 2) (getv 1))))))) (dropM (owM 2 apD (consM (tupM (consM (op2 subD (op2 powD (pure (.int 10)) (pure (.int 30))) (pure (.int 1))) (consM (op2 subD (op2 powD (pure (.int 10)) (pure (.int 30))) (pure (.int 1))) (pure [])))) (pure [])))) (pure .nx)) (rovM 2))))
/-- sp in order, all below at - 1 -/
def ordS : List (Nat × Nat) → Nat → Prop
  | [], _ => True
  | [s], at_ => s.1 ≤ s.2 ∧ s.2 < 10 ^ 30 ∧ s.2 + 1 < at_
  | s :: t :: r, at_ => s.1 ≤ s.2 ∧ s.2 + 1 < t.1 ∧ s.2 < 10 ^ 30 ∧ ordS (t :: r) at_
theorem ordS.more : ∀ {sp : List (Nat × Nat)} {a b : Nat}, ordS sp a → a ≤ b → ordS sp b
  | [], _, _, _, _ => trivial
  | [s], a, b, ⟨h1, h2, h3⟩, h => ⟨h1, h2, by omega⟩
  | s :: t :: r, a, b, ⟨h1, h2, h3, h4⟩, h => ⟨h1, h2, h3, h4.more h⟩
theorem ordS.snoc : ∀ {sp : List (Nat × Nat)} {a l c : Nat}, ordS sp a → a ≤ l → l < 10 ^ 30 → l + 1 < c → ordS (sp ++ [(a, l)]) c
  | [], a, l, c, _, h1, h2, h3 => ⟨h1, h2, h3⟩
  | [s], a, l, c, ⟨g1, g2, g3⟩, h1, h2, h3 => ⟨g1, g3, g2, h1, h2, h3⟩
  | s :: t :: r, a, l, c, ⟨g1, g2, g3, g4⟩, h1, h2, h3 => ⟨g1, g2, g3, g4.snoc h1 h2 h3⟩
theorem ordS.good : ∀ {sp : List (Nat × Nat)} {a : Nat} {lo : Option Nat}, ordS sp a → (∀ l, lo = some l → ∀ s r, sp = s :: r → l + 1 < s.1) → goodS lo sp
  | [], _, _, _, _ => trivial
  | [s], a, lo, ⟨h1, h2, h3⟩, h => ⟨h1, h2, fun l e => h l e s [] rfl, trivial⟩
  | s :: t :: r, a, lo, ⟨h1, h2, h3, h4⟩, h => ⟨h1, h3, fun l e => h l e s _ rfl, h4.good fun l e s' r' e' => by
      cases e
      cases e'
      exact h2⟩
theorem ordS.last : ∀ {sp : List (Nat × Nat)} {a : Nat} {s : Nat × Nat}, ordS sp a → sp.getLast? = some s → ordS sp (s.2 + 2)
  | [], _, _, _, e => by cases e
  | [t], a, s, ⟨h1, h2, h3⟩, e => by
    simp at e
    subst e
    exact ⟨h1, h2, by omega⟩
  | t :: u :: r, a, s, ⟨h1, h2, h3, h4⟩, e => ⟨h1, h2, h3, h4.last (by rw [List.getLast?_cons_cons] at e; exact e)⟩

theorem rng1_of {j : Int} (h0 : -(2 ^ 62) ≤ j) (h1 : j < 2 ^ 62) : rng1 [.int j] = some (rngL 0 j.toNat) := if_pos ⟨h0, h1⟩
theorem ix_n {l : List D} {k : Nat} {d : D} (h : l[k]? = some d) : ixD (.lst l) (.int (k : Int)) = some d := by
  unfold ixD
  simp only []
  unfold atI
  rw [ixN_of (List.getElem?_eq_some_iff.mp h).1]
  exact h
theorem pyL_spans : ∀ sp : List (Nat × Nat), pyL (sp.map spanD) = some (sp.map fun s => .tuple [.int s.1, .int s.2])
  | [] => rfl
  | s :: sp => by
    simp only [List.map_cons, pyL, pyL_spans sp, Option.map_some]
    rfl
theorem lay_spans : ∀ sp : List (Nat × Nat), PyData.canLayAll0 (sp.map fun s => .tuple [.int s.1, .int s.2]) = true ∧ PyData.depthAll (sp.map fun s => .tuple [.int s.1, .int s.2]) ≤ 1
  | [] => ⟨rfl, Nat.zero_le _⟩
  | s :: sp => by
    obtain ⟨h1, h2⟩ := lay_spans sp
    refine ⟨by simp only [List.map_cons, PyData.canLayAll0, PyData.canLay0, h1, Bool.and_self], ?_⟩
    simp only [List.map_cons, PyData.depthAll, PyData.depth]
    omega
theorem neD_spans (sp : List (Nat × Nat)) : neD (.lst (sp.map spanD)) (.lst []) = some (.bl (decide (sp ≠ []))) := by
  obtain ⟨h1, h2⟩ := lay_spans sp
  have s1 : SeqAt.shaped (.list (sp.map fun s => .tuple [.int s.1, .int s.2])) = true := by
    show ((PyData.list _).canLay0 && decide _) = true
    simp only [PyData.canLay0, h1, PyData.depth, Bool.true_and]
    exact decide_eq_true (by omega)
  have s2 : SeqAt.shaped (.list []) = true := rfl
  have e : PyData.eqv (.list (sp.map fun s => .tuple [.int s.1, .int s.2])) (.list []) = decide (sp = []) := by
    cases sp <;> simp only [PyData.eqv, List.map_nil, List.map_cons, PyData.eqvAll] <;> rfl
  simp only [neD, py, pyL, pyL_spans, Option.map_some, Option.bind_some, s1, s2, Bool.and_self, if_true, e, decide_not]
theorem far_wp {p : Addr} {N : Nat} {t : T} {most : Nat} (hb : Flask p N t) (hN : N ≤ 1125899906000000) (hm : most ≤ 12) {E : Str → List D → Ev → Prop} :
    wp dFar (fun r ρ' => ∃ t' sp, ρ'[0]? = some (.ow t') ∧ Flask p (N + 100) t' ∧ r = .ro (sp.map spanD) ∧ goodS none sp ∧ sp.length ≤ most) E [.ow t, .va (.int most), .un, .un, .un, .un] := by
  unfold dFar
  rw [wp_seq, wp_par2, wp_lsM, wp_dsp, wp_pure]
  refine ⟨Nat.zero_le _, ?_⟩
  rw [wp_vaM, wp_callO rfl, wp_cons, wp_op2, wp_lstM, wp_cons, wp_pure, wp_cons, wp_op2, wp_pure, wp_pure, wp_pow]
  refine ⟨by decide +kernel, ?_⟩
  rw [wp_pure]
  refine ⟨by show (2 : Nat) ≤ _; unfold sizeLine; decide, ?_⟩
  refine wp_dripC rfl hb (by omega) (by decide) (by decide +kernel) fun t1 d1 hb1 h10 h11 => ?_
  have hx : ∃ x : Int, ixD (.lst [.int 2, .int (10 ^ (29 : Int).toNat)]) (.int d1) = some (.int x) ∧ 0 < x ∧ x.natAbs.log2 < 9000 := by
    have : d1 = ((0 : Nat) : Int) ∨ d1 = ((1 : Nat) : Int) := by omega
    rcases this with rfl | rfl
    · exact ⟨_, ix_n rfl, by decide, by decide +kernel⟩
    · exact ⟨_, ix_n rfl, by decide, by decide +kernel⟩
  obtain ⟨x, hx, hx0, hx1⟩ := hx
  rw [hx, wp_some, wp_pure]
  simp only [List.set_cons_succ, List.set_cons_zero]
  refine wp_drip rfl hb1 (by omega) hx0 hx1 fun t2 d2 hb2 h20 _ => ?_
  obtain ⟨a0, rfl⟩ := Int.eq_ofNat_of_zero_le h20
  refine ⟨by simp, by simp, ?_⟩
  simp only [List.set_cons_succ, List.set_cons_zero]
  rw [wp_seq, wp_forM, wp_bind, wp_cons, wp_callO rfl, wp_cons, wp_op2, wp_getv rfl, wp_pure, wp_add, wp_pure]
  have lg : ((most : Int) + 1).natAbs.log2 < 9000 := Nat.lt_trans (log_of (k := 10) (show ((most : Int) + 1).natAbs < 2 ^ 10 by omega) (by decide)) (by decide)
  refine wp_drip rfl hb2 (by omega) (by omega) lg fun t3 d3 hb3 h30 h31 => ?_
  simp only [List.set_cons_succ, List.set_cons_zero]
  obtain ⟨tn, rfl⟩ := Int.eq_ofNat_of_zero_le h30
  rw [wp_pure, rng1_of (j := (tn : Int)) (by omega) (by omega), Int.toNat_natCast, wp_some]
  refine wp_for (I := fun l ρ => ∃ (t' : T) (sp : List (Nat × Nat)) (a j : Nat) (y4 y5 : Slot), l.length + j = tn ∧ Flask p (N + 3 + 4 * j) t' ∧ ordS sp a ∧ sp.length ≤ j ∧ ρ = [.ow t', .va (.int most), .ls (sp.map spanD), .va (.int a), y4, y5]) ⟨t3, [], a0, 0, .un, .un, by unfold rngL; rw [List.length_map, List.length_range]; rfl, hb3, trivial, by decide, rfl⟩ ?_ ?_
  · rintro ρ ⟨t', sp, a, j, y4, y5, hj, hf, ho, hl, rfl⟩
    rw [List.length_nil, Nat.zero_add] at hj
    subst hj
    simp only []
    have hsl : sp.length ≤ most := by omega
    rw [wp_seq, wp_iteM, wp_andM, wp_tst, wp_op2]
    refine wp_dripC rfl hf (by omega) (by decide) (by decide +kernel) fun t4 d4 hb4 h40 h41 => ?_
    simp only [List.set_cons_succ, List.set_cons_zero]
    rw [wp_pure, wp_eqi]
    have done : ∀ sp' : List (Nat × Nat), goodS none sp' → sp'.length ≤ most → wp (rovM 2) (fun r ρ' => ∃ t' sp, ρ'[0]? = some (.ow t') ∧ Flask p (N + 100) t' ∧ r = .ro (sp.map spanD) ∧ goodS none sp ∧ sp.length ≤ most) E [.ow t4, .va (.int most), .ls (sp'.map spanD), .va (.int a), y4, y5] := by
      intro sp' g l
      rw [wp_rovL rfl]
      exact ⟨t4, sp', rfl, hb4.mono (by omega), rfl, g, l⟩
    have gd : goodS none sp := ho.good fun l e => nomatch e
    by_cases c1 : d4 = 0
    · simp only [c1, decide_true, if_true]
      rw [wp_andM, wp_tst]
      refine wp_of (b := .bl (decide (sp ≠ []))) (ρ' := [.ow t4, .va (.int most), .ls (sp.map spanD), .va (.int a), y4, y5]) ?_ ?_
      · refine peek_of (ρ' := frz [.ow t4, .va (.int most), .ls (sp.map spanD), .va (.int a), y4, y5]) (op2_of (a := .lst (sp.map spanD)) (b := .lst []) (getv_of rfl) rfl (neD_spans sp)) rfl
      simp only []
      by_cases c2 : sp = []
      · simp only [c2, ne_eq, not_true_eq_false, decide_false, Bool.false_eq_true, if_false]
        rw [wp_pure]
        simp only []
        exact done [] trivial (Nat.zero_le _)
      · rw [decide_eq_true c2]
        simp only [if_true]
        obtain ⟨s, hs⟩ : ∃ s, sp.getLast? = some s := by
          cases e : sp.getLast? with
          | none => exact absurd (List.getLast?_eq_none_iff.mp e) c2
          | some s => exact ⟨s, rfl⟩
        have hlen : 0 < sp.length := List.length_pos_iff.mpr c2
        have hlk : sp[sp.length - 1]? = some s := by rw [← List.getLast?_eq_getElem?]; exact hs
        rw [wp_andM, wp_tst]
        obtain ⟨B, hB⟩ : ∃ B : Bool, B = decide ((s.2 : Int) < 10 ^ 30 - 2) := ⟨_, rfl⟩
        have elt : peek (op2 ltD (op2 ixD (ixv 2 (unD negD (pure (.int 1)))) (pure (.int 1))) (op2 subD (op2 powD (pure (.int 10)) (pure (.int 30))) (pure (.int 2)))) [.ow t4, .va (.int most), .ls (sp.map spanD), .va (.int a), y4, y5] = .ok (.bl B) [.ow t4, .va (.int most), .ls (sp.map spanD), .va (.int a), y4, y5] := by
          rw [hB]
          refine peek_of (ρ' := frz [.ow t4, .va (.int most), .ls (sp.map spanD), .va (.int a), y4, y5]) (op2_of (a := .int s.2) (b := .int (10 ^ 30 - 2)) (ρ1 := frz [.ow t4, .va (.int most), .ls (sp.map spanD), .va (.int a), y4, y5]) (op2_of (a := spanD s) (ρ1 := frz [.ow t4, .va (.int most), .ls (sp.map spanD), .va (.int a), y4, y5]) ?_ rfl rfl) (by rfl) rfl) rfl
          unfold ixv withv
          rw [if_pos (by rfl)]
          rw [bind_ok (m := unD negD (pure (.int 1))) (b := .int (-1)) (ρ' := frz [.ow t4, .va (.int most), .ls (sp.map spanD), .va (.int a), y4, y5]) (by rfl)]
          show opt (ixD (.lst (sp.map spanD)) (.int (-1))) _ = _
          have : ixD (.lst (sp.map spanD)) (.int (-1)) = some (spanD s) := by
            unfold ixD
            simp only []
            unfold atI ixN
            rw [if_neg (by decide), if_pos (by rw [List.length_map]; omega), List.length_map]
            have e : ((sp.length : Int) + -1).toNat = sp.length - 1 := by omega
            first
              | (show (List.map spanD sp)[((sp.length : Int) + -1).toNat]? = _
                 rw [e, List.getElem?_map, hlk]
                 rfl)
              | (simp only [Option.bind_some]
                 rw [e, List.getElem?_map, hlk]
                 rfl)
          rw [this]
          rfl
        refine wp_of elt ?_
        simp only []
        cases B with
        | true =>
          have c3 := of_decide_eq_true hB.symm
          simp only [if_true]
          rw [wp_tst]
          refine wp_of (b := .bl (decide ((sp.length : Int) < most))) (ρ' := [.ow t4, .va (.int most), .ls (sp.map spanD), .va (.int a), y4, y5]) ?_ ?_
          · refine peek_of (ρ' := frz [.ow t4, .va (.int most), .ls (sp.map spanD), .va (.int a), y4, y5]) (op2_of (a := .int ((sp.map spanD).length : Int)) (b := .int most) (ρ1 := frz [.ow t4, .va (.int most), .ls (sp.map spanD), .va (.int a), y4, y5]) rfl (getv_of rfl) ?_) rfl
            rw [List.length_map]
            rfl
          simp only []
          by_cases c4 : (sp.length : Int) < most
          · rw [decide_eq_true c4]
            simp only [if_true]
            rw [wp_dropM]
            refine wp_owA (l := sp.map spanD) (d := spanD (10 ^ 30 - 1, 10 ^ 30 - 1)) (ρ' := [.ow t4, .va (.int most), .ls (sp.map spanD), .va (.int a), y4, y5]) rfl (by rfl) rfl (by rw [List.length_map]; unfold sizeLine; omega) ?_
            simp only [List.set_cons_succ, List.set_cons_zero]
            have e : sp.map spanD ++ [spanD (10 ^ 30 - 1, 10 ^ 30 - 1)] = (sp ++ [(10 ^ 30 - 1, 10 ^ 30 - 1)]).map spanD := by rw [List.map_append]; rfl
            rw [e]
            refine done _ ?_ (by rw [List.length_append, List.length_singleton]; omega)
            have o2 : ordS sp (10 ^ 30 - 1) := (ho.last hs).more (by omega)
            exact (o2.snoc (c := 10 ^ 30 + 1) (Nat.le_refl _) (by decide) (by decide)).good fun l e => nomatch e
          · rw [decide_eq_false c4]
            simp only [Bool.false_eq_true, if_false]
            rw [wp_pure]
            simp only []
            exact done sp gd hsl
        | false =>
          simp only [Bool.false_eq_true, if_false]
          rw [wp_pure]
          simp only []
          exact done sp gd hsl
    · simp only [c1, decide_false, Bool.false_eq_true, if_false]
      rw [wp_pure]
      simp only []
      exact done sp gd hsl
  · rintro d l ρ ⟨t', sp, a, j, y4, y5, hj, hf, ho, hl, rfl⟩
    rw [List.length_cons] at hj
    rw [wp_setv]
    refine ⟨by simp, ?_⟩
    simp only [List.set_cons_succ, List.set_cons_zero]
    rw [wp_seq, wp_letM, wp_vaM, wp_op2, wp_getv rfl, wp_op2, wp_lstM, wp_cons, wp_pure, wp_cons, wp_pure, wp_cons, wp_pure, wp_cons, wp_callO rfl, wp_cons, wp_op2, wp_pure, wp_pure, wp_pow]
    refine ⟨by decide +kernel, ?_⟩
    rw [wp_pure]
    refine wp_drip rfl hf (by omega) (by decide) (by decide +kernel) fun t4 d4 hb4 h40 _ => ?_
    simp only [List.set_cons_succ, List.set_cons_zero]
    rw [wp_pure]
    refine ⟨by show (4 : Nat) ≤ _; unfold sizeLine; decide, ?_⟩
    refine wp_dripC rfl hb4 (by omega) (by decide) (by decide +kernel) fun t5 d5 hb5 h50 h51 => ?_
    simp only [List.set_cons_succ, List.set_cons_zero]
    obtain ⟨k4, rfl⟩ := Int.eq_ofNat_of_zero_le h40
    have hy : ∃ y : Nat, ixD (.lst [.int 0, .int 0, .int 1, .int (k4 : Int)]) (.int d5) = some (.int (y : Int)) := by
      have : d5 = ((0 : Nat) : Int) ∨ d5 = ((1 : Nat) : Int) ∨ d5 = ((2 : Nat) : Int) ∨ d5 = ((3 : Nat) : Int) := by omega
      rcases this with rfl | rfl | rfl | rfl
      · exact ⟨0, ix_n rfl⟩
      · exact ⟨0, ix_n rfl⟩
      · exact ⟨1, ix_n rfl⟩
      · exact ⟨k4, ix_n rfl⟩
    obtain ⟨y, hy⟩ := hy
    rw [hy, wp_some, wp_add]
    refine ⟨by simp, ?_⟩
    simp only [List.set_cons_succ, List.set_cons_zero]
    rw [show (a : Int) + (y : Int) = ((a + y : Nat) : Int) by omega]
    have tail : ∀ sp' : List (Nat × Nat), (∀ c, a + y + 2 ≤ c → ordS sp' c) → sp'.length ≤ j + 1 → wp (letM 3 (vaM (op2 addD (op2 addD (getv 5) (pure (.int 2))) (op2 ixD (lstM (consM (pure (.int 0)) (consM (pure (.int 1)) (consM (callO 5 2 0 dDrip (consM (op2 powD (pure (.int 10)) (pure (.int 28))) (pure []))) (pure []))))) (callO 5 2 0 dDrip (consM (pure (.int 3)) (pure [])))))))
        (forK (fun ρ => ∃ (t' : T) (sp : List (Nat × Nat)) (a j : Nat) (y4 y5 : Slot), l.length + j = tn ∧ Flask p (N + 3 + 4 * j) t' ∧ ordS sp a ∧ sp.length ≤ j ∧ ρ = [.ow t', .va (.int most), .ls (sp.map spanD), .va (.int a), y4, y5]) fun r ρ' => match r with
          | .nx => wp (seqM (iteM (Pd.andM (tst (op2 eqD (callO 5 2 0 dDrip (consM (pure (.int 4)) (pure []))) (pure (.int 0)))) (Pd.andM (tst (peek (op2 neD (getv 2) (lstM (pure []))))) (Pd.andM (tst (peek (op2 ltD (op2 ixD (ixv 2 (unD negD (pure (.int 1)))) (pure (.int 1))) (op2 subD (op2 powD (pure (.int 10)) (pure (.int 30))) (pure (.int 2)))))) (tst (peek (op2 ltD (lenv 2) (getv 1))))))) (dropM (owM 2 apD (consM (tupM (consM (op2 subD (op2 powD (pure (.int 10)) (pure (.int 30))) (pure (.int 1))) (consM (op2 subD (op2 powD (pure (.int 10)) (pure (.int 30))) (pure (.int 1))) (pure [])))) (pure [])))) (pure .nx)) (rovM 2)) (fun r ρ' => ∃ t' sp, ρ'[0]? = some (.ow t') ∧ Flask p (N + 100) t' ∧ r = .ro (sp.map spanD) ∧ goodS none sp ∧ sp.length ≤ most) E ρ'
          | r => ∃ t' sp, ρ'[0]? = some (.ow t') ∧ Flask p (N + 100) t' ∧ r = .ro (sp.map spanD) ∧ goodS none sp ∧ sp.length ≤ most) E
        [.ow t5, .va (.int most), .ls (sp'.map spanD), .va (.int a), .va d, .va (.int ((a + y : Nat) : Int))] := by
      intro sp' ho' hl'
      rw [wp_letM, wp_vaM, wp_op2, wp_op2, wp_getv rfl, wp_pure, wp_add, wp_op2, wp_lstM, wp_cons, wp_pure, wp_cons, wp_pure, wp_cons, wp_callO rfl, wp_cons, wp_op2, wp_pure, wp_pure, wp_pow]
      refine ⟨by decide +kernel, ?_⟩
      rw [wp_pure]
      refine wp_drip rfl hb5 (by omega) (by decide) (by decide +kernel) fun t6 d6 hb6 h60 _ => ?_
      simp only [List.set_cons_succ, List.set_cons_zero]
      rw [wp_pure]
      refine ⟨by show (3 : Nat) ≤ _; unfold sizeLine; decide, ?_⟩
      refine wp_dripC rfl hb6 (by omega) (by decide) (by decide +kernel) fun t7 d7 hb7 h70 h71 => ?_
      simp only [List.set_cons_succ, List.set_cons_zero]
      obtain ⟨k6, rfl⟩ := Int.eq_ofNat_of_zero_le h60
      have hv : ∃ v : Nat, ixD (.lst [.int 0, .int 1, .int (k6 : Int)]) (.int d7) = some (.int (v : Int)) := by
        have : d7 = ((0 : Nat) : Int) ∨ d7 = ((1 : Nat) : Int) ∨ d7 = ((2 : Nat) : Int) := by omega
        rcases this with rfl | rfl | rfl
        · exact ⟨0, ix_n rfl⟩
        · exact ⟨1, ix_n rfl⟩
        · exact ⟨k6, ix_n rfl⟩
      obtain ⟨v, hv⟩ := hv
      rw [hv, wp_some, wp_add]
      refine ⟨by simp, ?_⟩
      simp only [List.set_cons_succ, List.set_cons_zero]
      refine ⟨t7, sp', a + y + 2 + v, j + 1, .va d, .va (.int ((a + y : Nat) : Int)), by omega, hb7.mono (by omega), ho' _ (by omega), hl', ?_⟩
      rw [show ((a + y : Nat) : Int) + 2 + (v : Int) = ((a + y + 2 + v : Nat) : Int) by omega]
    rw [wp_seq, wp_iteM, wp_tst, wp_op2, wp_getv rfl, wp_op2, wp_pure, wp_pure, wp_pow]
    refine ⟨by decide +kernel, ?_⟩
    obtain ⟨B, hB⟩ : ∃ B : Bool, B = decide (((a + y : Nat) : Int) < 10 ^ (30 : Int).toNat) := ⟨_, rfl⟩
    rw [show ∀ i j : Int, ltD (.int i) (.int j) = some (.bl (decide (i < j))) from fun _ _ => rfl, ← hB, wp_some]
    simp only []
    cases B with
    | true =>
      have c := of_decide_eq_true hB.symm
      rw [show (30 : Int).toNat = 30 from rfl] at c
      have c' : a + y < 10 ^ 30 := by omega
      simp only [if_true]
      rw [wp_dropM]
      refine wp_owA (l := sp.map spanD) (d := spanD (a, a + y)) (ρ' := [.ow t5, .va (.int most), .ls (sp.map spanD), .va (.int a), .va d, .va (.int ((a + y : Nat) : Int))]) rfl (by rfl) rfl (by rw [List.length_map]; unfold sizeLine; omega) ?_
      simp only [List.set_cons_succ, List.set_cons_zero]
      have e : sp.map spanD ++ [spanD (a, a + y)] = (sp ++ [(a, a + y)]).map spanD := by rw [List.map_append]; rfl
      rw [e]
      exact tail _ (fun c hc => ho.snoc (by omega) c' (by omega)) (by rw [List.length_append, List.length_singleton]; omega)
    | false =>
      simp only [Bool.false_eq_true, if_false]
      rw [wp_pure]
      simp only []
      exact tail sp (fun c hc => ho.more (by omega)) (by omega)
end Pd

set_option maxHeartbeats 4000000
namespace Pd
open PySem PySem.Spec PyProof.Rows L2
theorem demGo_of {i : Nat} {ls : List (List D)} {rest : M Fl} {ρ : Ev} {d : D} (hi : i < ρ.length) (hz : ls.length ≤ sizeLine) (h : ∀ t, okT ls t → ∃ ρ', ρ'.length = ρ.length ∧ rest (ρ.set i (.ow t)) = .ok (.rt d) ρ') :
    demGo i ls rest ρ = .ok (.rt d) (List.replicate ρ.length .un) := by
  have dec : (i < ρ.length ∧ ls.length ≤ sizeLine) ∧ ∃ d, ∀ t, okT ls t → ∃ ρ', ρ'.length = ρ.length ∧ rest (ρ.set i (.ow t)) = .ok (.rt d) ρ' := ⟨⟨hi, hz⟩, d, h⟩
  have e : dec.2.choose = d := by
    have ht : okT ls (.l 0 (dspT ls (List.range' 1 ls.length))) := ⟨0, List.range' 1 ls.length, List.length_range', List.nodup_cons.mpr ⟨fun m => by rw [List.mem_range'] at m; omega, List.nodup_range'⟩, rfl⟩
    obtain ⟨ρ1, _, h1⟩ := dec.2.choose_spec _ ht
    obtain ⟨ρ2, _, h2⟩ := h _ ht
    rw [h1] at h2
    injection h2 with h2
    injection h2
  unfold demGo
  rw [dif_pos dec, e]
theorem wp_callFR {n np i : Nat} {f : M Fl} {ds : List D} {Q : D → Ev → Prop} {t : T} {ρ : Ev} {E : Str → List D → Ev → Prop} (h : ρ[i]? = some (.ow t)) (hl : ds.length + 1 = np)
    (hf : wp f (fun r ρ' => ∃ t' l, ρ'[0]? = some (.ow t') ∧ sameRoot t t' = true ∧ r = .ro l ∧ Q (.lst l) (ρ.set i (.ow t'))) (fun _ _ _ => False) (unE n (.ow t :: ds.map .va))) : wp (callFO n np i f ds) Q E ρ := by
  obtain ⟨r, ρ', e, t', l, h1, h2, rfl, h3⟩ := wp_ok hf
  refine wp_of (b := .lst l) (ρ' := ρ.set i (.ow t')) ?_ h3
  unfold callFO
  rw [h]
  simp only []
  rw [if_pos hl, e]
  cases ρ' with
  | nil => simp at h1
  | cons s ρ' =>
    simp at h1
    subst h1
    simp only [outO, backO]
    rw [if_pos h2]
theorem cons_of {f : M D} {fs : M (List D)} {ρ ρ1 ρ2 : Ev} {d : D} {l : List D} (h : f ρ = .ok d ρ1) (h2 : fs ρ1 = .ok l ρ2) : consM f fs ρ = .ok (d :: l) ρ2 := by
  unfold consM
  rw [bind_ok h, bind_ok h2]
  rfl
theorem lst_of {ρ ρ' : Ev} {f : M (List D)} {l : List D} (e : f ρ = .ok l ρ') (hz : l.length ≤ sizeLine) : lstM f ρ = .ok (.lst l) ρ' := by
  unfold lstM
  rw [bind_ok e]
  show bnd l.length (pure (.lst l) : M D) ρ' = _
  unfold bnd
  rw [if_pos hz]
  rfl
theorem call_of {ρ ρ' : Ev} {f : M D} {d e : D} {g : List D → Option D} (h1 : f ρ = .ok d ρ') (h2 : g [d] = some e) : callM g (consM f (pure [])) ρ = .ok e ρ' := by
  unfold callM
  rw [bind_ok (cons_of h1 (show (pure [] : M (List D)) ρ' = .ok [] ρ' from rfl)), h2]
  rfl
/-! ### repr of lists and tuples -/
def tfL : Nat → List Nat → List (List Nat) → List Nat
  | _, acc, [] => acc
  | k, acc, t :: r => tfL (k + 1) (acc ++ (if k > 0 then [44, 32] else []) ++ t) r
def listL (ls : List (List Nat)) : List Nat := tfL 0 [91] ls ++ [93]
def tupG (ls : List (List Nat)) : List Nat := [40] ++ TL.joinL [44, 32] ls ++ (if ls.length = 1 then [44, 41] else [41])
structure Shw (d : D) (k : Nat) (l : List Nat) : Prop where
  ex : ∃ p, py d = some p ∧ p.showable = true ∧ p.hasDict = false ∧ p.depth ≤ k ∧ p.shown = TS l
  ok : okc l
structure ShwL (ds : List D) (k : Nat) (ls : List (List Nat)) : Prop where
  ex : ∃ ps, pyL ds = some ps ∧ PyData.showableAll ps = true ∧ PyData.hasDictAll ps = false ∧ PyData.depthAll ps ≤ k ∧ PyData.shownAll ps = ls.map TS
  ok : ∀ l ∈ ls, okc l
theorem Shw.int {n : Nat} {k : Nat} (h : n < 10 ^ 30) : Shw (.int n) k (TL.numL n) := by
  refine ⟨⟨.int n, rfl, ?_, rfl, Nat.zero_le _, ?_⟩, num_okc n⟩
  · show decide _ = true
    exact decide_eq_true (log_small h)
  · show PyData.shown (.int n) = _
    simp only [PyData.shown]
    exact num_txt n
theorem ShwL.nil {k : Nat} : ShwL [] k [] := ⟨⟨[], rfl, rfl, rfl, Nat.zero_le _, rfl⟩, fun l h => nomatch h⟩
theorem ShwL.cons {d : D} {ds : List D} {k : Nat} {l : List Nat} {ls : List (List Nat)} (a : Shw d k l) (b : ShwL ds k ls) : ShwL (d :: ds) k (l :: ls) := by
  obtain ⟨⟨p, a1, a2, a3, a4, a5⟩, a6⟩ := a
  obtain ⟨⟨ps, b1, b2, b3, b4, b5⟩, b6⟩ := b
  refine ⟨⟨p :: ps, ?_, ?_, ?_, ?_, ?_⟩, fun x hx => ?_⟩
  · simp only [pyL, a1, b1, Option.bind_some, Option.map_some]
  · simp only [PyData.showableAll, a2, b2, Bool.and_self]
  · simp only [PyData.hasDictAll, a3, b3, Bool.or_self]
  · simp only [PyData.depthAll]; omega
  · simp only [PyData.shownAll, a5, b5, List.map_cons]
  · rcases List.mem_cons.mp hx with rfl | hx
    · exact a6
    · exact b6 x hx
theorem tf_txt : ∀ (ls : List (List Nat)) (k : Nat) (acc : List Nat), textFrom k (TS acc) (ls.map TS) = TS (tfL k acc ls)
  | [], _, _ => rfl
  | t :: r, k, acc => by
    have e1 : ((", " : String) : Str) = TS [44, 32] := by decide +kernel
    have e2 : (("" : String) : Str) = TS [] := by decide +kernel
    rw [List.map_cons]
    unfold textFrom tfL
    by_cases h : k > 0
    · simp only [h, if_true]
      rw [e1, SX.S_cat, SX.S_cat, tf_txt r]
    · simp only [h, if_false]
      rw [e2, SX.S_cat, SX.S_cat, tf_txt r]
theorem list_txt (ls : List (List Nat)) : listText (ls.map TS) = TS (listL ls) := by
  have e1 : ("[" : Str) = TS [91] := by decide +kernel
  have e2 : ("]" : Str) = TS [93] := by decide +kernel
  unfold listText listL
  rw [e1, e2, tf_txt, SX.S_cat]
theorem tup_txt (ls : List (List Nat)) : tupleText (ls.map TS) = TS (tupG ls) := by
  have e1 : ("(" : Str) = TS [40] := by decide +kernel
  have e2 : (", " : Str) = TS [44, 32] := by decide +kernel
  have e3 : ((",)" : String) : Str) = TS [44, 41] := by decide +kernel
  have e4 : ((")" : String) : Str) = TS [41] := by decide +kernel
  unfold tupleText tupG
  rw [e1, e2, ← TL.join_eq, SX.join_S, SX.S_cat, List.length_map]
  by_cases h : ls.length = 1
  · rw [if_pos h]
    simp only [h, beq_self_eq_true, if_true]
    rw [e3, SX.S_cat]
  · rw [if_neg h]
    rw [show (ls.length == 1) = false by simpa using h]
    simp only [Bool.false_eq_true, if_false]
    rw [e4, SX.S_cat]
theorem tf_okc : ∀ {ls : List (List Nat)} {k : Nat} {acc : List Nat}, okc acc → (∀ l ∈ ls, okc l) → okc (tfL k acc ls)
  | [], _, _, h, _ => h
  | t :: r, k, acc, h, hl => by
    unfold tfL
    refine tf_okc (okc_app.mpr ⟨okc_app.mpr ⟨h, ?_⟩, hl t (List.mem_cons_self ..)⟩) fun l m => hl l (List.mem_cons_of_mem _ m)
    split
    · intro c hc
      simp at hc
      omega
    · exact ok0
theorem listL_okc {ls : List (List Nat)} (h : ∀ l ∈ ls, okc l) : okc (listL ls) :=
  okc_app.mpr ⟨tf_okc (fun c hc => by rw [List.mem_singleton.mp hc]; decide) h, fun c hc => by rw [List.mem_singleton.mp hc]; decide⟩
theorem tupG_okc {ls : List (List Nat)} (h : ∀ l ∈ ls, okc l) : okc (tupG ls) := by
  unfold tupG
  refine okc_app.mpr ⟨okc_app.mpr ⟨fun c hc => by rw [List.mem_singleton.mp hc]; decide, joinL_okc (fun c hc => by simp at hc; omega) h⟩, ?_⟩
  split
  · intro c hc
    simp at hc
    omega
  · intro c hc
    simp at hc
    omega
theorem Shw.lst {ds : List D} {k : Nat} {ls : List (List Nat)} (b : ShwL ds k ls) : Shw (.lst ds) (k + 1) (listL ls) := by
  obtain ⟨⟨ps, b1, b2, b3, b4, b5⟩, b6⟩ := b
  refine ⟨⟨.list ps, ?_, ?_, ?_, ?_, ?_⟩, listL_okc b6⟩
  · simp only [py, b1, Option.map_some]
  · simp only [PyData.showable, b2]
  · simp only [PyData.hasDict, b3]
  · simp only [PyData.depth]; omega
  · simp only [PyData.shown, b5, list_txt]
theorem Shw.tup {ds : List D} {k : Nat} {ls : List (List Nat)} (b : ShwL ds k ls) : Shw (.tup ds) (k + 1) (tupG ls) := by
  obtain ⟨⟨ps, b1, b2, b3, b4, b5⟩, b6⟩ := b
  refine ⟨⟨.tuple ps, ?_, ?_, ?_, ?_, ?_⟩, tupG_okc b6⟩
  · simp only [py, b1, Option.map_some]
  · simp only [PyData.showable, b2]
  · simp only [PyData.hasDict, b3]
  · simp only [PyData.depth]; omega
  · simp only [PyData.shown, b5, tup_txt]
theorem tf_len {m : Nat} : ∀ {ls : List (List Nat)} {k : Nat} {acc : List Nat}, (∀ l ∈ ls, l.length ≤ m) → (tfL k acc ls).length ≤ acc.length + (m + 2) * ls.length
  | [], _, _, _ => Nat.le_add_right _ _
  | t :: r, k, acc, h => by
    unfold tfL
    have h1 := h t (List.mem_cons_self ..)
    have h2 := tf_len (m := m) (ls := r) (k := k + 1) (acc := acc ++ (if k > 0 then [44, 32] else []) ++ t) fun l hl => h l (List.mem_cons_of_mem _ hl)
    rw [List.length_append, List.length_append] at h2
    have h3 : (if k > 0 then [44, 32] else [] : List Nat).length ≤ 2 := by split <;> decide
    rw [List.length_cons, Nat.mul_succ]
    omega
theorem listL_len {m : Nat} {ls : List (List Nat)} (h : ∀ l ∈ ls, l.length ≤ m) : (listL ls).length ≤ 2 + (m + 2) * ls.length := by
  have := tf_len (k := 0) (acc := [91]) h
  unfold listL
  rw [List.length_append]
  simp at this ⊢
  omega
theorem tupG_len {m : Nat} {ls : List (List Nat)} (h : ∀ l ∈ ls, l.length ≤ m) : (tupG ls).length ≤ 3 + (m + 2) * ls.length := by
  have := joinL_len (S := [44, 32]) (m := m + 2) (ps := ls) fun p hp => by
    have := h p hp
    simp
    omega
  unfold tupG
  rw [List.length_append, List.length_append]
  have h3 : (if ls.length = 1 then [44, 41] else [41] : List Nat).length ≤ 2 := by split <;> decide
  simp only [List.length_singleton]
  omega
theorem reprL_of {ds : List D} {k : Nat} {l : List Nat} (h : Shw (.lst ds) k l) (hk : k ≤ 60) (hz : l.length ≤ sizeLine) : one reprL [.lst ds] = some (.str (TS l)) := by
  obtain ⟨⟨p, a1, a2, a3, a4, a5⟩, a6⟩ := h
  show reprD (.lst ds) = _
  unfold reprD
  rw [a1, Option.bind_some, if_pos ⟨a2, a3, by omega, by rw [a5, SX.S_len]; exact hz⟩, a5]
/-- of spans -/
def spanL (s : Nat × Nat) : List Nat := tupG [TL.numL s.1, TL.numL s.2]
theorem shw_span {s : Nat × Nat} (h1 : s.1 < 10 ^ 30) (h2 : s.2 < 10 ^ 30) : Shw (spanD s) 1 (spanL s) := Shw.tup (k := 0) (.cons (.int h1) (.cons (.int h2) .nil))
theorem shw_spans : ∀ {sp : List (Nat × Nat)}, smallS sp → ShwL (sp.map spanD) 1 (sp.map spanL)
  | [], _ => .nil
  | s :: sp, h => by
    obtain ⟨a, b⟩ := h s (List.mem_cons_self ..)
    exact .cons (shw_span (by omega) b) (shw_spans fun x hx => h x (List.mem_cons_of_mem _ hx))
theorem spansL_len {sp : List (Nat × Nat)} (h : smallS sp) (hl : sp.length ≤ 1000) : (listL (sp.map spanL)).length ≤ 80000 := by
  have := listL_len (m := 70) (ls := sp.map spanL) fun l hl => by
    obtain ⟨s, hs, rfl⟩ := List.mem_map.mp hl
    obtain ⟨a, b⟩ := h s hs
    refine Nat.le_trans (tupG_len (m := 30) fun x hx => ?_) (by simp)
    simp at hx
    rcases hx with rfl | rfl
    · exact num_len (by omega)
    · exact num_len b
  rw [List.length_map] at this
  omega
end Pd

set_option maxHeartbeats 4000000
namespace Pd
open PySem PySem.Spec PyProof.Rows L2
/-! ### an exception out of a comprehension's element -/
/-- what a call in the element lets out -/
def XB (X : Cx) (W' : WX) (u : Value) (s' : Shared) : Prop := ∃ pins σ H s, Inv X pins σ H s ∧ L2.CX X.prog X.w X.stack H s (WE W' σ) u s'
abbrev blkX (X : Cx) (s : Shared) (H : Hp) (scope : Scope) (cenv : Env) (fp : List Addr) (W' : WX) : Cx := (X.blk s H scope cenv fp).wish (XB (X.blk s H scope cenv fp) W')
/-- what a def's call may let out, is wished for -/
def Lets (X : Cx) (W : WX) : Prop := ∀ σ, PassesAt (L2.CX X.prog X.w) X σ (WE W σ)
theorem lets_of {X : Cx} {W : WX} (tk : Takes X W) : Lets X W := fun σ => passAt tk σ
theorem lets_blk {X : Cx} {s : Shared} {H : Hp} {scope : Scope} {cenv : Env} {fp : List Addr} {W' : WX} : Lets (blkX X s H scope cenv fp W') W' := fun σ pins H' s' e s2 I c => ⟨pins, σ, H', s', I.unwish, c⟩
theorem flying_less {B B' : Heap} {l : List Env} {a : Addr} {Z : Obj → Prop} {h : Heap} (less : ∀ b o, B'.get? b = some o → B.get? b = some o) (f : HandSPX.FlyingZ B l a Z h) : HandSPX.FlyingZ B' l a Z h := by
  have no : ∀ b, B.get? b = none → B'.get? b = none := fun b z => by
    cases q : B'.get? b with
    | none => rfl
    | some o => rw [less b o q] at z; cases z
  obtain ⟨f1, f2, f3, oe, vs, T, oT, ts, g1, g2, g3, g4, g5, g6⟩ := f
  exact ⟨fun b o e => f1 b o (less b o e), no a f2, funFrames_none f3 fun L hL => no L (f3.mem hL).1, oe, vs, T, oT, ts, g1, g2, g3, g4, no T g5, g6⟩
theorem ff_on {h h' B : Heap} : ∀ {l : List Env}, h.FunFrames B l → (∀ b ∈ frs l, h'.get? b = h.get? b) → h'.FunFrames B l
  | [], _, _ => trivial
  | env :: l, f, k => by
    obtain ⟨f1, ⟨L, o, f2, f3, f4, f5⟩, f6⟩ := f
    have hL : L ∈ frs (env :: l) := List.mem_filterMap.mpr ⟨env, List.mem_cons_self .., f2⟩
    refine ⟨f1, ⟨L, o, f2, f3, (k L hL).trans f4, f5⟩, ff_on f6 fun b hb => ?_⟩
    obtain ⟨e, he, q⟩ := List.mem_filterMap.mp hb
    exact k b (List.mem_filterMap.mpr ⟨e, List.mem_cons_of_mem _ he, q⟩)
section
variable {X : Cx} {pins : List (Addr × Obj)} {σ : L2.St} {H3 : Hp} {s3 : Shared} {scope : Scope} {fp : List Addr} {ce : Env}
theorem noted_out {W W' : WX} {Qf : Value → Shared → Prop} {D : Addr} {u : Value} {s' : Shared} (tk : Takes X W) (hst : X.stack = X.env :: X.outer) (hfr : X.env.frame = some X.env.locals)
    (hW : ∀ cls d σ' H', W' cls d σ' H' → W cls d σ H') (I3 : Inv X pins σ H3 s3) (cL : ce.locals = s3.heap.objs.size) (cF : ce.frame = X.env.frame)
    (hfp : ∀ b ∈ fp, FpOk X pins H3 b ∧ b < s3.heap.objs.size) (x : XB (X.blk s3 H3 scope ce fp) W' u s') :
    notedBy (model X.prog X.w) X.A ce (fun e s' => compEnds (model X.prog X.w) X.A X.xe none Qf (.ref D) ce (.error e) s') u s' := by
  obtain ⟨pins8, σ8, H8, sI, I8, c⟩ := x
  obtain ⟨a, B, H', cls, d, rfl, fl, hokB, ub, na, os, ag, w⟩ := c
  have hAf : X.A.frames = some (X.env :: X.outer) := by rw [I3.ok.frames, hst]
  have hC8 : H8 s3.heap.objs.size = none := by
    have z : H8 ce.locals = none := I8.free
    rwa [cL] at z
  obtain ⟨m, ⟨oC, esC, epC, gC, dC, rC⟩, _⟩ := I8.loc
  have gC : sI.heap.get? s3.heap.objs.size = some oC := by
    have z : sI.heap.get? ce.locals = some oC := gC
    rwa [cL] at z
  have hC' : H' s3.heap.objs.size = none := ub.free _ _ gC hC8
  have nfs : s3.heap.objs.size ∉ frs X.stack := fun hm => by
    obtain ⟨_, o, e, _⟩ := I3.stack.mem hm
    exact absurd (Heap.lt_size e) (Nat.lt_irrefl _)
  have gB : B.get? s3.heap.objs.size = some oC := ub.keep _ _ gC hC8 nfs
  -- the ground without the block's names
  obtain ⟨B', b1, b2⟩ := restrict B fun b => decide (b ≠ s3.heap.objs.size)
  have bIn : ∀ b o, B.get? b = some o → b ≠ s3.heap.objs.size → B'.get? b = some o := fun b o e n => by
    rw [b1 b (decide_eq_true n)]
    exact e
  have bNo : B'.get? s3.heap.objs.size = none := b2 _ (by simp)
  have less : ∀ b o, B'.get? b = some o → B.get? b = some o := fun b o e => by
    have n : b ≠ s3.heap.objs.size := fun z => by rw [z, bNo] at e; cases e
    rw [b1 b (decide_eq_true n)] at e
    exact e
  have fl' := flying_less less fl
  have ho' : HOk X.prog X.w H' B' := fun b o e => (hokB b o e).stay (fun c v hc g => bIn c v g fun z => by
    subst z
    rcases hc with z | z
    · rw [← z, hC'] at e; cases e
    · rw [hC'] at z; cases z) (fun _ z => z) fun _ _ z => z
  show wpAny _ _ (noteFrame (.ref a) ce) _ _ s'
  rw [noteFrame_env _ cF]
  have fl2 : HandSPX.FlyingZ B' (X.env :: X.outer) a (Zc cls d) s'.heap := by
    have z : HandSPX.FlyingZ B' X.stack a (Zc cls d) s'.heap := fl'
    rwa [hst] at z
  refine HandSPX.looks_onZ Zc.steady hAf hfr fl2 fun h1 held up1 => ?_
  show CompFails _ _ _ ce (.ref a) _
  have sC : s'.heap.get? s3.heap.objs.size = some oC := fl.1 _ _ gB
  obtain ⟨sl, hC1⟩ := up1 _ _ sC fun vs z => by rw [dC] at z; cases z
  refine ⟨m, ⟨{ oC with slots := sl }, esC, epC, by rw [cL]; exact hC1, dC, rC⟩, fun h2 m2 hn2 hs2 => ?_⟩
  rw [cL] at hs2
  have hs3 : ∀ b, b ≠ s3.heap.objs.size → h2.get? b = h1.get? b := hs2.2
  obtain ⟨k1, k2, k3, oe, vs, T, oT, ts, g1, g2, g3, g4, g5, g6, g7, g8, g9⟩ := held
  have nC : ∀ b o, h1.get? b = some o → (∀ es ep, o.data ≠ .dict es ep) → b ≠ s3.heap.objs.size := fun b o e hd z => by
    rw [z, hC1] at e
    cases e
    exact hd _ _ dC
  have a2 : h2.get? a = some oe := (hs3 a (nC a oe g1 fun es ep z => by rw [g3] at z; cases z)).trans g1
  have t2 : h2.get? T = some oT := (hs3 T (nC T oT g7 fun es ep z => by rw [g8] at z; cases z)).trans g7
  have st2 : B'.StaysIn h2 := fun b o e => (hs3 b fun z => by rw [z, bNo] at e; cases e).trans (k1 b o e)
  have ff2 : h2.FunFrames B' (X.env :: X.outer) := ff_on k3 fun b hb => hs3 b fun z => nfs (by rw [hst, ← z]; exact hb)
  have held2 : HandSPX.HeldZ B' (X.env :: X.outer) a (Zc cls d) X.env.locals h2 := ⟨st2, k2, ff2, oe, vs, T, oT, ts, a2, g2, g3, g4, g5, g6, t2, g8, g9⟩
  -- on from the def's own frame
  unfold PySem.passOn
  refine wpAny_bind (wpAny_field a2 g3 g4 ?_)
  rw [if_neg (show ¬ ((Value.ref T == Value.none) = true) from by simp), cF, hfr]
  refine wpAny_bind (HandSPX.setFlight_onZ held2 fun h4 held4 up4 => wpAny_throw ?_)
  refine tk _ _ ?_
  obtain ⟨G, q1, q2⟩ := restrict s'.heap fun b => (B'.get? b).isSome || decide (b ∈ frs X.stack)
  have gIn : ∀ b o, B'.get? b = some o → G.get? b = some o := fun b o e => by
    rw [q1 b (by simp [e])]
    exact fl'.1 b o e
  have gF : ∀ b, b ∈ frs X.stack → G.get? b = s'.heap.get? b := fun b hb => q1 b (by simp [hb])
  have gOf : ∀ b o, G.get? b = some o → s'.heap.get? b = some o ∧ ((B'.get? b).isSome = true ∨ b ∈ frs X.stack) := fun b o e => by
    cases q : ((B'.get? b).isSome || decide (b ∈ frs X.stack)) with
    | false => rw [q2 b q] at e; cases e
    | true =>
      rw [q1 b q] at e
      exact ⟨e, by simpa [Bool.or_eq_true] using q⟩
  have lt3 : ∀ b o, s3.heap.get? b = some o → b ≠ s3.heap.objs.size := fun b o e z => by
    have := Heap.lt_size e
    rw [z] at this
    exact absurd this (Nat.lt_irrefl _)
  have un : Un (frs X.stack) fp H3 H' s3.heap G := {
    keep := fun b o e n hb hx => gIn b o (bIn b o (ub.keep b o (I8.base.keep b o e n hb hx) (I8.base.free b o e n hx) hb) (lt3 b o e))
    slot := fun b o e n hb hx => by
      obtain ⟨sl1, e1⟩ := I8.base.slot b o e n hb hx
      obtain ⟨sl2, e2⟩ := ub.slot b _ e1 hb
      exact ⟨sl2, (gF b hb).trans e2⟩
    free := fun b o e n hx => by
      have n8 := I8.base.free b o e n hx
      obtain ⟨o', e1⟩ := I8.base.there b o e hx
      exact ub.free b o' e1 n8
    there := fun b o e hx => by
      obtain ⟨o', e1⟩ := I8.base.there b o e hx
      by_cases hb : b ∈ frs X.stack
      · obtain ⟨sl2, e2⟩ := ub.slot b _ e1 hb
        exact ⟨_, (gF b hb).trans e2⟩
      · obtain ⟨o2, e2⟩ := ub.there b _ e1 hb
        exact ⟨o2, gIn b o2 (bIn b o2 e2 (lt3 b o e))⟩
    tups := fun b xs e => ub.tups b xs (I8.base.tups b xs e)
    frzs := fun b o xs e => ub.frzs b o xs (I8.base.frzs b o xs e)
    tbls := fun b ps e => by
      obtain ⟨m1, e1⟩ := I8.base.tbls b ps e
      obtain ⟨m2, e2⟩ := ub.tbls b _ e1
      exact ⟨m1 ++ m2, by rw [e2, Array.append_assoc]⟩ }
  have os3 : s'.os = s3.os := os.trans I8.os
  have J : Inv X pins σ H' { s' with heap := G } := I3.call' (s' := { s' with heap := G }) (ch := fp) os3 un (ho'.kept gIn) ag fun b hb => ⟨(hfp b hb).1.2.2.2.1, (hfp b hb).1.2.1, (hfp b hb).1.2.2.2.2.1, (hfp b hb).1.2.2.2.2.2⟩
  refine ⟨a, B', { s' with heap := G }, pins, σ, H', cls, d, rfl, J, fun b o e hb => ?_, ?_, .inr (.inr (by rw [hst]; exact held4)), na, rfl, ag, hW _ _ _ _ w⟩
  · obtain ⟨e', h⟩ := gOf b o e
    rcases h with h | h
    · obtain ⟨o', q⟩ := Option.isSome_iff_exists.mp h
      have z := fl'.1 b o' q
      rw [e'] at z; cases z
      exact q
    · exact absurd h hb
  · intro b o e hd
    obtain ⟨e', h⟩ := gOf b o e
    obtain ⟨sl1, e1⟩ := up1 b o e' hd
    have nb : b ≠ s3.heap.objs.size := fun z => by
      rcases h with h | h
      · rw [z, bNo] at h; cases h
      · exact nfs (z ▸ h)
    exact up4 b { o with slots := sl1 } ((hs3 b nb).trans e1) hd
end
end Pd

set_option maxHeartbeats 4000000
namespace Pd
open PySem PySem.Spec PyProof.Rows L2
section
variable {X : Cx}
/-- [elt for target in iter if ..], whose element may let a call's exception out -/
theorem pe_lcX {elt tg iter : Expr} {ifs : List Expr} {scope : Scope} {own : List (Str × Nat)} {pos : Pos} {wi : TI} {g : TG} {tt : TT} {te : WX → TE} {W : WX} (tk : Takes X W) (hst : X.stack = X.env :: X.outer) (hfr : X.env.frame = some X.env.locals)
    (hc : X.calm = true) (hN : X.N.Nodup) (hi : PI X tg iter wi) (ok : BlkOk X.N X.env.scope scope own)
    (hg : ∀ (s : Shared) (H : Hp) (Ca : Addr) (cl : List (Str × Addr)) (fp : List Addr), PG (X.blk s H scope (compEnvC scope cl Ca X.env) fp) tg g)
    (ht : ∀ (s : Shared) (H : Hp) (Ca : Addr) (cl : List (Str × Addr)) (fp : List Addr), PTs (X.blk s H scope (compEnvC scope cl Ca X.env) fp) ifs tt)
    (he : ∀ (W' : WX) (s : Shared) (H : Hp) (Ca : Addr) (cl : List (Str × Addr)) (fp : List Addr), PE (blkX X s H scope (compEnvC scope cl Ca X.env) fp W') elt (te W')) (hs : ∀ x, foldedSetIterable iter X.env x = pure x := by intro _; rfl) :
    PE X (.ListComp elt [⟨tg, iter, ifs, 0⟩] scope pos) (fun σ H Q => tLc wi g tt (te fun c d _ H' => W c d σ H') (own.map (·.2)) σ H Q) := by
  refine ⟨fun pins s σ H Q I h => ?_⟩
  rw [eval_ListComp]
  have free_ : ∀ y ∈ scope.names, y.2 = .free → ∃ c, X.env.cells.lookup y.1 = some c := fun y hy z => by
    rcases ok.free y hy z with k | k
    · exact I.ok.has _ (.inl k)
    · exact I.ok.has _ (.inr k)
  refine comprehension_at (use := none) rfl hs (closure_ok free_) ok.kind (fun y hy z => by rw [ok.uniq y hy, z]) (thn (hi.run pins s σ H _ I h) fun xv sa ha => thn ha fun itv sb hb => ?_)
  obtain ⟨it, fp, tn, J, Hb, e, Ib, T, tb, fb, q⟩ := hb
  subst e
  refine wpAny_newObj_type (newEnv_comp ?_) (by show 0 ≤ sizeLine; decide)
  generalize hD : sb.heap.objs.size = D
  have nD : Hb D = none := Ib.hok.fresh (Nat.le_of_eq hD)
  obtain ⟨Wt, ⟨m0, w0⟩, turn⟩ := q D nD
  generalize hsc : ({ sb with heap := sb.heap.push { cls := .type "list", data := .seq ([] : List Value).toArray } } : Shared) = sc
  have hc3 : sc.heap = sb.heap.push { cls := .type "list", data := .seq ([] : List Value).toArray } := by rw [← hsc]
  have Ic : Inv X pins σ (upd Hb D (.lst [])) sc := by
    rw [← hsc]
    refine Ib.laid (t' := sb.toks) (fun b o z => Heap.get?_push_of_some _ z) (Nat.le_of_eq hD) ⟨Nat.zero_le _, [], 0, .nil, ?_⟩
    rw [← hD]
    exact Heap.get?_push_size _ rfl
  have below : ∀ b ∈ fp, b < sb.heap.objs.size := fun b m => let ⟨_, z, _⟩ := T.obj _ _ tb b m; Heap.lt_size z
  have fc : ∀ b ∈ fp, FpOk X pins (upd Hb D (.lst [])) b ∧ b < sc.heap.objs.size := fun b m => by
    have lt := below b m
    refine ⟨⟨?_, (fb b m).2⟩, by rw [hc3, Heap.size_push]; exact Nat.lt_succ_of_lt lt⟩
    rw [upd_ne (by rw [← hD]; exact Nat.ne_of_lt lt)]
    exact (fb b m).1
  have tc : tn 0 sc.heap := T.keep _ _ _ tb fun b _ o z => by rw [hc3]; exact Heap.get?_push_of_some _ z
  have Id := block_start Ic ok hN fc
  have pg := hg sc (upd Hb D (.lst [])) sc.heap.objs.size (cellsFrom (sc.heap.objs.size + 1) scope.names (cloFrom X.env.cells scope.names [])) fp
  have pt := ht sc (upd Hb D (.lst [])) sc.heap.objs.size (cellsFrom (sc.heap.objs.size + 1) scope.names (cloFrom X.env.cells scope.names [])) fp
  have pe := he (fun c d _ H' => W c d σ H') sc (upd Hb D (.lst [])) sc.heap.objs.size (cellsFrom (sc.heap.objs.size + 1) scope.names (cloFrom X.env.cells scope.names [])) fp
  show codeAny _ _ (.compStart (.ListComp elt [⟨tg, iter, ifs, 0⟩] scope pos) 0 (.ref it) (.ref D) (compEnvC scope (cellsFrom (sc.heap.objs.size + 1) scope.names (cloFrom X.env.cells scope.names [])) sc.heap.objs.size X.env))
    (compEnds (model X.prog X.w) X.A X.xe none (EP X pins σ Q) (.ref D) (compEnvC scope (cellsFrom (sc.heap.objs.size + 1) scope.names (cloFrom X.env.cells scope.names [])) sc.heap.objs.size X.env)) { sc with heap := pushCells (sc.heap.push { cls := .type "dict", data := .dict #[] }) scope.names }
  have nfp : ∀ b ∈ fp, (upd Hb D (.lst [])) b = none := fun b m => (fc b m).1.1
  generalize hce : compEnvC scope (cellsFrom (sc.heap.objs.size + 1) scope.names (cloFrom X.env.cells scope.names [])) sc.heap.objs.size X.env = ce at Id pg pt pe ⊢
  have cL : ce.locals = sc.heap.objs.size := by subst hce; rfl
  have cF : ce.frame = X.env.frame := by subst hce; rfl
  generalize hH3 : upd Hb D (.lst []) = Hc at Ic Id pg pt pe w0 nfp fc
  generalize hsd : ({ sc with heap := pushCells (sc.heap.push { cls := .type "dict", data := .dict #[] }) scope.names } : Shared) = sd at Id ⊢
  have td4 : tn 0 sd.heap := T.keep _ _ _ tc fun b _ o z => by rw [← hsd]; exact pushCells_keeps _ _ _ _ (Heap.get?_push_of_some _ z)
  have stat : ∀ {σ' : L2.St} {H' : Hp} {s' : Shared}, Inv (X.blk sc Hc scope ce fp) [] σ' H' s' → (∀ b ∈ fp, H' b = none) → ∀ b ∈ fp, FpOk (X.blk sc Hc scope ce fp) [] H' b := fun {σ' H' s'} I' hn b m =>
    ⟨hn b m, (I'.ok.exf b m).1, I'.ok.exfs b m, .inl m, fun x c z => (I'.ok.exf b m).2 x c z, fun p hp => absurd (show p ∈ ([] : List (Addr × Obj)) ++ [] from hp) (by simp)⟩
  have loop : codeAny (model X.prog X.w) X.A (.compLoop (.ListComp elt [⟨tg, iter, ifs, 0⟩] scope pos) 0 (.ref it) (.ref D) ce) (compEnds (model X.prog X.w) X.A X.xe none (EP X pins σ Q) (.ref D) ce) sd := by
    refine compLoop_any (fun n s' => ∃ i H', Inv (X.blk sc Hc scope ce fp) [] (wipe σ (own.map (·.2))) H' s' ∧ tn i s'.heap ∧ (∀ b ∈ fp, H' b = none) ∧ Wt i n H') ?_ m0 ⟨0, Hc, Id, td4, nfp, w0⟩
    rintro n s5 ⟨i, H5, I5, t5, n5, w5⟩
    rcases turn i n H5 w5 with ⟨stop, qq⟩ | ⟨go, Nx, hNx, step⟩
    · refine thnF (T.done (X.blk sc Hc scope ce fp) rfl rfl rfl hc i [] s5 _ H5 (fun _ _ => False) I5 (stat I5 n5) t5 stop) fun r s6 ⟨hr, I6⟩ => ?_
      subst hr
      have I7 : Inv X pins σ H5 s6 := Ic.call' (ch := fp) I6.os I6.base I6.hok I6.bare fun b m => ⟨(fc b m).1.2.2.2.1, (fc b m).1.2.1, (fc b m).1.2.2.2.2.1, (fc b m).1.2.2.2.2.2⟩
      have nC : H5 sc.heap.objs.size = none := by
        have z : H5 ce.locals = none := I6.free
        rwa [cL] at z
      obtain ⟨m, hn, _⟩ := I6.loc
      have hn : s6.heap.Ns ce.locals m := hn
      obtain ⟨f0, f1, f2, f3, f4, f5⟩ := Ic.fpOk (Nat.le_refl _) nC
      refine ⟨m, hn, fun h' sb' => ?_⟩
      rw [cL] at sb'
      exact ⟨.ref D, H5, I7.turned (t' := s6.toks) (fun b o hb z => (sb'.2 b hb).trans z) f0 f1 f3 f4 f5, rfl, qq⟩
    · refine thnF (T.item (X.blk sc Hc scope ce fp) rfl rfl rfl hc i [] s5 _ H5 (fun _ _ => False) I5 (stat I5 n5) t5 go) fun r s6 ⟨u, hr, h6⟩ => ?_
      subst hr
      refine thnF h6 fun _ s7 ⟨x, H7, I7, r7, y7, t7, n7⟩ => ?_
      refine thnF (pg.run _ s7 _ H7 x u _ (I7.pinned (stat I7 n7) (T.obj _ _ t7)) r7 (step x H7 y7)) fun _ s8 ⟨σ8, H8, I8, hw8, q8⟩ => ?_
      refine thnF (pt.run _ s8 σ8 H8 _ I8 q8) fun b s9 ⟨H9, I9, q9⟩ => ?_
      have fin : ∀ {s' : Shared} {H' : Hp}, Inv (X.blk sc Hc scope ce fp) ([] ++ pinsAt fp s7.heap) σ8 H' s' → Nx H' → ∃ m, m < n ∧ ∃ i H', Inv (X.blk sc Hc scope ce fp) [] (wipe σ (own.map (·.2))) H' s' ∧ tn i s'.heap ∧ (∀ b ∈ fp, H' b = none) ∧ Wt i m H' := fun {s' H'} I' nx => by
        obtain ⟨m', hm, w'⟩ := hNx H' nx
        have pin' : ∀ b ∈ fp, ∀ o, s7.heap.get? b = some o → s'.heap.get? b = some o ∧ H' b = none := fun b hb o z =>
          have z2 := I'.pin (b, o) (List.mem_append_right _ (List.mem_append_right _ (mem_pinsAt hb z)))
          ⟨z2.1, z2.2.1⟩
        refine ⟨m', hm, i + 1, H', (I'.unpinned (pins := [])).weak (by rw [← hw8, wipe_length]) (fun j v z => ?_), T.keep _ _ _ t7 fun b hb o z => (pin' b hb o z).1, fun b hb => ?_, w'⟩
        · rw [← hw8] at z
          exact (wipe_some z).1
        · obtain ⟨o, z, _⟩ := T.obj _ _ t7 b hb
          exact (pin' b hb o z).2
      cases b with
      | false =>
        simp only [Bool.false_eq_true, if_false] at q9 ⊢
        exact fin I9 q9
      | true =>
        simp only [if_true] at q9 ⊢
        refine wpAny_mono (pe.run _ s9 σ8 H9 _ (I9.wish _) q9) (fun z s10 ⟨yv, H10, I10, r10, acc, hD10, hz10, nx⟩ => ?_) fun ex s10 hx => noted_out tk hst hfr (fun _ _ _ _ z => z) Ic cL cF fc hx
        exact wpAny_mono (app_ok (X := X.blk sc Hc scope ce fp) (E := fun _ _ => False) I10.unwish hD10 hz10 r10 fun s11 I11 => fin I11 nx) (fun _ _ z => z) fun _ _ z => z.elim
  exact codeAny_compStart_list loop (T.self X.A 0 _ _ _ td4 loop)
end
end Pd

set_option maxHeartbeats 4000000
namespace Pd
open PySem PySem.Spec PyProof.Rows L2
/-! ### comprehensions whose element may raise -/
def lcGoX (bt : D → M Unit) (tt : M Bool) (te : M D) (vs : List Nat) : List D → List D → Ev → O (List D)
  | [], acc, ρ => .ok acc ρ
  | d :: l, acc, ρ => match bt d (wipeE ρ vs) with
    | .ok _ ρ1 => (match tt ρ1 with
      | .ok true ρ2 => (match te ρ2 with
        | .ok y ρ3 => if acc.length < sizeLine then lcGoX bt tt te vs l (acc ++ [y]) ρ3 else .no
        | .ex c m ρ3 => .ex c m ρ3
        | .no => .no)
      | .ok false ρ2 => lcGoX bt tt te vs l acc ρ2
      | _ => .no)
    | _ => .no
def lcBack (vs : List Nat) (ρ1 : Ev) : O (List D) → O (List D)
  | .ok acc ρ2 => .ok acc (backE ρ1 ρ2 vs)
  | .ex c m ρ2 => .ex c m (backE ρ1 ρ2 vs)
  | .no => .no
def lcX (fi : M (List D)) (bt : D → M Unit) (tt : M Bool) (te : M D) (vs : List Nat) : M (List D) := fi >>= fun l => fun ρ1 => lcBack vs ρ1 (lcGoX bt tt te vs l [] ρ1)
section
variable {C : Ct} {W : WX} {X : Cx}
theorem Wf.backX {G1 H1 G2 H2 : Hp} {σ σ2 : L2.St} {ρ1 ρ2 : Ev} {α1 α2 : Nat → List Addr} {vs : List Nat} (w1 : Wf C G1 H1 σ ρ1 α1) (gg : Le G1 G2) (e1 : L2.wipe σ2 vs = L2.wipe σ vs) (e2 : σ2.length = σ.length) (w2 : Wf C G2 H2 σ2 ρ2 α2) :
    Wf C G2 H2 σ (backE ρ1 ρ2 vs) (Pd.offs vs α2) where
  le := w2.le
  len := by rw [backE_length, ← w2.len, e2]
  sl := fun j x r q1 q2 => by
    show SlotOk C _ H2 x r (if j ∈ vs then [] else α2 j)
    by_cases hj : j ∈ vs
    · rw [if_pos hj, backE_in hj q2]
      cases er : ρ1[j]? with
      | none => exact rfl
      | some s =>
        have k := w1.sl j x s q1 er
        cases s with
        | va d => exact let ⟨_, v, k2, k3⟩ := k; ⟨rfl, v, k2, k3.mono gg⟩
        | sc ns => exact let ⟨_, p, k2, k3⟩ := k; ⟨rfl, p, k2, le_l gg k3⟩
        | _ => exact rfl
    · rw [if_neg hj]
      rw [backE_out hj] at q2
      rw [← wipe_agree e1 j hj] at q1
      exact w2.sl j x r q1 q2
  out := fun j hj => by
    show (if j ∈ vs then [] else α2 j) = []
    rw [backE_length] at hj
    split
    · rfl
    · exact w2.out j hj
  nd := fun j => by
    show (if j ∈ vs then ([] : List Addr) else α2 j).Nodup
    split
    · exact List.nodup_nil
    · exact w2.nd j
  dj := fun j k a m1 m2 => w2.dj j k a (offs_sub m1).2 (offs_sub m2).2
  ng := fun j a m => w2.ng j a (offs_sub m).2
theorem Step.offs2 {G H G' H' : Hp} {α α' : Nat → List Addr} {vs : List Nat} (s : Step G H α G' H' α') : Step G H α G' H' (Pd.offs vs α') := ⟨s.gg, s.hh, s.fr, fun j a m => s.aa j a (offs_sub m).2, s.fz⟩
theorem dL_lcX {fi : M (List D)} {bt : D → M Unit} {tt : M Bool} {te : M D} {vs vt : List Nat} (hv : ∀ j ∈ vt, j ∈ vs) {σ : L2.St} {H : Hp} {Q : VK} (h : dL C W (lcX fi bt tt te vs) σ H Q) :
    tLc (dI C W fi) (dG C vt bt) (dT C W0 tt) (dE C (fun c d _ H' => W c d σ H') te) vs σ H Q := by
  obtain ⟨G0, ρ0, α0, w0, h⟩ := h
  refine ⟨G0, ρ0, α0, w0, (RnL.bind (R' := fun G l J => IterOk C J l G) h).mono fun J H1 ⟨G1, ρ1, α1, l, w1, s1, ⟨Gd, Y, wk, hGd, hY⟩, h1⟩ => ?_⟩
  intro Dn nD
  have gD : G1 Dn = none := by
    cases q : G1 Dn with
    | none => rfl
    | some u => rw [w1.le Dn u q] at nD; cases nD
  have aD : ∀ i, Dn ∉ α1 i := fun i m => by
    obtain ⟨_, o, k⟩ := w1.ng i Dn m
    rw [nD] at k; cases k
  unfold RnL at h1
  rw [show (fun ρ1 => lcBack vs ρ1 (lcGoX bt tt te vs l [] ρ1)) ρ1 = lcBack vs ρ1 (lcGoX bt tt te vs l [] ρ1) from rfl] at h1
  generalize el : lcGoX bt tt te vs l [] ρ1 = res at h1
  refine lc_it wk (fun i H2 => ∃ G2 ρ2 α2 acc xs σ2, L2.wipe σ2 vs = L2.wipe σ vs ∧ σ2.length = σ.length ∧ Wf C G2 H2 σ2 ρ2 α2 ∧ Step G1 H1 α1 G2 H2 α2 ∧ H2 Dn = some (.lst xs) ∧ RpL C G2 acc xs ∧ G2 Dn = none ∧ (∀ j, Dn ∉ α2 j) ∧ lcGoX bt tt te vs (l.drop i) acc ρ2 = res) ?_ ?_ ?_ ?_
  · exact ⟨G1, ρ1, α1, [], [], σ, rfl, rfl, w1.side gD aD, (Step.refl ..).side nD, upd_same, rfl, gD, aD, el⟩
  · rintro i H2 _ ⟨G2, ρ2, α2, acc, xs, σ2, _, _, w2, s2, _⟩
    exact hGd G2 H2 s2.gg w2.le
  · rintro i x H2 H3 hi ⟨G2, ρ2, α2, acc, xs, σ2, e1, e2, w2, s2, d2, r2, g2, a2, go⟩ hy
    have ed : l[i]? = some l[i] := List.getElem?_eq_getElem hi
    generalize l[i] = d at ed
    obtain ⟨G3, x3, rx⟩ := hY i H2 G2 x H3 d s2.gg w2.le ed hy
    rw [show l.drop i = d :: l.drop (i + 1) by
      obtain ⟨k1, k2⟩ := List.getElem?_eq_some_iff.mp ed
      rw [← k2]
      exact List.drop_eq_getElem_cons k1] at go
    have w3 := (w2.ext x3).wipe vs
    rw [e1] at w3
    have st3 : Step G2 H2 α2 G3 H3 (Pd.offs vs α2) := (x3.step (α := α2)).trans (Step.offs G3 H3 α2 vs)
    obtain ⟨d3, g3, a3⟩ := st3.other d2 g2 a2
    refine ⟨G3, wipeE ρ2 vs, Pd.offs vs α2, d, w3, rx, ?_⟩
    unfold lcGoX at go
    unfold RnG
    cases eb : bt d (wipeE ρ2 vs) with
    | no => rw [eb] at go; subst go; exact h1.elim
    | ex c m ρ' => rw [eb] at go; subst go; exact h1.elim
    | ok u ρ3 =>
      rw [eb] at go
      simp only at go
      intro σ4 G4 H4 α4 st4 w4 l4 out4
      obtain ⟨d4, g4, a4⟩ := st4.other d3 g3 a3
      have ew : L2.wipe σ4 vs = L2.wipe σ vs := (wipe_ext l4 fun j hj => out4 j fun m => hj (hv j m)).trans (wipe_ext (wipe_length σ vs) fun j hj => wipe_out' hj)
      refine ⟨ew, G4, ρ3, α4, w4, ?_⟩
      unfold Rn
      cases et : tt ρ3 with
      | no => rw [et] at go; subst go; exact h1.elim
      | ex c m ρ' => rw [et] at go; subst go; exact h1.elim
      | ok b ρ5 =>
        rw [et] at go
        intro c G5 H5 α5 st5 w5 rc
        cases rc
        obtain ⟨d5, g5, a5⟩ := st5.other d4 g4 a4
        have l5 : σ4.length = σ.length := l4.trans (wipe_length σ vs)
        have stA : Step G1 H1 α1 G5 H5 α5 := (s2.trans (st3.trans st4)).trans st5
        cases b with
        | false =>
          rw [if_neg Bool.false_ne_true]
          exact ⟨G5, ρ5, α5, acc, xs, σ4, ew, l5, w5, stA, d5, r2.mono ((st3.trans st4).trans st5).gg, g5, a5, go⟩
        | true =>
          rw [if_pos rfl]
          simp only at go
          refine ⟨G5, ρ5, α5, w5, ?_⟩
          unfold Rn
          cases ee : te ρ5 with
          | no => rw [ee] at go; subst go; exact h1.elim
          | ex c m ρ6 =>
            rw [ee] at go
            subst go
            intro cls dct G6 H6 α6 st6 w6 eo
            exact h1 cls dct G6 H6 _ (stA.trans st6).offs2 (w1.backX (stA.trans st6).gg ew l5 w6) eo
          | ok y ρ6 =>
            rw [ee] at go
            simp only at go
            intro vy G6 H6 α6 st6 w6 ry
            obtain ⟨d6, g6, a6⟩ := st6.other d5 g5 a5
            by_cases hz : acc.length < sizeLine
            · rw [if_pos hz] at go
              have r6 := r2.mono (((st3.trans st4).trans st5).trans st6).gg
              exact ⟨xs, d6, by rw [r6.length]; exact hz, G6, ρ6, α6, acc ++ [y], xs ++ [vy], σ4, ew, l5, w6.side g6 a6, (stA.trans st6).side nD, upd_same, r6.append ⟨vy, [], rfl, ry, rfl⟩, g6, a6, go⟩
            · rw [if_neg hz] at go; subst go; exact h1.elim
  · rintro H2 ⟨G2, ρ2, α2, acc, xs, σ2, e1, e2, w2, s2, d2, r2, g2, a2, go⟩
    rw [List.drop_length] at go
    unfold lcGoX at go
    subst go
    exact h1 Dn xs G2 H2 _ s2.offs2 (w1.backX s2.gg e1 e2 w2) d2 r2 g2 (fun j m => a2 j (offs_sub m).2) (.inr nD)
theorem pl_lcX {elt tg iter : Expr} {ifs : List Expr} {scope : Scope} {own : List (Str × Nat)} {pos : Pos} {fi : M (List D)} {bt : D → M Unit} {tt : M Bool} {te : M D} {vt : List Nat} (tk : Takes X W) (hst : X.stack = X.env :: X.outer) (hfr : X.env.frame = some X.env.locals)
    (hc : X.calm = true) (hN : X.N.Nodup) (hi : PI X tg iter (dI C W fi)) (ok : BlkOk X.N X.env.scope scope own)
    (hg : ∀ (s : Shared) (H : Hp) (Ca : Addr) (cl : List (Str × Addr)) (fp : List Addr), PG (X.blk s H scope (compEnvC scope cl Ca X.env) fp) tg (dG C vt bt))
    (ht : ∀ (s : Shared) (H : Hp) (Ca : Addr) (cl : List (Str × Addr)) (fp : List Addr), PTs (X.blk s H scope (compEnvC scope cl Ca X.env) fp) ifs (dT C W0 tt))
    (he : ∀ (W' : WX) (s : Shared) (H : Hp) (Ca : Addr) (cl : List (Str × Addr)) (fp : List Addr), PE (blkX X s H scope (compEnvC scope cl Ca X.env) fp W') elt (dE C W' te))
    (hv : ∀ j ∈ vt, j ∈ own.map (·.2) := by decide) (hs : ∀ x, foldedSetIterable iter X.env x = pure x := by intro _; rfl) :
    PE X (.ListComp elt [⟨tg, iter, ifs, 0⟩] scope pos) (dL C W (lcX fi bt tt te (own.map (·.2)))) :=
  pe_mono (pe_lcX (te := fun W' => dE C W' te) tk hst hfr hc hN hi ok hg ht he hs) fun _ _ _ h => dL_lcX hv h
end
end Pd

set_option maxHeartbeats 4000000
namespace Pd
open PySem PySem.Spec PyProof.Rows L2
/-! ### own instances -/
theorem zip_look {f : Str} {v : V} : ∀ {fl : List Str} {xs : List V} {k : Nat}, fl.Nodup → fl[k]? = some f → xs[k]? = some v → (fl.zip xs).lookup f = some v
  | [], _, _, _, h, _ => by simp at h
  | g :: fl, [], k, _, _, h => by simp at h
  | g :: fl, x :: xs, 0, _, h1, h2 => by
    simp at h1 h2
    subst h1 h2
    simp [List.lookup]
  | g :: fl, x :: xs, k + 1, nd, h1, h2 => by
    simp at h1 h2
    obtain ⟨n1, n2⟩ := List.nodup_cons.mp nd
    have ne : (f == g) = false := beq_eq_false_iff_ne.mpr fun z => n1 (by rw [← z]; exact List.mem_of_getElem? h1)
    rw [List.zip_cons_cons, List.lookup_cons, ne]
    exact zip_look n2 h1 h2
theorem zip_no {m : Str} : ∀ {fl : List Str} {xs : List V}, m ∉ fl → (fl.zip xs).lookup m = none
  | [], _, _ => rfl
  | g :: fl, [], _ => rfl
  | g :: fl, x :: xs, h => by
    have ne : (m == g) = false := beq_eq_false_iff_ne.mpr fun z => h (by rw [z]; exact List.mem_cons_self ..)
    rw [List.zip_cons_cons, List.lookup_cons, ne]
    exact zip_no fun z => h (List.mem_cons_of_mem _ z)
theorem zip_put {f : Str} {z : V} : ∀ {fl : List Str} {xs : List V} {k : Nat}, fl.Nodup → fl[k]? = some f → k < xs.length → putF f z (fl.zip xs) = fl.zip (xs.set k z)
  | [], _, _, _, h, _ => by simp at h
  | g :: fl, [], k, _, _, h => by simp at h
  | g :: fl, x :: xs, 0, _, h1, _ => by
    simp at h1
    subst h1
    show (if g = g then _ else _) = _
    rw [if_pos rfl]
    rfl
  | g :: fl, x :: xs, k + 1, nd, h1, h2 => by
    simp at h1 h2
    obtain ⟨n1, n2⟩ := List.nodup_cons.mp nd
    have ne : g ≠ f := fun z => n1 (by rw [z]; exact List.mem_of_getElem? h1)
    show (if g = f then _ else _) = _
    rw [if_neg ne]
    show (g, x) :: putF f z (fl.zip xs) = (g :: fl).zip (x :: xs.set k z)
    rw [zip_put n2 h1 h2]
    rfl
theorem RpOL.getdX {C : Ct} {G H : Hp} : ∀ {ts : List T} {xs : List V} {k : Nat} {x : D}, RpOL C G H ts xs → ts[k]? = some (.d x) → ∃ v, xs[k]? = some v ∧ Rp C G x v
  | [], _, _, _, _, e => by simp at e
  | t :: ts, _, 0, x, h, e => by
    obtain ⟨v, r, rfl, h1, h2⟩ := h
    simp at e
    subst e
    exact ⟨v, rfl, h1⟩
  | t :: ts, _, k + 1, x, h, e => by
    obtain ⟨v, r, rfl, h1, h2⟩ := h
    exact RpOL.getdX (k := k) h2 (by simpa using e)
theorem RpOL.setdX {C : Ct} {G H H' : Hp} {y : D} {v : V} (ry : Rp C G y v) : ∀ {ts : List T} {xs : List V} {k : Nat} {x : D}, RpOL C G H ts xs → ts[k]? = some (.d x) → (∀ a ∈ adrL ts, H' a = H a) → adrL (ts.set k (.d y)) = adrL ts ∧ RpOL C G H' (ts.set k (.d y)) (xs.set k v)
  | [], _, _, _, _, e, _ => by simp at e
  | t :: ts, _, 0, x, h, e, kp => by
    obtain ⟨w, r, rfl, h1, h2⟩ := h
    simp at e
    subst e
    refine ⟨rfl, v, r, rfl, ry, h2.keep (Le.refl G) fun a m => kp a ?_⟩
    unfold adrL
    exact List.mem_append_right _ m
  | t :: ts, _, k + 1, x, h, e, kp => by
    obtain ⟨w, r, rfl, h1, h2⟩ := h
    obtain ⟨a1, a2⟩ := RpOL.setdX ry (k := k) h2 (by simpa using e) fun a m => kp a (by unfold adrL; exact List.mem_append_right _ m)
    refine ⟨?_, w, r.set k v, rfl, h1.keep (Le.refl G) fun a m => kp a (by unfold adrL; exact List.mem_append_left _ m), a2⟩
    show t.adr ++ adrL (ts.set k (.d y)) = t.adr ++ adrL ts
    rw [a1]
theorem RpOL.len {C : Ct} {G H : Hp} : ∀ {ts : List T} {xs : List V}, RpOL C G H ts xs → xs.length = ts.length
  | [], _, h => by cases h; rfl
  | t :: ts, _, h => by
    obtain ⟨v, r, rfl, _, h2⟩ := h
    simp [RpOL.len h2]
/-- what the written part says of a class whose instances are one's own -/
structure OwC (C : Ct) (c : Str) (cd : Addr) : Prop where
  cls : C.cls c = some cd
  ok : Cls C.K cd
  nd : (C.flds c).Nodup
  few : (C.flds c).length < 1000
def fldM (c : Str) (i k : Nat) : M D := fun ρ => match ρ[i]? with
  | some (.ow (.o _ _ c' ts)) => if c' = c then (match ts[k]? with
    | some (.d x) => .ok x ρ
    | _ => .no) else .no
  | _ => .no
theorem fldM_ok {c : Str} {i k : Nat} {ρ : Ev} : fldM c i k ρ = .no ∨ ∃ p dx ts x, ρ[i]? = some (.ow (.o p dx c ts)) ∧ ts[k]? = some (.d x) ∧ fldM c i k ρ = .ok x ρ := by
  unfold fldM
  split
  · rename_i p dx c' ts e
    by_cases h : c' = c
    · subst h
      rw [if_pos rfl]
      split
      · rename_i x e2
        exact .inr ⟨p, dx, ts, x, e, e2, rfl⟩
      · exact .inl rfl
    · rw [if_neg h]; exact .inl rfl
  · exact .inl rfl
section
variable {C : Ct} {W : WX} {X : Cx}
theorem pd_fld {c f y : Str} {cd : Addr} {p2 pos : Pos} (i k : Nat) (hC : C.K = X.K) (o : OwC C c cd) (n : NoAttr C.K cd f) (hk : (C.flds c)[k]? = some f) (hN : X.N[i]? = some y := by rfl)
    (hv : Vis X.env.scope y := by first | exact Or.inl rfl | exact Or.inr (Or.inl rfl) | exact Or.inr (Or.inr rfl)) (hd : (y == ("__debug__" : Str)) = false := by decide) (hcd : (y == ("__classdict__" : Str)) = false := by decide)
    (hb : attributeBase (.Name y p2) f X.env (eval (.Name y p2) X.env) = eval (.Name y p2) X.env := by rfl) : PE X (.Attribute (.Name y p2) f pos) (dE C W (fldM c i k)) :=
  pe_mono (pe_fld (pe_var (i := i) hN hv hd hcd) hb) fun σ H Q h => by
    obtain ⟨G, ρ, α, w, h⟩ := h
    unfold Rn at h
    rcases fldM_ok (c := c) (i := i) (k := k) (ρ := ρ) with z | ⟨p, dx, ts, x, e1, e2, e3⟩
    · rw [z] at h; exact h.elim
    · rw [e3] at h
      obtain ⟨v, hv, rv, _⟩ := ow_val w e1
      obtain ⟨cd', xs, rfl, h1, h2, h3, h4, h5⟩ := rv
      rw [o.cls] at h1
      cases h1
      obtain ⟨u, hu, ru⟩ := h5.getdX e2
      exact ⟨.ref p, hv, p, cd, dx, _, u, rfl, h2, hC ▸ o.ok, hC ▸ n, zip_look o.nd hk hu, h u G H α (.refl ..) w ru⟩
/-- self.f += n -/
def augM (c : Str) (i k : Nat) (n : Int) : M Fl := fun ρ => match ρ[i]? with
  | some (.ow (.o p dx c' ts)) => if c' = c then (match ts[k]? with
    | some (.d (.int a)) => .ok .nx (ρ.set i (.ow (.o p dx c (ts.set k (.d (.int (a + n)))))))
    | _ => .no) else .no
  | _ => .no
theorem augM_ok {c : Str} {i k : Nat} {n : Int} {ρ : Ev} : augM c i k n ρ = .no ∨ ∃ p dx ts a, ρ[i]? = some (.ow (.o p dx c ts)) ∧ ts[k]? = some (.d (.int a)) ∧ augM c i k n ρ = .ok .nx (ρ.set i (.ow (.o p dx c (ts.set k (.d (.int (a + n))))))) := by
  unfold augM
  split
  · rename_i p dx c' ts e
    by_cases h : c' = c
    · subst h
      rw [if_pos rfl]
      split
      · rename_i a e2
        exact .inr ⟨p, dx, ts, a, e, e2, rfl⟩
      · exact .inl rfl
    · rw [if_neg h]; exact .inl rfl
  · exact .inl rfl
theorem pds_aug {c f y : Str} {cd : Addr} {p2 tpos npos pos : Pos} (i k : Nat) (n : Int) (hC : C.K = X.K) (o : OwC C c cd) (na : NoAttr C.K cd f) (hk : (C.flds c)[k]? = some f) {e : Expr} (he : PE X e (tC (.int n))) (hN : X.N[i]? = some y := by rfl)
    (hv : Vis X.env.scope y := by first | exact Or.inl rfl | exact Or.inr (Or.inl rfl) | exact Or.inr (Or.inr rfl)) (hd : (y == ("__debug__" : Str)) = false := by decide) (hcd : (y == ("__classdict__" : Str)) = false := by decide) :
    PS X (.AugAssign (.Attribute (.Name y p2) f tpos) .Add e pos) (dS C W (augM c i k n)) :=
  ps_mono (ps_fldaug (pe_var (i := i) hN hv hd hcd) he in_add) fun E σ H h => by
    obtain ⟨G, ρ, α, w, h⟩ := h
    unfold RnS at h
    rcases augM_ok (c := c) (i := i) (k := k) (n := n) (ρ := ρ) with z | ⟨p, dx, ts, a, e1, e2, e3⟩
    · rw [z] at h; exact h.elim
    · rw [e3] at h
      obtain ⟨v, hv, rv, ha⟩ := ow_val w e1
      obtain ⟨cd', xs, rfl, h1, h2, h3, h4, h5⟩ := rv
      have h1' := h1
      rw [o.cls] at h1
      cases h1
      obtain ⟨u, hu, ru⟩ := h5.getdX e2
      cases ru
      have hz : ((C.flds c).zip xs).length < 1000 := by
        rw [List.length_zip]
        have := o.few
        omega
      refine ⟨.ref p, hv, p, cd, dx, _, .int a, rfl, h2, hC ▸ o.ok, hC ▸ na, zip_look o.nd hk hu, a, n, rfl, rfl, dx, _, h2, hz, ?_⟩
      have hkx : k < xs.length := (List.getElem?_eq_some_iff.mp hu).1
      rw [zip_put o.nd hk hkx]
      have pin : p ∈ α i := by rw [ha]; unfold T.adr; exact List.mem_cons_self ..
      have nd := w.nd i
      rw [ha] at nd
      unfold T.adr at nd
      obtain ⟨n1, n2⟩ := List.nodup_cons.mp nd
      have keep : ∀ b ∈ adrL ts, upd H p (.ins cd dx ((C.flds c).zip (xs.set k (.int (a + n))))) b = H b := fun b m => upd_ne fun z => n1 (by rw [← z]; exact List.mem_cons_of_mem _ m)
      obtain ⟨a1, a2⟩ := h5.setdX (y := .int (a + n)) (v := .int (a + n)) rfl e2 keep
      have hsx : σ[i]? = some (some (.ref p)) := hv
      have pdx : dx ≠ p := fun z => n1 (by rw [← z]; exact List.mem_cons_self ..)
      obtain ⟨st, w2⟩ := w.upd (o := .ins cd dx ((C.flds c).zip (xs.set k (.int (a + n))))) pin hsx (r := .ow (.o p dx c (ts.set k (.d (.int (a + n)))))) ⟨by
        rw [ha]
        show p :: dx :: adrL ts = p :: dx :: adrL _
        rw [a1], .ref p, rfl, cd, xs.set k (.int (a + n)), rfl, h1', upd_same, by rw [upd_ne pdx]; exact h3, by rw [List.length_set]; exact h4, a2⟩
      exact h σ G _ α st w2
end
end Pd

set_option maxHeartbeats 4000000
namespace Pd
open PySem PySem.Spec PyProof.Rows L2
/-! ### methods -/
def tMethS (cd : Addr) (m : Str) (sp : Sp) (E : L2.St → XK) (ta : TE) (t : TA) : TE := fun σ H Q => ta σ H fun x H1 => ∃ a dx fs, x = .ref a ∧ H1 a = some (.ins cd dx fs) ∧ fs.lookup m = none ∧ t σ H1 fun vs H2 => sp (x :: vs) H2 Q (E σ)
section
variable {C : Ct} {W : WX} {X : Cx} {CX : CXT} {k : Nat} {f cd : Addr} {fd : FuncData} {ps : List Str} {sp : Sp} {E : L2.St → XK} {m : Str} {apos pos : Pos} {e o : Expr} {es : List Expr} {ta : TE} {t : TA}
theorem pe_methP {pl : Sem Bool} (ho : PE X o ta) (c : Cls X.K cd) (hm : Meth X.K cd m f) (F : FnOk X.prog X.w X.K X.mg X.base CX k f fd ps sp) (hr : Room k X.A) (hb : Binds X.K fd ps []) (hx : ∀ σ, PassesAt CX X σ (E σ)) (ha : PA X (e :: es) t)
    (he : starEach (e :: es) X.env = (false, eval e X.env) :: starEach es X.env := by rfl) (hpl : (backTo pos (starEach es X.env)).any (·.1) = false := by rfl)
    (ht : eval (.Call (.Attribute o m apos) (e :: es) [] pos) X.env = (do
      let ov ← eval o X.env
      standAt apos.atName
      let (f, first) ← holding [ov] (getMethod ov m pl)
      callWith pos f first (backTo pos (starEach (e :: es) X.env)) (backToKw pos (keywordEach [] X.env))) := by rfl) : PE X (.Call (.Attribute o m apos) (e :: es) [] pos) (tMethS cd m sp E ta t) :=
  ⟨fun pins s σ H Q I h => PySem.W.methodCall_KW (pl := pl) (thn (ho.run pins s σ H _ I h) fun u s1 z => (by
    obtain ⟨x, H1, I1, rx, a, dx, fs, rfl, ea, l, q⟩ := z
    obtain rfl : u = Value.ref a := rx
    exact getmeth_ok I1 ea c hm l (PySem.W.callWith_K (first := [.ref a]) (h₀ := X.base) I.ok.mod.kin hm.kp (thn (ha.run pos pins s1 σ H1 _ I1 q) fun us s2 z => (by
      obtain ⟨vs, H2, I2, rv, q2⟩ := z
      exact ⟨I2.kIn, run_fnS (us := .ref a :: us) (vs := .ref a :: vs) F hr hb (hx σ) I2 (.cons rfl rv) q2⟩)) he hpl))) ht⟩
end
/-- a method of a class whose instances are one's own -/
structure HsM (C : Ct) (P : Program) (w : World) (mg : Str → Option Value) (base : Heap) (cd : Addr) (m : Str) (k : Nat) (ps : List Str) (n np : Nat) (f : M Fl) : Prop where
  ex : ∃ g fd, FnOk P w C.K mg base (L2.CX P w) k g fd ps (spG C n np f) ∧ Binds C.K fd ps [] ∧ Meth C.K cd m g
theorem hsM_of {C : Ct} {P : Program} {w : World} {mg : Str → Option Value} {base : Heap} {k : Nat} {m qual : Str} {params : Arguments} {body : List Stmt} {scope : Scope} {kws : List (Str × V)} {f cd : Addr} {fd : FuncData} {N ps : List Str} {g : M Fl}
    (F : FunD C.K m qual params body scope [] kws f fd) (S : FnScope N ps scope) (hm : Meth C.K cd m f)
    (hb : ∀ (kV doc pm : Value) (an : Option Addr) (cdv ct : Value) (us : List Value), us.length = ps.length → bindArgs (PySem.W.fnOf m qual params body scope .none kV doc pm an cdv ct) ⟨us, []⟩ = pure (ps.zip us))
    (hbody : ∀ (cdv : Value) (A : Around) (outer : List Env) (s : Shared) (H : Hp) (E : XK), Room k (A.deeper (envOfC qual scope s.heap.objs.size f cdv)) → PSs (cxOf (L2.CX P w) P w C.K mg base N qual scope f cdv A outer s H E) body (dS C (fun c d _ H' => E c d H') g)) :
    HsM C P w mg base cd m (k + 1) ps N.length ps.length g := ⟨⟨f, fd, fn_g F S hbody, F.bindsN hb, hm⟩⟩
theorem hsM_mono {C : Ct} {P : Program} {w : World} {mg : Str → Option Value} {base : Heap} {k k' : Nat} {cd : Addr} {m : Str} {n np : Nat} {ps : List Str} {f : M Fl} (h : HsM C P w mg base cd m k ps n np f) (hk : k ≤ k') : HsM C P w mg base cd m k' ps n np f := by
  obtain ⟨g, fd, F, b⟩ := h.ex
  exact ⟨⟨g, fd, F.mono hk, b⟩⟩
def isCl (c : Str) (i : Nat) (ρ : Ev) : Bool := match ρ[i]? with
  | some (.ow (.o _ _ c' _)) => c' == c
  | _ => false
def methO (c : Str) (n np i : Nat) (f : M Fl) (fa : M (List D)) : M D := fun ρ => if isCl c i ρ = true then callO n np i f fa ρ else .no
section
variable {C : Ct} {W : WX} {X : Cx}
theorem pd_methO {c m y : Str} {cd : Addr} {k k' n np : Nat} {ps : List Str} {f : M Fl} {fa : M (List D)} {e : Expr} {es : List Expr} {p2 apos pos : Pos} {pl : Sem Bool} (i : Nat) (hC : C.K = X.K) (o : OwC C c cd) (hno : m ∉ C.flds c) (H : HsM C X.prog X.w X.mg X.base cd m k ps n np f)
    (hr : Room k' X.A) (lt : Lets X W) (ha : PA X (e :: es) (dA C W fa)) (hk : k ≤ k' := by decide) (hN : X.N[i]? = some y := by rfl)
    (hv : Vis X.env.scope y := by first | exact Or.inl rfl | exact Or.inr (Or.inl rfl) | exact Or.inr (Or.inr rfl)) (hd : (y == ("__debug__" : Str)) = false := by decide) (hcd : (y == ("__classdict__" : Str)) = false := by decide)
    (he : starEach (e :: es) X.env = (false, eval e X.env) :: starEach es X.env := by rfl) (hpl : (backTo pos (starEach es X.env)).any (·.1) = false := by rfl)
    (ht : eval (.Call (.Attribute (.Name y p2) m apos) (e :: es) [] pos) X.env = (do
      let ov ← eval (.Name y p2) X.env
      standAt apos.atName
      let (f, first) ← holding [ov] (getMethod ov m pl)
      callWith pos f first (backTo pos (starEach (e :: es) X.env)) (backToKw pos (keywordEach [] X.env))) := by rfl) : PE X (.Call (.Attribute (.Name y p2) m apos) (e :: es) [] pos) (dE C W (methO c n np i f fa)) := by
  obtain ⟨g, fd, F, b, hm⟩ := H.ex
  refine pe_mono (pe_methP (E := WE W) (pe_var (i := i) hN hv hd hcd) (hC ▸ o.ok) (hC ▸ hm) (hC ▸ F) (hr.mono hk) (hC ▸ b) lt ha he hpl ht) fun σ Hh Q h => ?_
  obtain ⟨G, ρ, α, w, h⟩ := h
  by_cases hcl : isCl c i ρ = true
  · have h2 : dE C W (callO n np i f fa) σ Hh Q := ⟨G, ρ, α, w, by
      unfold Rn methO at h
      rw [if_pos hcl] at h
      exact h⟩
    obtain ⟨v, hv, h3⟩ := dE_callO h2
    unfold isCl at hcl
    split at hcl
    · rename_i p dx c' ts e1
      obtain rfl := beq_iff_eq.mp hcl
      obtain ⟨v', hv', rv, _⟩ := ow_val w e1
      obtain ⟨cd', xs, rfl, q1, q2, q3, q4, q5⟩ := rv
      rw [o.cls] at q1
      cases q1
      rw [hv'] at hv
      cases hv
      exact ⟨.ref p, hv', p, dx, _, rfl, q2, zip_no hno, h3⟩
    · cases hcl
  · unfold Rn methO at h
    rw [if_neg hcl] at h
    exact h.elim
end
/-! ### y = C(e, ..), then a rest that ends in a value or an exception, wherever the instance lies -/
/-- __init__ of such a class: the fields from the arguments -/
def spNew (C : Ct) (c : Str) (cd : Addr) (np : Nat) (mkV : List V → List V) : Sp := fun vs H Q _ => ∃ a dx us, vs = .ref a :: us ∧ us.length = np ∧ H a = some (.ins cd dx []) ∧ Q .non (upd H a (.ins cd dx ((C.flds c).zip (mkV us))))
def ResP (rest : M Fl) (ρ0 : Ev) (n : Nat) : D ⊕ (Str × List D) → Prop
  | .inl d => ∃ ρ', ρ'.length = n ∧ rest ρ0 = .ok (.rt d) ρ'
  | .inr x => ∃ ρ', ρ'.length = n ∧ rest ρ0 = .ex x.1 x.2 ρ'
def resO (n : Nat) : D ⊕ (Str × List D) → O Fl
  | .inl d => .ok (.rt d) (List.replicate n .un)
  | .inr x => .ex x.1 x.2 (List.replicate n .un)
open Classical in
noncomputable def newGo (i : Nat) (c : Str) (ts : List D) (rest : M Fl) : M Fl := fun ρ =>
  if h : i < ρ.length ∧ ∃ r, ∀ p dx : Addr, p ≠ dx → ResP rest (ρ.set i (.ow (.o p dx c (ts.map .d)))) ρ.length r then resO ρ.length h.2.choose else .no
noncomputable def newM (i : Nat) (c : Str) (np : Nat) (mk : List D → List D) (fa : M (List D)) (rest : M Fl) : M Fl := fa >>= fun ds => if ds.length = np then newGo i c (mk ds) rest else no
theorem newGo_of {i : Nat} {c : Str} {ts : List D} {rest : M Fl} {ρ : Ev} {r : D ⊕ (Str × List D)} (hi : i < ρ.length) (h : ∀ p dx : Addr, p ≠ dx → ResP rest (ρ.set i (.ow (.o p dx c (ts.map .d)))) ρ.length r) : newGo i c ts rest ρ = resO ρ.length r := by
  have dec : i < ρ.length ∧ ∃ r, ∀ p dx : Addr, p ≠ dx → ResP rest (ρ.set i (.ow (.o p dx c (ts.map .d)))) ρ.length r := ⟨hi, r, h⟩
  have e : dec.2.choose = r := by
    have a := dec.2.choose_spec 0 1 (by decide)
    have b := h 0 1 (by decide)
    generalize dec.2.choose = r' at a
    have key : ∀ r1 r2 : D ⊕ (Str × List D), ResP rest (ρ.set i (.ow (.o 0 1 c (ts.map .d)))) ρ.length r1 → ResP rest (ρ.set i (.ow (.o 0 1 c (ts.map .d)))) ρ.length r2 → r1 = r2 := by
      rintro (d1 | ⟨x1, l1⟩) (d2 | ⟨x2, l2⟩) ⟨q1, _, h1⟩ ⟨q2, _, h2⟩
      · have z := h1.symm.trans h2
        injection z with z _
        injection z with z
        rw [z]
      · exact nomatch h1.symm.trans h2
      · exact nomatch h1.symm.trans h2
      · have z := h1.symm.trans h2
        injection z with z1 z2
        simp only at z1 z2
        rw [z1, z2]
    exact key _ _ a b
  unfold newGo
  rw [dif_pos dec, e]
end Pd

set_option maxHeartbeats 4000000
namespace Pd
open PySem PySem.Spec PyProof.Rows L2
theorem adrL_ds : ∀ ds : List D, adrL (ds.map .d) = [] := adr_ds
theorem pds_new {C : Ct} {W : WX} {X : Cx} {c x y : Str} {cd fI : Addr} {fd : FuncData} {ps : List Str} {k k' np : Nat} {mk : List D → List D} {mkV : List V → List V} {fa : M (List D)} {rest : M Fl} {e : Expr} {es : List Expr} {sts : List Stmt} {p p2 pos pos2 : Pos} (i : Nat)
    (hC : C.K = X.K) (hN : X.N.Nodup) (o : OwC C c cd) (Mk_ : Mk C.K cd fI) (F : FnOk X.prog X.w C.K X.mg X.base (L2.CX X.prog X.w) k fI fd ps (spNew C c cd np mkV)) (hb : Binds C.K fd ps []) (hr : Room k' X.A) (hm : X.mg x = some (.ref cd))
    (hrel : ∀ G ds vs, RpL C G ds vs → ds.length = np → RpL C G (mk ds) (mkV vs) ∧ (mkV vs).length = (C.flds c).length) (ha : PA X (e :: es) (dA C W fa)) (hrest : PSs X sts (dS C W rest)) (hk : k + 1 ≤ k' := by decide)
    (hg : Gl X x := by rfl) (hdb : (x == ("__debug__" : Str)) = false := by decide) (he : starEach (e :: es) X.env = (false, eval e X.env) :: starEach es X.env := by rfl) (hpl : (backTo pos (starEach es X.env)).any (·.1) = false := by rfl)
    (hi : X.N[i]? = some y := by rfl) (hx : Loc X.env.scope y := by first | exact Or.inl rfl | exact Or.inr rfl) (hf : X.fn y = true ∨ X.env.scope.names.lookup y = some .local := by first | exact .inl rfl | exact .inr rfl | assumption)
    (hs : swapsWithSole [.Name y p2] (.Call (.Name x p) (e :: es) [] pos) pos2.line X.env = pure false := by rfl) (hw : swappedStores [.Name y p2] (.Call (.Name x p) (e :: es) [] pos) X.env = pure none := by rfl) (h1 : (assignEach [.Name y p2] X.env).map (·.2) = [assign (.Name y p2) X.env] := by rfl) :
    PSs X (.Assign [.Name y p2] (.Call (.Name x p) (e :: es) [] pos) pos2 :: sts) (dS C W (newM i c np mk fa rest)) :=
  pss_mono (pss_cons (ps_asg (pe_make (E := fun _ _ _ => False) (ds := []) (dvs := []) (hC ▸ Mk_) (hC ▸ F) (hr.mono hk) hg hm (hC ▸ hb) .nil (fun _ _ _ _ _ _ _ ⟨_, _, _, _, _, _, _, _, _, _, _, _, z⟩ => z.elim) ha hdb he hpl) (pg_name (i := i) hN hi hx hf) hs hw h1) hrest) fun E σ H h => by
    obtain ⟨G, ρ, α, w, h⟩ := h
    refine ⟨G, ρ, α, w, ?_⟩
    unfold RnS newM at h
    unfold Rn
    cases e1 : fa ρ with
    | no => rw [bind_no e1] at h; exact h
    | ex x l ρ' =>
      rw [bind_ex e1] at h
      exact fun cls dct G' H' α' s w r => h cls dct σ G' H' α' s w r
    | ok ds ρ1 =>
      rw [bind_ok e1] at h
      intro vs G1 H1 α1 st1 w1 rl
      by_cases hl : ds.length = np
      case neg =>
        rw [if_neg hl] at h
        exact h.elim
      case pos =>
        rw [if_pos hl] at h
        intro p dx np_ ndx ne
        rw [List.append_nil]
        by_cases hh : i < ρ1.length ∧ ∃ r, ∀ p dx : Addr, p ≠ dx → ResP rest (ρ1.set i (.ow (.o p dx c ((mk ds).map .d)))) ρ1.length r
        case neg =>
          rw [show newGo i c (mk ds) rest ρ1 = .no from dif_neg hh] at h
          exact h.elim
        case pos =>
          obtain ⟨hi1, r, hres⟩ := hh
          rw [newGo_of hi1 hres] at h
          have hp := hres p dx ne.symm
          obtain ⟨rm, lm⟩ := hrel G1 ds vs rl hl
          have off : ∀ a, H1 a = none → G1 a = none ∧ ∀ j, a ∉ α1 j := fun a n => by
            refine ⟨?_, fun j m => ?_⟩
            · cases q : G1 a with
              | none => rfl
              | some u =>
                rw [w1.le a u q] at n
                cases n
            · obtain ⟨_, o, k⟩ := w1.ng j a m
              rw [n] at k
              cases k
          obtain ⟨gp, ap⟩ := off p np_
          obtain ⟨gd, ad⟩ := off dx ndx
          refine ⟨p, dx, vs, rfl, rl.length.trans hl, upd_same, rfl, ?_⟩
          have adr : T.adr (.o p dx c ((mk ds).map .d)) = [p, dx] := by
            show p :: dx :: adrL ((mk ds).map .d) = _
            rw [adrL_ds]
          have wA := ((w1.side (o := .own p) gd ad).side (o := .ins cd dx []) gp ap).side (o := .ins cd dx ((C.flds c).zip (mkV vs))) gp ap
          have rv : RpO C G1 (upd (upd (upd H1 dx (.own p)) p (.ins cd dx [])) p (.ins cd dx ((C.flds c).zip (mkV vs)))) (.o p dx c ((mk ds).map .d)) (.ref p) :=
            ⟨cd, mkV vs, rfl, o.cls, upd_same, by rw [upd_ne ne, upd_ne ne, upd_same], lm.symm, RpOL.ds rm⟩
          have pd : Pend G1 (upd (upd (upd H1 dx (.own p)) p (.ins cd dx [])) p (.ins cd dx ((C.flds c).zip (mkV vs)))) α1 (T.adr (.o p dx c ((mk ds).map .d))) := by
            rw [adr]
            refine ⟨by simp [ne.symm], fun a m => ?_⟩
            rcases List.mem_cons.mp m with rfl | m
            · exact ⟨gp, ⟨_, upd_same⟩, ap⟩
            · rw [List.mem_singleton.mp m]
              exact ⟨gd, ⟨_, by rw [upd_ne ne, upd_ne ne, upd_same]⟩, ad⟩
          have w2 := wA.setS hi1 (s := .ow (.o p dx c ((mk ds).map .d))) (v := .ref p) ⟨rfl, _, rfl, rv⟩ pd
          have sA : Step G H α G1 (upd (upd (upd H1 dx (.own p)) p (.ins cd dx [])) p (.ins cd dx ((C.flds c).zip (mkV vs)))) α1 := by
            have s1 := (Step.refl G1 H1 α1).side (o := .own p) ndx
            have n2 : upd H1 dx (.own p) p = none := by rw [upd_ne ne.symm]; exact np_
            have s2 := (Step.refl G1 (upd H1 dx (.own p)) α1).side (o := .ins cd dx ((C.flds c).zip (mkV vs))) n2
            have s3 := st1.trans (s1.trans s2)
            rw [upd_upd]
            exact s3
          have st2 := sA.onS (i := i) (as := T.adr (.o p dx c ((mk ds).map .d))) fun a m => by
            rw [adr] at m
            rcases List.mem_cons.mp m with rfl | m
            · exact st1.new' (.inr np_)
            · rw [List.mem_singleton.mp m]
              exact st1.new' (.inr ndx)
          refine ⟨G1, _, _, w2, ?_⟩
          unfold RnS
          cases r with
          | inl d =>
            obtain ⟨ρ', hl', er⟩ := hp
            rw [er]
            intro v σ' G' H' α' st w' rv'
            have s3 := st2.trans st
            exact h v σ' G' H' noα ⟨s3.gg, s3.hh, s3.fr, (fun _ _ m => nomatch m), s3.fz⟩ (wf_un (G' := G') (H' := H') w' hl') rv'
          | inr xl =>
            obtain ⟨ρ', hl', er⟩ := hp
            rw [er]
            intro cls dct σ' G' H' α' st w' eo
            have s3 := st2.trans st
            exact h cls dct σ' G' H' noα ⟨s3.gg, s3.hh, s3.fr, (fun _ _ m => nomatch m), s3.fz⟩ (wf_un (G' := G') (H' := H') w' hl') eo
end Pd

set_option maxHeartbeats 4000000
namespace Pd
open PySem PySem.Spec PyProof.Rows L2
/-! ### dicts of the module, keys are texts -/
def relD : D → Value → Bool
  | .bl b, .bool c => b == c
  | .int i, .int j _ => decide (i = j)
  | .str x, .str y _ => decide (x = y)
  | _, _ => false
def keyB (k : Str) : Value → Bool
  | .str x _ => decide (x = k)
  | _ => false
def entB : List DictEntry → List (Str × D) → Bool
  | [], [] => true
  | e :: r, q :: s => keyB q.1 e.key && (relD q.2 e.val && entB r s)
  | _, _ => false
def dctB (K : PySem.W.Frag) (a : Addr) (kvs : List (Str × D)) : Bool := match K.lookup a with
  | some ⟨_, _, .dict es _, _⟩ => entB es.toList kvs
  | _ => false
structure DctOk (C : Ct) (w : World) (a : Addr) (kvs : List (Str × D)) : Prop where
  kd : ∃ es n, KDict C.K w a es n
  no : ∀ z, kvs.lookup z = none → PySem.W.nsIn C.K a z = some none
  val : ∀ z d, kvs.lookup z = some d → ∃ u v, PySem.W.nsIn C.K a z = some (some u) ∧ RelV v u ∧ ∀ G, Rp C G d v
theorem relD_ok {C : Ct} {d : D} {u : Value} (h : relD d u = true) : ∃ v, RelV v u ∧ ∀ G, Rp C G d v := by
  unfold relD at h
  split at h
  · obtain rfl := beq_iff_eq.mp h
    exact ⟨.bl _, rfl, fun _ => rfl⟩
  · obtain rfl := of_decide_eq_true h
    exact ⟨.int _, ⟨_, rfl⟩, fun _ => rfl⟩
  · obtain rfl := of_decide_eq_true h
    exact ⟨.str _, ⟨_, rfl⟩, fun _ => rfl⟩
  · cases h
theorem keyB_ok {k : Str} {v : Value} (h : keyB k v = true) : ∃ t, v = .str k t := by
  unfold keyB at h
  split at h
  · obtain rfl := of_decide_eq_true h
    exact ⟨_, rfl⟩
  · cases h
theorem ent_find {C : Ct} : ∀ {es : List DictEntry} {kvs : List (Str × D)}, entB es kvs = true → (es.any (·.refKey) = false) ∧ ∀ z, (kvs.lookup z = none → es.find? (·.key.isStr z) = none) ∧ ∀ d, kvs.lookup z = some d → ∃ e, es.find? (·.key.isStr z) = some e ∧ ∃ v, RelV v e.val ∧ ∀ G, Rp C G d v
  | [], [], _ => ⟨rfl, fun z => ⟨fun _ => rfl, fun d h => nomatch h⟩⟩
  | [], _ :: _, h => nomatch h
  | _ :: _, [], h => nomatch h
  | e :: r, (k, d0) :: s, h => by
    unfold entB at h
    simp only [Bool.and_eq_true] at h
    obtain ⟨h1, h2, h3⟩ := h
    obtain ⟨t, hk⟩ := keyB_ok h1
    obtain ⟨a1, a2⟩ := ent_find (C := C) h3
    have key : ∀ z, e.key.isStr z = (k == z) := fun z => by rw [hk]; rfl
    refine ⟨?_, fun z => ?_⟩
    · rw [List.any_cons, a1]
      have : e.refKey = false := by
        unfold DictEntry.refKey
        rw [hk]
      rw [this]
      rfl
    · rw [List.lookup_cons, List.find?_cons, key z]
      by_cases c : z = k
      · subst c
        simp only [beq_self_eq_true]
        refine ⟨fun h => (nomatch h), fun d hd => ?_⟩
        cases hd
        exact ⟨e, rfl, relD_ok h2⟩
      · rw [show (z == k) = false from beq_eq_false_iff_ne.mpr c, show (k == z) = false from beq_eq_false_iff_ne.mpr (Ne.symm c)]
        exact a2 z
theorem dct_ok {C : Ct} {w : World} {a : Addr} {kvs : List (Str × D)} (kd : ∃ es n, KDict C.K w a es n) (h : dctB C.K a kvs = true) : DctOk C w a kvs := by
  unfold dctB at h
  split at h
  · rename_i c dd es n sl hl
    obtain ⟨a1, a2⟩ := ent_find (C := C) h
    refine ⟨kd, fun z hz => ?_, fun z d hz => ?_⟩
    · unfold PySem.W.nsIn
      rw [hl]
      simp only []
      rw [(a2 z).1 hz]
      simp only []
      rw [if_neg (by rw [a1]; exact Bool.false_ne_true)]
    · obtain ⟨e, he, v, r1, r2⟩ := (a2 z).2 d hz
      refine ⟨e.val, v, ?_, r1, r2⟩
      unfold PySem.W.nsIn
      rw [hl]
      simp only []
      rw [he]
  · cases h
def dinM (kvs : List (Str × D)) (neg : Bool) (fa : M D) : M D := fa >>= fun d => match d with
  | .str z => pure (.bl (neg != (kvs.lookup z).isSome))
  | _ => no
def ditM (kvs : List (Str × D)) (fa : M D) : M D := fa >>= fun d => match d with
  | .str z => opt (kvs.lookup z)
  | _ => no
end Pd

set_option maxHeartbeats 4000000
namespace Pd
open PySem PySem.Spec PyProof.Rows L2
section
variable {C : Ct} {W : WX} {X : Cx} {kvs : List (Str × D)} {ad : Addr} {fa : M D} {a : Expr} {Dn : Str} {p pos : Pos}
theorem din_rd {neg : Bool} (K : DctOk C X.w ad kvs) {σ : L2.St} {H : Hp} {Q : VK} (h : dE C W (dinM kvs neg fa) σ H Q) :
    dE C W fa σ H fun x H1 => ∃ (z : Str) (r : Option Value), x = .str z ∧ PySem.W.nsIn C.K ad z = some r ∧ Q (.bl (neg != r.isSome)) H1 := by
  obtain ⟨G, ρ, α, w, h⟩ := h
  refine ⟨G, ρ, α, w, (Rn.bind (R' := RpE C) h).mono fun x H1 ⟨G1, ρ1, α1, d, w1, s1, rd, h1⟩ => ?_⟩
  cases d <;> first | (exact h1.elim) | skip
  rename_i z
  cases rd
  have h1 : Rn C W (RpE C) (pure (.bl (neg != (kvs.lookup z).isSome))) σ G1 H1 ρ1 α1 Q := h1
  cases q : kvs.lookup z with
  | none =>
    rw [q] at h1
    exact ⟨z, none, rfl, K.no z q, h1 _ G1 H1 α1 (.refl ..) w1 rfl⟩
  | some d =>
    rw [q] at h1
    obtain ⟨u, v, e, _, _⟩ := K.val z d q
    exact ⟨z, some u, rfl, e, h1 _ G1 H1 α1 (.refl ..) w1 rfl⟩
theorem pd_din (hC : C.K = X.K) (K : DctOk C X.w ad kvs) (hm : X.mg Dn = some (.ref ad)) (ha : PE X a (dE C W fa)) (hg : Gl X Dn := by rfl) (hd : (Dn == ("__debug__" : Str)) = false := by decide) (hk : behindInMarks .In (.Name Dn p) = false := by rfl) :
    PE X (.Compare a [.In] [.Name Dn p] pos) (dE C W (dinM kvs false fa)) := by
  obtain ⟨es, n, D⟩ := K.kd
  exact pe_mono (pe_cmpR (op_in_kd (hC ▸ D)) ha (pe_glob hg hm (v := .ref ad) rfl hd) hk) fun σ H Q h => by
    obtain ⟨G, ρ, α, w, h⟩ := din_rd K h
    exact ⟨G, ρ, α, w, h.mono fun x H1 ⟨z, r, e1, e2, q⟩ => ⟨z, r, e1, rfl, hC ▸ e2, by simpa using q⟩⟩
theorem pd_dnotin (hC : C.K = X.K) (K : DctOk C X.w ad kvs) (hm : X.mg Dn = some (.ref ad)) (ha : PE X a (dE C W fa)) (hg : Gl X Dn := by rfl) (hd : (Dn == ("__debug__" : Str)) = false := by decide) (hk : behindInMarks .NotIn (.Name Dn p) = false := by rfl) :
    PE X (.Compare a [.NotIn] [.Name Dn p] pos) (dE C W (dinM kvs true fa)) := by
  obtain ⟨es, n, D⟩ := K.kd
  exact pe_mono (pe_cmpR (op_notIn_kd (hC ▸ D)) ha (pe_glob hg hm (v := .ref ad) rfl hd) hk) fun σ H Q h => by
    obtain ⟨G, ρ, α, w, h⟩ := din_rd K h
    exact ⟨G, ρ, α, w, h.mono fun x H1 ⟨z, r, e1, e2, q⟩ => ⟨z, r, e1, rfl, hC ▸ e2, by simpa using q⟩⟩
theorem pd_tdnotin (hC : C.K = X.K) (K : DctOk C X.w ad kvs) (hm : X.mg Dn = some (.ref ad)) (ha : PE X a (dE C W fa)) (hg : Gl X Dn := by rfl) (hd : (Dn == ("__debug__" : Str)) = false := by decide) (hk : behindInMarks .NotIn (.Name Dn p) = false := by rfl) :
    PT X (.Compare a [.NotIn] [.Name Dn p] pos) (dT C W (tst (dinM kvs true fa))) := by
  obtain ⟨es, n, D⟩ := K.kd
  exact pt_mono (pt_cmpR (op_notIn_kd (hC ▸ D)) ha (pe_glob hg hm (v := .ref ad) rfl hd) hk) fun σ H Q h => by
    obtain ⟨G, ρ, α, w, h⟩ := din_rd K (dT_tst h)
    exact ⟨G, ρ, α, w, h.mono fun x H1 ⟨z, r, e1, e2, k, e3, q⟩ => ⟨z, r, e1, rfl, hC ▸ e2, k, by simpa using e3, q⟩⟩
theorem pd_dit (hC : C.K = X.K) (K : DctOk C X.w ad kvs) (hm : X.mg Dn = some (.ref ad)) (ha : PE X a (dE C W fa)) (hg : Gl X Dn := by rfl) (hd : (Dn == ("__debug__" : Str)) = false := by decide) (hs : PlainIx a := by exact fun _ _ => rfl) :
    PE X (.Subscript (.Name Dn p) a pos) (dE C W (ditM kvs fa)) := by
  obtain ⟨es, n, D⟩ := K.kd
  exact pe_mono (pe_ix ix_kdict (pe_glob hg hm (v := .ref ad) rfl hd) ha hs) fun σ H Q h => by
    obtain ⟨G, ρ, α, w, h⟩ := h
    refine ⟨G, ρ, α, w, (Rn.bind (R' := RpE C) h).mono fun x H1 ⟨G1, ρ1, α1, d, w1, s1, rd, h1⟩ => ?_⟩
    cases d <;> first | (exact h1.elim) | skip
    rename_i z
    cases rd
    obtain ⟨d, e, q⟩ := rn_opt w1 h1
    obtain ⟨u, v, e1, e2, e3⟩ := K.val z d e
    refine ⟨ad, z, v, rfl, rfl, ⟨es, n, u, hC ▸ D.at_, D.lit, hC ▸ e1, e2⟩, q.now w1.le (e3 _)⟩
/-- *e in a display -/
def starM (f : M D) (fs : M (List D)) : M (List D) := f >>= fun d => match d with
  | .lst l => fs >>= fun m => pure (l ++ m)
  | .tup l => fs >>= fun m => pure (l ++ m)
  | _ => no
theorem pd_star {e : Expr} {es : List Expr} {f : M D} {fs : M (List D)} (hC : C.K = X.K) (he : PE X e (dE C W f)) (hr : PA X es (dA C W fs)) (hs : starEach (.Starred e p :: es) X.env = (true, eval e X.env) :: starEach es X.env := by rfl) :
    PA X (.Starred e p :: es) (dA C W (starM f fs)) :=
  pa_mono (StX.pa_star he hr hs) fun σ H Q h => by
    obtain ⟨G, ρ, α, w, h⟩ := h
    refine ⟨G, ρ, α, w, (Rn.bind (R' := RpE C) h).mono fun x H1 ⟨G1, ρ1, α1, d, w1, s1, rd, h1⟩ => ?_⟩
    have key : ∀ (q : Addr) (xs : List V) (l : List D), RpL C G1 l xs → Rn C W (RpL C) (fs >>= fun m => pure (l ++ m)) σ G1 H1 ρ1 α1 Q → dA C W fs σ H1 fun ys H2 => Q (xs ++ ys) H2 := fun q xs l rl h1 => by
      refine ⟨G1, ρ1, α1, w1, (Rn.bind (R' := RpL C) h1).mono fun ys H2 ⟨G2, ρ2, α2, m, w2, s2, rm, h2⟩ => ?_⟩
      exact h2 (xs ++ ys) G2 H2 α2 (.refl ..) w2 ((rl.mono s2.gg).append rm)
    cases d <;> first | (exact h1.elim) | skip
    · obtain ⟨q, xs, rfl, k1, k2⟩ := rd
      exact ⟨q, xs, rfl, .inr (hC ▸ le_l w1.le k1), key q xs _ k2 h1⟩
    · obtain ⟨q, xs, rfl, k1, k2⟩ := rd
      exact ⟨q, xs, rfl, .inl (hC ▸ le_t w1.le k1), key q xs _ k2 h1⟩
end
end Pd

set_option maxHeartbeats 4000000
namespace Pd
open PySem PySem.Spec PyProof.Rows L2 PySem.W
/-! ### the Hook with dicts of the module -/
def obsY (n : Nat) (fa : List He.Fa) (fn : List He.DefD) (ts : List He.Tab) (ex : Frag → Bool) (g : Addr → Option Obj) : He.AlT × Bool := (He.obsT fa fn ts (frZ n g), ex (frZ n g))
def hookY (n : Nat) (fa : List He.Fa) (fn : List He.DefD) (ts : List He.Tab) (ex : Frag → Bool) : PySem.W.Hook where
  α := He.AlT × Bool
  obs := fun s => obsY n fa fn ts ex s.heap.get?
  val := fun w => (He.valT fn ts w, true)
  says := fun w h => ∃ K : Frag, K.In h ∧ He.SaysT fa fn ts w K ∧ ex K = true
  of := fun _ _ e => ⟨_, He.frG_in, congrArg (fun z : He.AlT × Bool => z.1) e, congrArg (fun z : He.AlT × Bool => z.2) e⟩
  keeps := fun _ _ _ ⟨K, hK, c⟩ k => ⟨K, Frag.In.keeps hK k, c⟩
theorem obsY_eq {n : Nat} {fa : List He.Fa} {fn : List He.DefD} {ts : List He.Tab} {ex : Frag → Bool} {g : Addr → Option Obj} {s : Shared} (h : ∀ a, g a = s.heap.get? a) : obsY n fa fn ts ex g = (hookY n fa fn ts ex).obs s := by
  have e : g = s.heap.get? := funext h
  rw [e]
  rfl
end Pd

set_option maxHeartbeats 4000000
namespace Pd
open PySem PySem.Spec PyProof.Rows L2
/-! ### exceptions whose context is None -/
section
variable {X : Cx} {e : Expr} {es : List Expr} {ta : TA} {p pos : Pos}
theorem pmkN_oex {CX : CXT} {x : Str} {cd fI : Addr} {k : Nat} {fd : FuncData} {ps : List Str} {sp : Sp} (T : OexC X.K cd) (iC : PySem.W.findIn X.K (.ref cd) "__init__" = some (some (.ref fI))) (tI : PySem.W.typeIn X.K (.ref fI) = some (.type "function"))
    (F1 : FnOk X.prog X.w X.K X.mg X.base CX k fI fd ps sp) (hr : Room (k + 1) X.A) (hb : Binds X.K fd ps []) (hx : Passes CX X (fun _ _ _ => False)) (hg : Gl X x) (hm : X.mg x = some (.ref cd)) (ha : PA X (e :: es) ta)
    (hdb : (x == ("__debug__" : Str)) = false := by decide) (he : starEach (e :: es) X.env = (false, eval e X.env) :: starEach es X.env := by rfl) (hpl : (backTo pos (starEach es X.env)).any (·.1) = false := by rfl) :
    L2N.PMk X (.Call (.Name x p) (e :: es) [] pos) (tMkO cd sp [] ta) := by
  intro pins s σ H Q I h
  obtain ⟨nm, q, N, bs, bm, sn, sub, ab, col, dd, k0, k1, k2, k3, k5, hC, hbm⟩ := T.cls
  refine wpAny_Call_Name_kw (ld_glob I hg hm ?_ hdb)
  refine PySem.W.callWith_K (h₀ := X.base) I.ok.mod.kin T.kC (thn (ha.run pos pins s σ H _ I h) fun us s1 ⟨vs, H1, I1, r1, hz, q1⟩ => ⟨I1.kIn, ?_⟩) he hpl
  show wpAny _ _ (call (.ref cd) us) _ _ _
  obtain ⟨hp, g, dr, tk, os⟩ := s1
  have hsz : hp.objs.size ≤ hp.objs.size + 1 := Nat.le_succ _
  have hn : H1 (hp.objs.size + 1) = none := I1.hok.fresh hsz
  have hq := q1 (hp.objs.size + 1) hn
  rw [List.append_nil] at hq
  have kk : ∀ b o, hp.get? b = some o → ((hp.push (PySem.W.kdv_tup us)).push (PySem.HandSPX.excO cd hp.objs.size)).get? b = some o := fun b o e => Heap.get?_push_of_some _ (Heap.get?_push_of_some _ e)
  have hget : ((hp.push (PySem.W.kdv_tup us)).push (PySem.HandSPX.excO cd hp.objs.size)).get? (hp.objs.size + 1) = some (PySem.HandSPX.excO cd hp.objs.size) := by heap_get
  have I2 : Inv X pins σ (upd H1 (hp.objs.size + 1) (exo (hp.objs.size + 1) cd none)) ⟨(hp.push (PySem.W.kdv_tup us)).push (PySem.HandSPX.excO cd hp.objs.size), g, dr, tk, os⟩ :=
    I1.laid (t' := tk) (a := hp.objs.size + 1) (o := exo (hp.objs.size + 1) cd none) (h' := (hp.push (PySem.W.kdv_tup us)).push (PySem.HandSPX.excO cd hp.objs.size)) kk hsz (exo_ok hget)
  have r2 : Vals (V.ref (hp.objs.size + 1) :: vs) (Value.ref (hp.objs.size + 1) :: us) := .cons rfl r1
  have hl : (Value.ref (hp.objs.size + 1) :: us ++ []).length = ps.length := by
    have e := r2.length
    rw [F1.len _ _ _ _ hq] at e
    rw [List.append_nil]
    exact e.symm
  have hus : us.length ≤ sizeLine := by
    rw [← Paired.length r1, sizeLine_eq]
    omega
  have b2 := hb _ (Value.ref (hp.objs.size + 1) :: us) I2.kIn hl
  rw [List.append_nil] at b2
  refine wpAny_call (PySem.HandSPX.call_own F.excBase_ValueError (fun Y => PySem.HandSPX.refsVE_contains Y bm hbm) (I1.kIn _ _ hC) (PySem.W.looks_findIn I1.kIn iC) (fun self => PySem.W.bind_fn I1.kIn self tI) hus
    (codeAny_mono (F1.run _ X.stack _ _ ⟨Value.ref (hp.objs.size + 1) :: us, []⟩ (Value.ref (hp.objs.size + 1) :: us) _ _ (fun _ _ _ => False) (hr.make cd us []) (I2.env0.make cd us []) b2 r2 hq) fun r s' hq' => ?_))
  cases r with
  | error er => exact hx pins σ _ _ er s' I2 hq'
  | ok fl =>
    cases fl with
    | ret u =>
      obtain ⟨v, H2, os2, bare2, un2, hok2, rv, ev, d, fs, ea, ed, hd1, q2⟩ := hq'
      subst ev
      obtain ⟨h2, g2, d2, t2, os'⟩ := s'
      obtain ⟨t0, G, J, kG, ge, hoe, na⟩ := mk_end0 (d2 := d2) (t2 := t2) I1 hsz kk un2 hok2 os2 bare2 ea ed hd1
      refine ⟨rv, hp.objs.size + 1, _, _, ⟨G, g2, d2, t2, os'⟩, _, .ref cd, some d, rfl, J, kG, ge, hoe, ⟨rfl, rfl, fun vs hv => ?_⟩, rfl, rfl, na, rfl, bare2, raises_own T.exC T.tyC, q2⟩
      cases hv
      rfl
    | next => exact False.elim hq'
    | brk => exact False.elim hq'
    | cont => exact False.elim hq'
end
section
variable {C : Ct} {W : WX} {X : Cx}
theorem mk_read {c : Str} {cd : Addr} (hK : C.K = X.K) {fI : Addr} (T : ExP X.K cd fI) (hcls : C.cls c = some cd) {f : M D} {E : Ends} {σ : L2.St} {H : Hp} (h : dS C W (mkM c f) E σ H) :
    tMkO cd (spPlace X.K) [] (tCons (dE C W f) tNil) σ H (fun cls d H' => W cls d σ H') := by
  obtain ⟨G, ρ, α, w, h⟩ := h
  refine ⟨G, ρ, α, w, (RnS.bind (R' := RpE C) h).mono fun v H1 hx => ?_⟩
  obtain ⟨G1, ρ1, α1, d, w1, s1, rv, h1⟩ := hx
  refine ⟨by show 1 ≤ 1000; decide, fun a na => ⟨a, v, cd, rfl, T.T, T.noN, upd_same, fun dx nd ne => ⟨rfl, dx, [("place", v)], upd_same, ?_, ?_, ?_⟩⟩⟩
  · rw [upd_ne ne, upd_same]
  · rw [upd_ne ne] at nd; exact nd
  · have nd' : H1 dx = none := by rw [upd_ne ne] at nd; exact nd
    rw [mk_heap na nd' ne]
    have x := Ext.new (o := .xd [(("place" : Str), v)]) w1.le nd'
    exact h1 (.ref cd) (some dx) σ _ _ α1 x.step (w1.ext x) ⟨cd, hcls, rfl, .inr ⟨d, dx, v, rfl, rfl, upd_same, rv.mono x.gg⟩⟩
theorem pds_raiseN {c : Str} {cd fI : Addr} {k : Nat} {fd : FuncData} {ps : List Str} {x : Str} {e : Expr} {p pos pos2 : Pos} {f : M D} (hc : X.calm = true) (hK : C.K = X.K) (T : ExP X.K cd fI) (hcls : C.cls c = some cd)
    (F1 : FnOk X.prog X.w X.K X.mg X.base (L2.CX X.prog X.w) k fI fd ps (spPlace X.K)) (hr : Room (k + 1) X.A) (hb : Binds X.K fd ps []) (tk : L2N.Takes X W) (hm : X.mg x = some (.ref cd)) (ha : PE X e (dE C W f))
    (hg : Gl X x := by rfl) (hdb : (x == ("__debug__" : Str)) = false := by decide) (he : starEach (e :: []) X.env = (false, eval e X.env) :: starEach [] X.env := by rfl) (hpl : (backTo pos (starEach [] X.env)).any (·.1) = false := by rfl) :
    PS X (.Raise (some (.Call (.Name x p) [e] [] pos)) none pos2) (dS C W (mkM c f)) :=
  ps_mono (L2N.ps_raise hc tk (pmkN_oex T.T T.iC T.tI F1 hr hb (fun _ _ _ _ _ _ _ ⟨_, _, _, _, _, _, _, _, _, _, _, _, z⟩ => z.elim) hg hm (pa_cons ha pa_nil he) hdb he hpl)) fun _ _ _ h => mk_read hK T hcls h
/-! ### a def that lets nothing out, called anywhere -/
def outX (ρ1 : Ev) : O Fl → O D
  | .ok (.rt d) _ => .ok d ρ1
  | .ok .nx _ => .ok .non ρ1
  | .ok (.ro l) _ => .ok (.lst l) ρ1
  | _ => .no
def callFX (n np : Nat) (f : M Fl) (ds : List D) : M D := fun ρ1 => if ds.length = np then outX ρ1 (f (unE n (ds.map .va))) else .no
def callX (n np : Nat) (f : M Fl) (fa : M (List D)) : M D := fa >>= fun ds => callFX n np f ds
theorem dE_callX {n np : Nat} {f : M Fl} {fa : M (List D)} {σ : L2.St} {H : Hp} {Q : VK} (h : dE C W (callX n np f fa) σ H Q) : tCallS (spG C n np f) (fun _ _ _ _ => False) (dA C W fa) σ H Q := by
  obtain ⟨G, ρ, α, w, h⟩ := h
  refine ⟨G, ρ, α, w, (Rn.bind (R' := RpL C) h).mono fun vs H1 hx => ?_⟩
  obtain ⟨G1, ρ1, α1, ds, w1, s1, rl, h1⟩ := hx
  by_cases hl : ds.length = np
  · refine ⟨G1, ds.map .va, noα, by rw [List.length_map]; exact hl, rl.slots w1.le, ?_⟩
    unfold Rn callFX at h1
    rw [if_pos hl] at h1
    unfold RnS
    cases e : f (unE n (ds.map .va)) with
    | no => rw [e] at h1; exact h1
    | ex c l ρ' => rw [e] at h1; exact h1.elim
    | ok fl ρ' =>
      rw [e] at h1
      cases fl with
      | nx =>
        intro σ' G' H' α' st w'
        have x := st.ext (fun _ => rfl) w'.le
        exact h1 .non G' H' α1 x.step (w1.ext x) rfl
      | rt d =>
        intro v σ' G' H' α' st w' r
        have x := st.ext (fun _ => rfl) w'.le
        exact h1 v G' H' α1 x.step (w1.ext x) r
      | ro l =>
        intro p xs σ' G' H' α' st w' k1 k2 k3 k4 k5
        have x := (st.ext (fun _ => rfl) w'.le).freeze k1 k3 (k5.elim (fun ⟨i, m⟩ => nomatch m) id)
        exact h1 (.ref p) _ H' α1 x.step (w1.ext x) ⟨p, xs, rfl, .of upd_same, k2.mono (le_upd k3)⟩
      | rw k => exact h1.elim
      | bk => exact h1.elim
      | ct => exact h1.elim
  · exact (h1.no (by unfold callFX; rw [if_neg hl])).elim
theorem pd_callHX {x : Str} {fA : Addr} {k k' : Nat} {ps : List Str} {n np : Nat} {f : M Fl} {fa : M (List D)} {e : Expr} {es : List Expr} {p pos : Pos} (hC : C.K = X.K) (H : Hs C X.prog X.w X.mg X.base x fA k ps n np f) (hr : Room k' X.A) (ha : PA X (e :: es) (dA C W fa)) (hk : k ≤ k' := by decide)
    (hg : Gl X x := by rfl) (hdb : (x == ("__debug__" : Str)) = false := by decide) (he : starEach (e :: es) X.env = (false, eval e X.env) :: starEach es X.env := by rfl) (hpl : (backTo pos (starEach es X.env)).any (·.1) = false := by rfl) :
    PE X (.Call (.Name x p) (e :: es) [] pos) (dE C W (callX n np f fa)) := by
  obtain ⟨fd, F, b, _⟩ := H.ex
  exact pe_mono (pe_callS (E := fun _ _ _ _ => False) (hC ▸ F) (hr.mono hk) hg H.mg_ (hC ▸ H.kp) (hC ▸ b) (fun σ _ _ _ _ _ _ ⟨_, _, _, _, _, _, _, _, _, _, _, _, z⟩ => z.elim) ha hdb he hpl) fun _ _ _ h => dE_callX h
end
/-! ### a def all of whose exceptions have no context -/
structure HsN (C : Ct) (P : Program) (w : World) (mg : Str → Option Value) (base : Heap) (x : Str) (fA : Addr) (k : Nat) (ps : List Str) (n np : Nat) (f : M Fl) : Prop where
  ex : ∃ fd, FnOk P w C.K mg base (L2N.CX P w) k fA fd ps (spG C n np f) ∧ Binds C.K fd ps []
  mg_ : mg x = some (.ref fA)
  kp : PySem.W.keepIn C.K (.ref fA) = true
theorem hsN_of {C : Ct} {P : Program} {w : World} {mg : Str → Option Value} {base : Heap} {k : Nat} {x qual : Str} {params : Arguments} {body : List Stmt} {scope : Scope} {kws : List (Str × V)} {f : Addr} {fd : FuncData} {N ps : List Str} {g : M Fl} (F : FunD C.K x qual params body scope [] kws f fd) (S : FnScope N ps scope) (hm : mg x = some (.ref f))
    (hb : ∀ (kV doc pm : Value) (an : Option Addr) (cdv ct : Value) (us : List Value), us.length = ps.length → bindArgs (PySem.W.fnOf x qual params body scope .none kV doc pm an cdv ct) ⟨us, []⟩ = pure (ps.zip us))
    (hbody : ∀ (cdv : Value) (A : Around) (outer : List Env) (s : Shared) (H : Hp) (E : XK), Room k (A.deeper (envOfC qual scope s.heap.objs.size f cdv)) → PSs (cxOf (L2N.CX P w) P w C.K mg base N qual scope f cdv A outer s H E) body (dS C (fun c d _ H' => E c d H') g)) :
    HsN C P w mg base x f (k + 1) ps N.length ps.length g := ⟨⟨fd, F.ok S (fun vs H Q E h => by
    obtain ⟨G, args, α, hl, w, _⟩ := h
    rw [← hl, ← w.len, List.length_map]) fun cdv A outer s H vs Q E hr h => by
    obtain ⟨G, args, α, hl, w, h⟩ := h
    exact ⟨_, hbody cdv A outer s H E hr, G, _, α, w.start, h⟩, F.bindsN hb⟩, hm, F.kp⟩
section
variable {C : Ct} {W : WX} {X : Cx}
theorem pd_callHN {x : Str} {fA : Addr} {k k' : Nat} {ps : List Str} {n np : Nat} {f : M Fl} {fa : M (List D)} {e : Expr} {es : List Expr} {p pos : Pos} (hC : C.K = X.K) (H : HsN C X.prog X.w X.mg X.base x fA k ps n np f) (hr : Room k' X.A) (tk : L2N.Takes X W) (ha : PA X (e :: es) (dA C W fa)) (hk : k ≤ k' := by decide)
    (hg : Gl X x := by rfl) (hdb : (x == ("__debug__" : Str)) = false := by decide) (he : starEach (e :: es) X.env = (false, eval e X.env) :: starEach es X.env := by rfl) (hpl : (backTo pos (starEach es X.env)).any (·.1) = false := by rfl) :
    PE X (.Call (.Name x p) (e :: es) [] pos) (dE C W (callG n np f fa)) := by
  obtain ⟨fd, F, b⟩ := H.ex
  exact pe_mono (pe_callS (hC ▸ F) (hr.mono hk) hg H.mg_ (hC ▸ H.kp) (hC ▸ b) (fun σ => L2N.passAt tk σ) ha hdb he hpl) fun _ _ _ h => dE_callG h
end
/-! ### __init__ of an own error, called where an exception is handled -/
section
variable {P : Program} {w : World} {K : PySem.W.Frag} {mg : Str → Option Value} {base : Heap}
theorem okH_place {qual : Str} {params : Arguments} {scope : Scope} {f : Addr} {fd : FuncData} {S : Addr} {mc : Value} {B z : Str} {p1 p2 p3 p4 p5 p6 p7 p8 p9 : Pos} {j : Nat}
    (F : FunD K "__init__" qual params [.Expr (.Call (.Attribute (.Name B p1) "__init__" p2) [.Name "self" p3, .Constant (.str z) j p4] [] p5) p5, .Assign [.Attribute (.Name "self" p6) "place" p7] (.Name "place" p8) p9] scope [] [] f fd)
    (Sc : FnScope ["self", "place"] ["self", "place"] scope) (hm : mg B = some (.ref S)) (U : Sup K S mc)
    (hk : ∀ (cdv : Value) (A : Around) (outer : List Env) (s : Shared) (H : Hp) (E : XK) (p : Addr × Obj), PSs (L2H.cxH (L2.CX P w) P w K mg base ["self", "place"] qual scope f cdv A outer s H E p) [.Expr (.Call (.Attribute (.Name B p1) "__init__" p2) [.Name "self" p3, .Constant (.str z) j p4] [] p5) p5, .Assign [.Attribute (.Name "self" p6) "place" p7] (.Name "place" p8) p9]
      (tSeq (tDrop (tVeI K (tCons (tVar 0) (tCons (tC (.str z)) tNil)))) (tOst K "place" (tVar 0) (tVar 1)))) :
    L2H.FnH P w K mg base (L2.CX P w) 1 f fd ["self", "place"] (spPlace K) := by
  obtain ⟨oc, od, dV, kV, doc, pm, an, cdv, ct, osl, rfl, lk, hcd, _, _⟩ := F.ex
  refine L2H.fn_ofH lk hcd Sc (fun vs H Q E h => ?_) fun A outer s H vs Q E p hot hr h => ⟨_, hk cdv A outer s H E p, ?_⟩
  · obtain ⟨a, p, cd, rfl, _⟩ := h
    rfl
  · obtain ⟨a, p, cd, rfl, T, hno, ea, q⟩ := h
    refine ⟨.ref a, rfl, a, cd, [.str z], rfl, by show 1 ≤ 1000; decide, T, ea, ?_⟩
    exact ⟨p, rfl, .ref a, rfl, a, cd, rfl, T, hno, .inl ⟨ea, fun dx n ne => q dx n ne⟩⟩
end
/-! ### try: .., except X: raise X(e) from None -/
def tryR (c : Str) (fb : M Fl) (fe : M D) : M Fl := fun ρ => match fb ρ with
  | .ex c' _ ρ' => if c' = c then mkM c fe ρ' else .no
  | r => r
section
variable {C : Ct} {W : WX} {X : Cx}
theorem pds_tryR {c : Str} {cd fI : Addr} {k : Nat} {fd : FuncData} {ps : List Str} {x : Str} {body : List Stmt} {e : Expr} {np pos pos' p p2 cpos rp : Pos} {j : Nat} {fb : M Fl} {fe : M D} (hK : C.K = X.K) (T : ExP X.K cd fI) (hcls : C.cls c = some cd)
    (hs : X.stack = X.env :: X.outer) (hf : X.env.frame = some X.env.locals) (hpa : ∀ hd : Option Value, PassesOwnAt (model X.prog X.w) (X.A.mark hd) X.A X.env X.xe) (tk : Takes X W) (hm : X.mg x = some (.ref cd))
    (F1 : L2H.FnH X.prog X.w X.K X.mg X.base (L2.CX X.prog X.w) k fI fd ps (spPlace X.K)) (hr : Room (k + 1) X.A) (hbi : Binds X.K fd ps [])
    (hb : ∀ (W : WX) (pn : List (Addr × Obj)) (xe : Value → Shared → Prop), L2N.Takes (X.tr pn xe) W → PassesOwn (model X.prog X.w) X.A X.env xe → PSs (X.tr pn xe) body (dS C W fb))
    (he : ∀ (a : Addr) (pn : List (Addr × Obj)), PE (L2H.suiteX X a pn) e (dE C W fe))
    (hg : Gl X x := by rfl) (hdb : (x == ("__debug__" : Str)) = false := by decide) (hst : starEach (e :: []) X.env = (false, eval e X.env) :: starEach [] X.env := by rfl) (hpl : (backTo p2 (starEach [] X.env)).any (·.1) = false := by rfl) :
    PS X (.Try body [.ExceptHandler (some (.Name x np)) none [.Raise (some (.Call (.Name x p) [e] [] p2)) (some (.Constant .none j cpos)) rp] pos'] [] [] pos) (dS C W (tryR c fb fe)) :=
  ps_mono (L2H.ps_try_onlyX (c := .ref cd) (ts := fun a cls d => dS C W (mkM c fe)) hs hf ⟨hg, hdb, .inl hm⟩ hpa tk (fun W pn xe t1 _ po => hb W pn xe t1 po) fun a oe cls d pn hz hv tks hot =>
      pss_one (ps_mono (L2H.ps_raiseHN hot tks (L2H.pmk5_oexH T.T T.iC T.tI F1 (L2H.roomH_mark hr _) hot hbi (fun _ _ _ _ _ _ _ ⟨_, _, _, _, _, _, _, _, _, _, _, _, z⟩ => z.elim) hg hm (pa_cons (he a ((a, oe) :: pn)) pa_nil hst) hdb hst hpl)) fun _ _ _ h => mk_read hK T hcls h)) fun E σ H h => by
    obtain ⟨G, ρ, α, w, h⟩ := h
    refine ⟨G, ρ, α, w, ?_⟩
    unfold RnS at h
    unfold RnS
    cases e1 : fb ρ with
    | no => rw [show tryR c fb fe ρ = .no by unfold tryR; rw [e1]] at h; exact h
    | ok f ρ' =>
      rw [show tryR c fb fe ρ = .ok f ρ' by unfold tryR; rw [e1]] at h
      cases f <;> exact h
    | ex c' l ρ' =>
      intro cls dct σ' G' H' α' st w' r
      by_cases z : c' = c
      · rw [show tryR c fb fe ρ = mkM c fe ρ' by unfold tryR; rw [e1]; exact if_pos z] at h
        obtain ⟨cd', hcl, rfl, r⟩ := r
        rw [z, hcls] at hcl
        cases hcl
        refine ⟨true, T.te, fun _ a na => ⟨G', ρ', α', w', ?_⟩, fun z => by cases z⟩
        unfold RnS
        cases e2 : mkM c fe ρ' with
        | no => rw [e2] at h; exact h
        | ok f2 ρ2 =>
          unfold mkM at e2
          exfalso
          cases e3 : fe ρ' with
          | no => rw [bind_no e3] at e2; cases e2
          | ex _ _ _ => rw [bind_ex e3] at e2; cases e2
          | ok _ _ => rw [bind_ok e3] at e2; cases e2
        | ex c2 l2 ρ2 =>
          rw [e2] at h
          exact fun cls2 dct2 σ2 G2 H2 α2 st2 w2 r2 => h cls2 dct2 σ2 G2 H2 α2 (st.trans st2) w2 r2
      · rw [show tryR c fb fe ρ = .no by unfold tryR; rw [e1]; exact if_neg z] at h
        exact h.elim
end
end Pd

set_option maxHeartbeats 4000000
namespace Pd
open PySem PySem.Spec PyProof.Rows L2
/-! ### __init__ with three fields: the argument, two ints -/
theorem ok_init3 {C : Ct} {P : Program} {w : World} {mg : Str → Option Value} {base : Heap} {qual c x f0 f1 f2 : Str} {params : Arguments} {scope : Scope} {f cd : Addr} {fd : FuncData} {i1 i2 : Int} {j1 j2 : Nat} {p1 p2 p3 p4 p5 p6 p7 p8 p9 p10 p11 p12 : Pos}
    (F : FunD C.K "__init__" qual params [.Assign [.Attribute (.Name "self" p1) f0 p2] (.Name x p3) p4, .Assign [.Attribute (.Name "self" p5) f1 p6] (.Constant (.int i1) j1 p7) p8, .Assign [.Attribute (.Name "self" p9) f2 p10] (.Constant (.int i2) j2 p11) p12] scope [] [] f fd)
    (Sc : FnScope ["self", x] ["self", x] scope) (hfl : C.flds c = [f0, f1, f2]) (h01 : f0 ≠ f1) (h02 : f0 ≠ f2) (h12 : f1 ≠ f2) (cl : Cls C.K cd) (n0 : NoAttr C.K cd f0) (n1 : NoAttr C.K cd f1) (n2 : NoAttr C.K cd f2)
    (hk : ∀ (cdv : Value) (A : Around) (outer : List Env) (s : Shared) (H : Hp) (E : XK), PSs (cxOf (L2.CX P w) P w C.K mg base ["self", x] qual scope f cdv A outer s H E) [.Assign [.Attribute (.Name "self" p1) f0 p2] (.Name x p3) p4, .Assign [.Attribute (.Name "self" p5) f1 p6] (.Constant (.int i1) j1 p7) p8, .Assign [.Attribute (.Name "self" p9) f2 p10] (.Constant (.int i2) j2 p11) p12]
      (tSeq (sFld C.K (tVar 0) (tVar 1) f0) (tSeq (sFld C.K (tVar 0) (tC (.int i1)) f1) (sFld C.K (tVar 0) (tC (.int i2)) f2)))) :
    FnOk P w C.K mg base (L2.CX P w) 1 f fd ["self", x] (spNew C c cd 1 fun us => us ++ [.int i1, .int i2]) := by
  refine F.ok Sc (fun vs H Q E h => ?_) (fun cdv A outer s H vs Q E hr h => ⟨_, hk cdv A outer s H E, ?_⟩)
  · obtain ⟨a, dx, us, rfl, hl, _⟩ := h
    rw [List.length_cons, hl]
    rfl
  · obtain ⟨a, dx, us, rfl, hl, e, q⟩ := h
    match us, hl with
    | [v], _ =>
      rw [hfl] at q
      refine ⟨v, rfl, .ref a, rfl, a, cd, dx, [], rfl, e, cl, n0, by show 0 < 1000; decide, ?_⟩
      refine ⟨.ref a, rfl, a, cd, dx, _, rfl, upd_same, cl, n1, by show 1 < 1000; decide, ?_⟩
      refine ⟨.ref a, rfl, a, cd, dx, _, rfl, upd_same, cl, n2, ?_, ?_⟩
      · show (if f0 = f1 then _ else _ : List (Str × V)).length < 1000
        rw [if_neg h01]
        show 2 < 1000
        decide
      · rw [upd_upd, upd_upd]
        have e1 : putF f1 (.int i1) (putF f0 v []) = [(f0, v), (f1, .int i1)] := by
          show (if f0 = f1 then _ else _ : List (Str × V)) = _
          rw [if_neg h01]
          rfl
        have e2 : putF f2 (.int i2) [(f0, v), (f1, .int i1)] = [(f0, v), (f1, .int i1), (f2, .int i2)] := by
          show (if f0 = f2 then _ else (f0, v) :: (if f1 = f2 then _ else _) : List (Str × V)) = _
          rw [if_neg h02, if_neg h12]
          rfl
        rw [e1, e2]
        exact q
end Pd

set_option maxHeartbeats 4000000
namespace Pd
open PySem PySem.Spec PyProof.Rows L2
section
variable {C : Ct} {W : WX} {X : Cx}
/-! ### a + b as a new list of one's own -/
def catGo : D → D → M (List D)
  | .lst l, .lst m => if l.length + m.length ≤ sizeLine then pure (l ++ m) else no
  | _, _ => no
def catM (fa fb : M D) : M (List D) := fa >>= fun a => fb >>= fun b => catGo a b
theorem pl_cat {a b : Expr} {pos : Pos} {fa fb : M D} (hC : C.K = X.K) (ha : PE X a (dE C W fa)) (hb : PE X b (dE C W fb)) : PE X (.BinOp a .Add b pos) (dL C W (catM fa fb)) :=
  pe_mono (pe_op op_catS ha hb) fun σ H Q h => by
    obtain ⟨G, ρ, α, w, h⟩ := h
    refine ⟨G, ρ, α, w, (RnL.bind (R' := RpE C) h).mono fun x H1 ⟨G1, ρ1, α1, a, w1, s1, ra, h1⟩ => ?_⟩
    refine ⟨G1, ρ1, α1, w1, (RnL.bind (R' := RpE C) h1).mono fun y H2 ⟨G2, ρ2, α2, b, w2, s2, rb, h2⟩ => ?_⟩
    obtain ⟨l, m, rfl, rfl⟩ : ∃ l m, a = .lst l ∧ b = .lst m := by
      cases a <;> cases b <;> first | (exact h2.elim) | exact ⟨_, _, rfl, rfl⟩
    have h2 : RnL C W (if l.length + m.length ≤ sizeLine then pure (l ++ m) else no) σ G2 H2 ρ2 α2 Q := h2
    obtain ⟨p, xs, rfl, k1, k2⟩ := Rp.mono s2.gg ra
    obtain ⟨q, ys, rfl, k3, k4⟩ := rb
    by_cases hz : l.length + m.length ≤ sizeLine
    · rw [if_pos hz] at h2
      refine ⟨p, q, xs, ys, rfl, rfl, hC ▸ le_l w2.le k1, hC ▸ le_l w2.le k3, by rw [k2.length, k4.length]; exact hz, fun r n => ?_⟩
      have gr : G2 r = none := by
        cases e : G2 r with
        | none => rfl
        | some u => rw [w2.le r u e] at n; cases n
      have ar : ∀ i, r ∉ α2 i := fun i m => by
        obtain ⟨_, o, k⟩ := w2.ng i r m
        rw [n] at k; cases k
      exact h2 r (xs ++ ys) G2 _ α2 ((Step.refl G2 H2 α2).side n) (w2.side gr ar) upd_same (k2.append k4) gr ar (.inr n)
    · rw [if_neg hz] at h2
      exact h2.elim
/-! ### list(range(n)) -/
def lrgGo : D → M (List D)
  | .int n => if 0 ≤ n ∧ n ≤ 16777216 then pure ((List.range n.toNat).map fun i => .int (i : Nat)) else no
  | _ => no
def lrgM (f : M D) : M (List D) := f >>= lrgGo
theorem rpL_range {G : Hp} (n : Int) : RpL C G ((List.range n.toNat).map fun i => .int (i : Nat)) (rgV 0 n) := by
  unfold rgV
  have : (n - 0).toNat = n.toNat := by simp
  rw [this]
  generalize List.range n.toNat = l
  induction l with
  | nil => rfl
  | cons a l ih => exact ⟨_, _, rfl, by show V.int (0 + (a : Int)) = _; rw [Int.zero_add], ih⟩
theorem pl_listRg {a : Expr} {p1 p2 pos1 pos2 : Pos} {f : M D} (hc : X.calm = true) (hg : Gl X "list") (hm : X.mg "list" = none) (hg2 : Gl X "range") (hm2 : X.mg "range" = none) (ha : PE X a (dE C W f))
    (na : starEach [a] X.env = (false, eval a X.env) :: starEach [] X.env := by rfl) (nb : starEach [.Call (.Name "range" p2) [a] [] pos2] X.env = (false, eval (.Call (.Name "range" p2) [a] [] pos2) X.env) :: starEach [] X.env := by rfl) :
    PE X (.Call (.Name "list" p1) [.Call (.Name "range" p2) [a] [] pos2] [] pos1) (dL C W (lrgM f)) :=
  pe_mono (pe_listRg hc hg hm (prg_1 hg2 hm2 ha na) nb) fun σ H Q h => by
    obtain ⟨G, ρ, α, w, h⟩ := h
    refine ⟨G, ρ, α, w, (RnL.bind (R' := RpE C) h).mono fun x H1 ⟨G1, ρ1, α1, a, w1, s1, ra, h1⟩ => ?_⟩
    obtain ⟨n, rfl⟩ : ∃ n, a = .int n := by
      cases a <;> first | (exact h1.elim) | exact ⟨_, rfl⟩
    cases ra
    have h1 : RnL C W (if 0 ≤ n ∧ n ≤ 16777216 then pure ((List.range n.toNat).map fun i => .int (i : Nat)) else no) σ G1 H1 ρ1 α1 Q := h1
    by_cases hz : 0 ≤ n ∧ n ≤ 16777216
    · rw [if_pos hz] at h1
      refine ⟨n, rfl, RgOk.of_le (by omega) hz.2 (by omega) hz.1, fun r nn => ?_⟩
      have gr : G1 r = none := by
        cases e : G1 r with
        | none => rfl
        | some u => rw [w1.le r u e] at nn; cases nn
      have ar : ∀ i, r ∉ α1 i := fun i m => by
        obtain ⟨_, o, k⟩ := w1.ng i r m
        rw [nn] at k; cases k
      exact h1 r _ G1 _ α1 ((Step.refl G1 H1 α1).side nn) (w1.side gr ar) upd_same (rpL_range n) gr ar (.inr nn)
    · rw [if_neg hz] at h1
      exact h1.elim
/-! ### a, b, c = e1, e2, e3 -/
def par3M (i j l : Nat) (f g h : M Slot) : M Fl := f >>= fun s => g >>= fun t => h >>= fun u => setS i s >>= fun _ => setS j t >>= fun _ => setS l u >>= fun _ => pure .nx
theorem Pend.off {G H : Hp} {α : Nat → List Addr} {i : Nat} {as bs : List Addr} (p : Pend G H α bs) (n : ∀ a ∈ bs, a ∉ as) : Pend G H (onα i as α) bs := ⟨p.1, fun a m => ⟨(p.2 a m).1, (p.2 a m).2.1, fun k q => by
  have q' : a ∈ (if k = i then as else α k) := q
  by_cases z : k = i
  · rw [if_pos z] at q'; exact n a m q'
  · rw [if_neg z] at q'; exact (p.2 a m).2.2 k q'⟩⟩
theorem Pend.apart {G H : Hp} {α : Nat → List Addr} {as bs : List Addr} (p : Pend G H α as) (n : ∀ a ∈ bs, (∃ i, a ∈ α i) ∨ H a = none) : ∀ a ∈ bs, a ∉ as := fun a m q => by
  rcases n a m with ⟨k, z⟩ | z
  · exact (p.2 a q).2.2 k z
  · obtain ⟨o, y⟩ := (p.2 a q).2.1
    rw [z] at y; cases y
theorem dS_par3 {i j l : Nat} {f g k : M Slot} {E : Ends} {σ : L2.St} {H : Hp} (h : dS C W (par3M i j l f g k) E σ H) : tPar3 i j l (tCons (dX C W f) (tCons (dX C W g) (tCons (dX C W k) tNil))) E σ H := by
  obtain ⟨G, ρ, α, w, h⟩ := h
  refine ⟨G, ρ, α, w, ?_⟩
  unfold RnS par3M at h
  unfold RnX
  cases e : f ρ with
  | no => rw [bind_no e] at h; exact h
  | ex c m ρ' =>
    rw [bind_ex e] at h
    exact fun cls dct G' H' α' s w r => h cls dct σ G' H' α' s w r
  | ok s ρ1 =>
    rw [bind_ok e] at h
    intro v as G1 H1 α1 st1 w1 k1 p1 n1
    refine ⟨G1, ρ1, α1, w1, ?_⟩
    unfold RnX
    cases e2 : g ρ1 with
    | no => rw [bind_no e2] at h; exact h
    | ex c m ρ' =>
      rw [bind_ex e2] at h
      exact fun cls dct G' H' α' s w r => h cls dct σ G' H' α' (st1.trans s) w r
    | ok t ρ2 =>
      rw [bind_ok e2] at h
      intro u bs G2 H2 α2 st2 w2 k2 p2 n2
      refine ⟨G2, ρ2, α2, w2, ?_⟩
      unfold RnX
      cases e3 : k ρ2 with
      | no => rw [bind_no e3] at h; exact h
      | ex c m ρ' =>
        rw [bind_ex e3] at h
        exact fun cls dct G' H' α' s w r => h cls dct σ G' H' α' ((st1.trans st2).trans s) w r
      | ok x ρ3 =>
        rw [bind_ok e3] at h
        intro y cs G3 H3 α3 st3 w3 k3 p3 n3
        refine ⟨v, u, y, rfl, ?_⟩
        obtain ⟨k1', p1'⟩ := p1.step st2 k1
        have ab := p1.apart n2
        have n3' : ∀ a ∈ cs, (∃ i, a ∈ α1 i) ∨ H1 a = none := fun a m => st2.new' (n3 a m)
        have ac := p1.apart n3'
        have bc := p2.apart n3
        obtain ⟨k1'', p1''⟩ := p1'.step st3 k1'
        obtain ⟨k2', p2'⟩ := p2.step st3 k2
        by_cases hi : i < ρ3.length
        · rw [bind_ok (show setS i s ρ3 = .ok () (ρ3.set i s) from if_pos hi)] at h
          by_cases hj : j < (ρ3.set i s).length
          · rw [bind_ok (show setS j t (ρ3.set i s) = .ok () ((ρ3.set i s).set j t) from if_pos hj)] at h
            by_cases hl : l < ((ρ3.set i s).set j t).length
            · rw [bind_ok (show setS l x ((ρ3.set i s).set j t) = .ok () (((ρ3.set i s).set j t).set l x) from if_pos hl)] at h
              have w4 := w3.setS hi k1'' p1''
              have w5 := w4.setS hj k2' (p2'.off ab)
              have w6 := w5.setS hl k3 ((p3.off ac).off bc)
              have st := (st1.trans st2).trans st3
              refine h _ G3 H3 _ (Step.onS (Step.onS (Step.onS st fun a m => ?_) fun a m => ?_) fun a m => ?_) w6
              · exact n1 a m
              · exact st1.new' (n2 a m)
              · exact (st1.trans st2).new' (n3 a m)
            · rw [bind_no (show setS l x ((ρ3.set i s).set j t) = .no from if_neg hl)] at h
              exact h.elim
          · rw [bind_no (show setS j t (ρ3.set i s) = .no from if_neg hj)] at h
            exact h.elim
        · rw [bind_no (show setS i s ρ3 = .no from if_neg hi)] at h
          exact h.elim
theorem pds_par3 (i j l : Nat) {x y z : Str} {a b c : Expr} {f g k : M Slot} {px py pz pt pos : Pos} {kt k2 pt2} (hc : X.calm = true) (hN : X.N.Nodup) (hij : i ≠ j) (hil : i ≠ l) (hjl : j ≠ l) (ha : PE X a (dX C W f)) (hb : PE X b (dX C W g)) (hd : PE X c (dX C W k)) (hi : X.N[i]? = some x := by rfl) (hj : X.N[j]? = some y := by rfl) (hl : X.N[l]? = some z := by rfl)
    (hx : X.env.scope.names.lookup x = some .local := by rfl) (hy : X.env.scope.names.lookup y = some .local := by rfl) (hz : X.env.scope.names.lookup z = some .local := by rfl)
    (hw : swappedStores [.Tuple [.Name x px, .Name y py, .Name z pz] kt pt] (.Tuple [a, b, c] k2 pt2) X.env = pure (some [x, y, z]) := by rfl)
    (hs : swapsWithSole [.Tuple [.Name x px, .Name y py, .Name z pz] kt pt] (.Tuple [a, b, c] k2 pt2) pos.line X.env = pure false := by rfl)
    (hsa : starEach [a, b, c] X.env = (false, eval a X.env) :: starEach [b, c] X.env := by rfl) (hsb : starEach [b, c] X.env = (false, eval b X.env) :: starEach [c] X.env := by rfl) (hsc : starEach [c] X.env = (false, eval c X.env) :: starEach [] X.env := by rfl) :
    PS X (.Assign [.Tuple [.Name x px, .Name y py, .Name z pz] kt pt] (.Tuple [a, b, c] k2 pt2) pos) (dS C W (par3M i j l f g k)) :=
  ps_mono (ps_par3 hc hN hi hj hl hij hil hjl hx hy hz (pa_cons ha (pa_cons hb (pa_cons hd pa_nil hsc) hsb) hsa) hw hs) fun _ _ _ h => dS_par3 h
/-! ### an item of a list of which no more is known -/
def tixM (i k : Nat) : M D := fun ρ => match ρ[i]? with
  | some (.pa k' d) => if k' = k then .ok d ρ else .no
  | _ => .no
theorem pd_tix {y : Str} {j : Nat} {p2 p3 pos : Pos} (i k : Nat) (hC : C.K = X.K) (hN : X.N[i]? = some y := by rfl) (hv : Vis X.env.scope y := by first | exact Or.inl rfl | exact Or.inr (Or.inl rfl) | exact Or.inr (Or.inr rfl)) (hd : (y == ("__debug__" : Str)) = false := by decide)
    (hcd : (y == ("__classdict__" : Str)) = false := by decide) (hs : PlainIx (.Constant (.int (k : Int)) j p3) := by exact fun _ _ => rfl) : PE X (.Subscript (.Name y p2) (.Constant (.int (k : Int)) j p3) pos) (dE C W (tixM i k)) :=
  pe_mono (pe_ix (r := rIxL X.K) ix_list (pe_var (i := i) hN hv hd hcd) pe_int hs) fun σ H Q h => by
    obtain ⟨G, ρ, α, w, h⟩ := h
    unfold Rn tixM at h
    cases e : ρ[i]? with
    | none => rw [e] at h; exact h.elim
    | some s =>
      rw [e] at h
      cases s with
      | pa k' d =>
        simp only at h
        by_cases z : k' = k
        · subst z
          rw [if_pos rfl] at h
          have hs : i < σ.length := by rw [w.len]; exact (List.getElem?_eq_some_iff.mp e).1
          obtain ⟨p, xs, v, k1, k2, k3, k4, k5⟩ := w.sl i σ[i] _ (by simp [hs]) e
          refine ⟨.ref p, by rw [List.getElem?_eq_getElem hs, k1], p, xs, _, v, rfl, rfl, .inl (.inl k3), ?_, h v G H α (.refl ..) w k5⟩
          have hl : k' < xs.length := (List.getElem?_eq_some_iff.mp k4).1
          unfold atI
          rw [show ixN xs.length (k' : Int) = some k' by
            unfold ixN
            rw [if_pos (by omega), if_pos (by omega)]
            simp]
          exact k4
        · rw [if_neg z] at h; exact h.elim
      | _ => exact h.elim
end
end Pd

set_option maxHeartbeats 4000000
namespace Pd
open PySem PySem.Spec PyProof.Rows L2
/-! ### x = [f(..), f(..)] of new things; the lists in the first are changed through another def's list of its parts -/
def mask1 : Slot → Slot
  | .va (.str x) => .va (.str x)
  | _ => .un
def mask (ρ : Ev) : Ev := ρ.map mask1
def plain1 : Slot → Bool
  | .un => true
  | .va _ => true
  | _ => false
def uni (A B : Hp) : Hp := fun a => match A a with
  | some o => some o
  | none => B a
theorem uni_l {A B : Hp} : Le A (uni A B) := fun a o e => by
  show (match A a with | some o => some o | none => B a) = _
  rw [e]
theorem uni_cases {A B : Hp} {a : Addr} {o : HO} (e : uni A B a = some o) : A a = some o ∨ B a = some o := by
  unfold uni at e
  cases h : A a with
  | some u => rw [h] at e; exact .inl e
  | none => rw [h] at e; exact .inr e
theorem uni_le {A B H : Hp} (h1 : Le A H) (h2 : Le B H) : Le (uni A B) H := fun a o e => (uni_cases e).elim (h1 a o) (h2 a o)
theorem uni_r {A B H : Hp} (h1 : Le A H) (h2 : Le B H) : Le B (uni A B) := fun a o e => by
  show (match A a with | some o => some o | none => B a) = _
  cases h : A a with
  | none => exact e
  | some u =>
    have z := h2 a o e
    rw [h1 a u h] at z
    cases z
    rfl
def emp : Hp := fun _ => none
def isPart : D → Bool
  | .tup [_, _, .lst m] => decide (m.length ≤ 1000)
  | _ => false
def partsOk (l : List D) : Bool := decide (l.length ≤ 1000) && l.all isPart
theorem isPart_of {d : D} (h : isPart d = true) : ∃ a b m, d = .tup [a, b, .lst m] ∧ m.length ≤ 1000 := by
  unfold isPart at h
  split at h
  · exact ⟨_, _, _, rfl, of_decide_eq_true h⟩
  · cases h
def freshM (i jp : Nat) (f1 f2 : M D) (mt : M Bool) (m1 m4 : M Fl) (n : Nat) (fp : M Fl) : M Fl := fun ρ =>
  if ρ.all plain1 = true ∧ i < ρ.length ∧ jp < ρ.length then
    match f1 (mask ρ) with
    | .ok d0 _ => match f2 (mask ρ) with
      | .ok d1 _ => match mt (ρ.set i (.va (.lst [d0, d1]))) with
        | .ok true ρ2 => (match m1 ρ2 with
          | .ok (.rt d) ρ3 => .ok (.rt d) ρ3
          | _ => .no)
        | .ok false _ => (match fp (unE n [.va d0]) with
          | .ok (.ro l) _ => if partsOk l = true then m4 ((ρ.set i (.pa 1 d1)).set jp .un) else .no
          | _ => .no)
        | _ => .no
      | _ => .no
    | _ => .no
  else .no
theorem fresh_cases {i jp : Nat} {f1 f2 : M D} {mt : M Bool} {m1 m4 fp : M Fl} {n : Nat} {ρ : Ev} (h : freshM i jp f1 f2 mt m1 m4 n fp ρ ≠ .no) :
    (ρ.all plain1 = true ∧ i < ρ.length ∧ jp < ρ.length) ∧ ∃ d0 d1 ρa ρb ρ2, f1 (mask ρ) = .ok d0 ρa ∧ f2 (mask ρ) = .ok d1 ρb ∧
      ((mt (ρ.set i (.va (.lst [d0, d1]))) = .ok true ρ2 ∧ ∃ d ρ3, m1 ρ2 = .ok (.rt d) ρ3 ∧ freshM i jp f1 f2 mt m1 m4 n fp ρ = .ok (.rt d) ρ3) ∨
       (mt (ρ.set i (.va (.lst [d0, d1]))) = .ok false ρ2 ∧ ∃ l ρ3, fp (unE n [.va d0]) = .ok (.ro l) ρ3 ∧ partsOk l = true ∧ freshM i jp f1 f2 mt m1 m4 n fp ρ = m4 ((ρ.set i (.pa 1 d1)).set jp .un))) := by
  unfold freshM at h ⊢
  by_cases c : ρ.all plain1 = true ∧ i < ρ.length ∧ jp < ρ.length
  case neg => rw [if_neg c] at h; exact (h rfl).elim
  rw [if_pos c] at h ⊢
  refine ⟨c, ?_⟩
  cases e1 : f1 (mask ρ) with
  | no => rw [e1] at h; exact (h rfl).elim
  | ex _ _ _ => rw [e1] at h; exact (h rfl).elim
  | ok d0 ρa =>
    rw [e1] at h
    simp only at h ⊢
    cases e2 : f2 (mask ρ) with
    | no => rw [e2] at h; exact (h rfl).elim
    | ex _ _ _ => rw [e2] at h; exact (h rfl).elim
    | ok d1 ρb =>
      rw [e2] at h
      simp only at h ⊢
      cases e3 : mt (ρ.set i (.va (.lst [d0, d1]))) with
      | no => rw [e3] at h; exact (h rfl).elim
      | ex _ _ _ => rw [e3] at h; exact (h rfl).elim
      | ok b ρ2 =>
        rw [e3] at h
        cases b with
        | true =>
          simp only at h
          cases e4 : m1 ρ2 with
          | no => rw [e4] at h; exact (h rfl).elim
          | ex _ _ _ => rw [e4] at h; exact (h rfl).elim
          | ok fl ρ3 =>
            rw [e4] at h
            cases fl <;> first | (exact (h rfl).elim) | skip
            rename_i d
            exact ⟨d0, d1, ρa, ρb, ρ2, rfl, rfl, .inl ⟨e3, d, ρ3, e4, by first | (simp only [e4]; done) | (simp only; rw [e4]) | rfl⟩⟩
        | false =>
          simp only at h
          cases e4 : fp (unE n [.va d0]) with
          | no => rw [e4] at h; exact (h rfl).elim
          | ex _ _ _ => rw [e4] at h; exact (h rfl).elim
          | ok fl ρ3 =>
            rw [e4] at h
            cases fl <;> first | (exact (h rfl).elim) | skip
            rename_i l
            simp only at h
            by_cases z : partsOk l = true
            · exact ⟨d0, d1, ρa, ρb, ρ2, rfl, rfl, .inr ⟨e3, l, ρ3, e4, z, by first | (simp only; rw [if_pos z]; done) | (simp only [e4]; rw [if_pos z]; done)⟩⟩
            · rw [if_neg z] at h; exact (h rfl).elim
section
variable {C : Ct} {W : WX} {X : Cx}
theorem Wf.mask {G H : Hp} {σ : L2.St} {ρ : Ev} {α : Nat → List Addr} (w : Wf C G H σ ρ α) (H1 : Hp) : Wf C emp H1 σ (Pd.mask ρ) noα where
  le := fun _ _ e => nomatch e
  len := by unfold Pd.mask; rw [List.length_map]; exact w.len
  sl := fun j x r e1 e2 => by
    unfold Pd.mask at e2
    rw [List.getElem?_map] at e2
    obtain ⟨s, e3, rfl⟩ := Option.map_eq_some_iff.mp e2
    have k := w.sl j x s e1 e3
    show SlotOk C emp H1 x (mask1 s) []
    unfold mask1
    split
    · obtain ⟨_, v, k2, k3⟩ := k
      exact ⟨rfl, v, k2, k3⟩
    · rfl
  out := fun _ _ => rfl
  nd := fun _ => List.nodup_nil
  dj := fun _ _ _ m _ => nomatch m
  ng := fun _ _ m => nomatch m
theorem Wf.plainα {G H : Hp} {σ : L2.St} {ρ : Ev} {α : Nat → List Addr} (w : Wf C G H σ ρ α) (h : ρ.all plain1 = true) : ∀ i, α i = [] := fun i => by
  by_cases hi : i < ρ.length
  · have hs : i < σ.length := by rw [w.len]; exact hi
    have k := w.sl i σ[i] ρ[i] (List.getElem?_eq_getElem hs) (List.getElem?_eq_getElem hi)
    have p := List.all_eq_true.mp h ρ[i] (List.getElem_mem hi)
    generalize ρ[i] = s at k p
    cases s with
    | un => exact k
    | va d => exact k.1
    | _ => cases p
  · exact w.out i (by omega)
theorem pds_fresh {y z lp : Str} {c1 c2 tst : Expr} {body1 sts : List Stmt} {f1 f2 : M D} {mt : M Bool} {m1 m4 fp : M Fl} {fA : Addr} {k k' n j j2 j3 : Nat} {ps : List Str} {p1 p2 p3 p4 q1 q2 q3 q4 q5 q6 q7 q8 q9 q10 q11 q12 q14 : Pos} (i jp : Nat) (hij : i ≠ jp) (hC : C.K = X.K) (hN : X.N.Nodup)
    (po : PassesOwn (model X.prog X.w) X.A X.env X.xe) (hc : X.calm = true) (nl : ∀ H a xs, SqL C.K H a xs → Rd H a (.lst xs)) (h1 : PE X c1 (dE C W f1)) (h2 : PE X c2 (dE C W f2)) (ht : PT X tst (dT C W mt)) (hb : PSs X body1 (dS C W m1))
    (HP : Hs C X.prog X.w X.mg X.base lp fA k ps n 1 fp) (hr : Room k' X.A) (h4 : PSs X sts (dS C W m4)) (hk : k ≤ k' := by decide)
    (hi : X.N[i]? = some y := by rfl) (hj : X.N[jp]? = some z := by rfl) (hy : Loc X.env.scope y := by first | exact Or.inl rfl | exact Or.inr rfl) (hz : Loc X.env.scope z := by first | exact Or.inl rfl | exact Or.inr rfl)
    (hfy : X.fn y = true ∨ X.env.scope.names.lookup y = some .local := by first | exact .inl rfl | exact .inr rfl | assumption) (hfz : X.fn z = true ∨ X.env.scope.names.lookup z = some .local := by first | exact .inl rfl | exact .inr rfl | assumption)
    (hvy : Vis X.env.scope y := by first | exact Or.inl rfl | exact Or.inr (Or.inl rfl) | exact Or.inr (Or.inr rfl)) (hvz : Vis X.env.scope z := by first | exact Or.inl rfl | exact Or.inr (Or.inl rfl) | exact Or.inr (Or.inr rfl))
    (hdy : (y == ("__debug__" : Str)) = false := by decide) (hcy : (y == ("__classdict__" : Str)) = false := by decide) (hdz : (z == ("__debug__" : Str)) = false := by decide) (hcz : (z == ("__classdict__" : Str)) = false := by decide)
    (hs1 : swapsWithSole [.Name y p1] (.List [c1, c2] p2) p3.line X.env = pure false := by rfl) (hw1 : swappedStores [.Name y p1] (.List [c1, c2] p2) X.env = pure none := by rfl) (ha1 : (assignEach [.Name y p1] X.env).map (·.2) = [assign (.Name y p1) X.env] := by rfl)
    (hsa : starEach [c1, c2] X.env = (false, eval c1 X.env) :: starEach [c2] X.env := by rfl) (hsb : starEach [c2] X.env = (false, eval c2 X.env) :: starEach [] X.env := by rfl)
    (hg : Gl X lp := by rfl) (hdb : (lp == ("__debug__" : Str)) = false := by decide) (hsi : starEach [.Subscript (.Name y q3) (.Constant (.int 0) j q4) q5] X.env = (false, eval (.Subscript (.Name y q3) (.Constant (.int 0) j q4) q5) X.env) :: starEach [] X.env := by rfl)
    (hpl : (backTo q6 (starEach [] X.env)).any (·.1) = false := by rfl) (hx0 : PlainIx (.Constant (.int 0) j q4) := by exact fun _ _ => rfl) (hx2 : PlainIx (.Constant (.int 2) j2 q8) := by exact fun _ _ => rfl)
    (hfo : ∀ x, foldedSetIterable (.Call (.Name lp q2) [.Subscript (.Name y q3) (.Constant (.int 0) j q4) q5] [] q6) X.env x = pure x := by intro _; rfl)
    (hbase : attributeBase (.Subscript (.Name z q7) (.Constant (.int 2) j2 q8) q9) "append" X.env (eval (.Subscript (.Name z q7) (.Constant (.int 2) j2 q8) q9) X.env) = eval (.Subscript (.Name z q7) (.Constant (.int 2) j2 q8) q9) X.env := by rfl)
    (hfew : ((backTo q12 (starEach [.Constant .none j3 q11] X.env)).all (fun x => !x.1) && (backToKw q12 (keywordEach [] X.env)).all (fun x => x.1.isSome)
      && decide ([Expr.Constant .none j3 q11].length + ([] : List Keyword).length + (if ([] : List Keyword).isEmpty then 0 else 1) < 30)) = true := by rfl)
    (hline : (q10.endLine == q12.line) = true := by rfl) (hsn : starEach [.Constant .none j3 q11] X.env = (false, eval (.Constant .none j3 q11) X.env) :: starEach [] X.env := by rfl) (hpn : (backTo q12 (starEach [] X.env)).any (·.1) = false := by rfl)
    (hse : swapsWith (.Call (.Attribute (.Subscript (.Name z q7) (.Constant (.int 2) j2 q8) q9) "append" q10) [.Constant .none j3 q11] [] q12) none q12.line X.env = pure false := by rfl) :
    PSs X (.Assign [.Name y p1] (.List [c1, c2] p2) p3 :: .If tst body1 [] p4 :: .For (.Name z q1) (.Call (.Name lp q2) [.Subscript (.Name y q3) (.Constant (.int 0) j q4) q5] [] q6) [.Expr (.Call (.Attribute (.Subscript (.Name z q7) (.Constant (.int 2) j2 q8) q9) "append" q10) [.Constant .none j3 q11] [] q12) q12] [] q14 :: sts)
      (dS C W (freshM i jp f1 f2 mt m1 m4 n fp)) := by
  obtain ⟨fd, F, bi, _⟩ := HP.ex
  refine pss_mono (pss_cons (ps_asg (pe_lst (pa_cons h1 (pa_cons h2 pa_nil hsb) hsa)) (pg_name (i := i) hN hi hy hfy) hs1 hw1 ha1) (pss_cons (ps_if ht hb pss_nil) (pss_cons (ps_for po hc
    (pi_list (pe_callS (E := fun _ _ _ _ => False) (hC ▸ F) (hr.mono hk) hg HP.mg_ (hC ▸ HP.kp) (hC ▸ bi) (fun σ _ _ _ _ _ _ ⟨_, _, _, _, _, _, _, _, _, _, _, _, z⟩ => z.elim) (pa_cons (pe_ix (r := rIxL X.K) ix_list (pe_var (i := i) hi hvy hdy hcy) pe_int hx0) pa_nil hsi) hdb hsi hpl))
    (pg_name (i := jp) hN hj hz hfz) (pss_one (ps_expr (pe_bm PySem.F.plainAttrs_list PySem.F.slot_list_append PySem.F.type_list_append mt_append (pe_ix (r := rIxT X.K) ix_tup (pe_var (i := jp) hj hvz hdz hcz) pe_int hx2) (pa_cons pe_non pa_nil hsn) hbase hfew hline hsn hpn) hse)) hfo) h4))) fun E σ H h => ?_
  obtain ⟨G, ρ, α, w, h⟩ := h
  have nn : freshM i jp f1 f2 mt m1 m4 n fp ρ ≠ .no := fun e => h.no e
  obtain ⟨⟨hpl1, hil, hjl⟩, d0, d1, ρa, ρb, ρ2, e1, e2, e3⟩ := fresh_cases nn
  have hα := w.plainα hpl1
  refine ⟨emp, mask ρ, noα, w.mask H, ?_⟩
  unfold Rn
  rw [e1]
  intro v0 G1 H1 α1 st1 w1 r0
  refine ⟨emp, mask ρ, noα, w.mask H1, ?_⟩
  unfold Rn
  rw [e2]
  intro v1 G2 H2 α2 st2 w2 r1
  have lE1 : Le H H1 := st1.le fun _ => rfl
  have lE2 : Le H1 H2 := st2.le fun _ => rfl
  have N1 : ∀ a o, G1 a = some o → H a = none := fun a o e => by
    rcases st1.fr a o e with z | z | ⟨i, z⟩
    · cases z
    · exact z
    · cases z
  have N2 : ∀ a o, G2 a = some o → H1 a = none := fun a o e => by
    rcases st2.fr a o e with z | z | ⟨i, z⟩
    · cases z
    · exact z
    · cases z
  refine ⟨by show 2 ≤ sizeLine; unfold sizeLine; decide, fun p np => ?_⟩
  have gH : Le G H2 := w.le.trans (lE1.trans lE2)
  have g1H : Le G1 H2 := w1.le.trans lE2
  have g2H : Le G2 H2 := w2.le
  have g12 : Le (uni G1 G2) H2 := uni_le g1H g2H
  have gaH : Le (uni G (uni G1 G2)) H2 := uni_le gH g12
  have x1 : Ext G H (uni G (uni G1 G2)) H2 := {
    gg := uni_l
    le := gaH
    hh := lE1.trans lE2
    fz := fun a o u e => st1.fz a o u (st2.fz a o u e)
    fr := fun a o e => by
      rcases uni_cases e with z | z
      · exact .inl z
      · rcases uni_cases z with z | z
        · exact .inr (N1 a o z)
        · refine .inr ?_
          cases q : H a with
          | none => rfl
          | some u => (have y := lE1 a u q); rw [N2 a o z] at y; cases y }
  have x2 : Ext (uni G (uni G1 G2)) H2 (upd (uni G (uni G1 G2)) p (.lst [v0, v1])) (upd H2 p (.lst [v0, v1])) := Ext.new gaH np
  have w3 := w.ext (x1.trans x2)
  have r0' : Rp C (upd (uni G (uni G1 G2)) p (.lst [v0, v1])) d0 v0 := r0.mono (((uni_l (A := G1) (B := G2)).trans (uni_r gH g12)).trans x2.gg)
  have r1' : Rp C (upd (uni G (uni G1 G2)) p (.lst [v0, v1])) d1 v1 := r1.mono (((uni_r g1H g2H).trans (uni_r gH g12)).trans x2.gg)
  have rl : Rp C (upd (uni G (uni G1 G2)) p (.lst [v0, v1])) (.lst [d0, d1]) (.ref p) := ⟨p, [v0, v1], rfl, .inl (.inl upd_same), v0, [v1], rfl, r0', v1, [], rfl, r1', rfl⟩
  have w4 := w3.setv (i := i) hil rl
  have st3 := ((x1.trans x2).step (α := α)).trans (Step.off _ _ α i)
  generalize hG3 : upd (uni G (uni G1 G2)) p (.lst [v0, v1]) = G3 at *
  refine ⟨G3, _, _, w4, ?_⟩
  rcases e3 with ⟨e3, d, ρ3, e4, e5⟩ | ⟨e3, l, ρ3, e4, hp, e5⟩
  · -- the test holds
    unfold Rn
    rw [e3]
    intro c G4 H4 α4 st4 w5 rc
    cases rc
    rw [if_pos rfl]
    refine ⟨G4, ρ2, α4, w5, ?_⟩
    unfold RnS at h ⊢
    rw [e5] at h
    rw [e4]
    intro v σ' G' H' α' st w' r
    exact h v σ' G' H' α' ((st3.trans st4).trans st) w' r
  unfold Rn
  rw [e3]
  intro c G4 H4 α4 st4 w5 rc
  cases rc
  rw [if_neg Bool.false_ne_true]
  have hp3 : G3 p = some (.lst [v0, v1]) := by rw [← hG3]; exact upd_same
  have hp4 : H4 p = some (.lst [v0, v1]) := w5.le _ _ (st4.gg _ _ hp3)
  have lE3 : Le H2 H4 := fun a o e => by
    have z : upd H2 p (.lst [v0, v1]) a = some o := by
      rw [upd_ne fun q => by rw [q, np] at e; cases e]
      exact e
    refine st4.hh a o z fun q m => ?_
    have m' : a ∈ (if q = i then ([] : List Addr) else α q) := m
    rw [hα q] at m'
    split at m' <;> cases m'
  have fz4 : ∀ a o u, H4 a = some (.frz o u) → H a = some (.frz o u) := fun a o u e => (st3.trans st4).fz a o u e
  have LH4 : Le H H4 := (lE1.trans lE2).trans lE3
  have hsl : i < σ.length := by rw [w.len]; exact hil
  have hsj : jp < σ.length := by rw [w.len]; exact hjl
  refine ⟨.ref p, List.getElem?_set_self hsl, p, [v0, v1], 0, v0, rfl, rfl, .inl (.inl hp4), rfl, ?_⟩
  refine ⟨G1, [.va d0], noα, rfl, RpL.slots (g1H.trans lE3) (show RpL C G1 [d0] [v0] from ⟨v0, [], rfl, r0, rfl⟩), ?_⟩
  unfold RnS
  rw [e4]
  intro pL xs σ5 G5 H5 α5 st5 w6 k1 k2 k3 k4 k5
  refine ⟨pL, rfl, ⟨xs, .inl (.inl k1)⟩, ?_⟩
  have lE4 : Le H4 H5 := st5.le fun _ => rfl
  have A5 : ∀ a o, G5 a = some o → G1 a = some o ∨ H4 a = none := fun a o e => by
    rcases st5.fr a o e with z | z | ⟨i, z⟩
    · exact .inl z
    · exact .inr z
    · cases z
  have noH : ∀ a o, G5 a = some o → H a = none := fun a o e => by
    rcases A5 a o e with z | z
    · exact N1 a o z
    · cases q : H a with
      | none => rfl
      | some u => rw [LH4 a u q] at z; cases z
  have noG2 : ∀ a o, G5 a = some o → G2 a = none := fun a o e => by
    cases q : G2 a with
    | none => rfl
    | some u =>
      rcases A5 a o e with z | z
      · have := N2 a u q
        rw [w1.le a o z] at this; cases this
      · rw [lE3 a u (g2H a u q)] at z; cases z
  have noP : ∀ o, G5 p ≠ some o := fun o e => by
    rcases A5 p o e with z | z
    · rw [g1H p o z] at np; cases np
    · rw [hp4] at z; cases z
  have strict : ∀ al zs, SqL C.K G5 al zs → G5 al = some (.lst zs) := fun al zs hS => by
    rcases nl _ _ _ hS with z | ⟨ob, z⟩
    · exact z
    · exfalso
      have h5 := st5.fz al ob _ (w6.le al _ z)
      have h0 := fz4 al ob _ h5
      rw [noH al _ z] at h0
      cases h0
  have hbound := Bool.and_eq_true_iff.mp hp
  have hlen : xs.length ≤ 1000 := by rw [k2.length]; exact of_decide_eq_true hbound.1
  refine ⟨fun t m σ6 H6 => m = xs.length - t ∧ t ≤ xs.length ∧ (σ6 = σ.set i (some (.ref p)) ∨ ∃ x, σ6 = (σ.set i (some (.ref p))).set jp (some x)) ∧ (∀ a o, H5 a = some o → (∀ ys, G5 a ≠ some (.lst ys)) → H6 a = some o) ∧
    (∀ a ys, G5 a = some (.lst ys) → ∃ zs, H6 a = some (.lst zs) ∧ zs.length ≤ ys.length + t) ∧ (∀ a ob u, H6 a = some (.frz ob u) → H5 a = some (.frz ob u)), ⟨xs.length, rfl, Nat.zero_le _, .inl rfl, fun a o e _ => e, fun a ys e => ⟨ys, w6.le _ _ e, Nat.le_refl _⟩, fun _ _ _ e => e⟩, ?_⟩
  rintro t m σ6 H6 ⟨hm, ht, hσ, hk6, hl6, hf6⟩
  have hL6 : H6 pL = some (.lst xs) := hk6 pL _ k1 fun ys e => by rw [k3] at e; cases e
  have l6 : jp < σ6.length := by
    rcases hσ with rfl | ⟨x, rfl⟩
    · rw [List.length_set]; exact hsj
    · rw [List.length_set, List.length_set]; exact hsj
  by_cases hlt : t < xs.length
  · right
    refine ⟨⟨xs, xs[t], .inl (.inl hL6), List.getElem?_eq_getElem hlt⟩, fun σ7 H7 => xs.length - (t + 1) = xs.length - (t + 1) ∧ t + 1 ≤ xs.length ∧ (σ7 = σ.set i (some (.ref p)) ∨ ∃ x, σ7 = (σ.set i (some (.ref p))).set jp (some x)) ∧ (∀ a o, H5 a = some o → (∀ ys, G5 a ≠ some (.lst ys)) → H7 a = some o) ∧
      (∀ a ys, G5 a = some (.lst ys) → ∃ zs, H7 a = some (.lst zs) ∧ zs.length ≤ ys.length + (t + 1)) ∧ (∀ a ob u, H7 a = some (.frz ob u) → H5 a = some (.frz ob u)), fun σ7 H7 h7 => ⟨xs.length - (t + 1), by omega, h7⟩, ?_⟩
    rintro x H' ⟨rfl, hx⟩
    have ex := hx xs (.inl (.inl hL6))
    have hll : t < l.length := by rw [← k2.length]; exact hlt
    obtain ⟨x', ex', rx⟩ := k2.get (List.getElem?_eq_getElem hll)
    rw [ex] at ex'
    cases ex'
    obtain ⟨da, db, ml, ed, hml⟩ := isPart_of (List.all_eq_true.mp hbound.2 _ (List.getElem_mem hll))
    rw [ed] at rx
    obtain ⟨a, ys, rfl, hT, y0, r', rfl, _, y1, r'', rfl, _, y2, r''', rfl, ry2, rfl⟩ := rx
    obtain ⟨al, zs, rfl, hS, hzs⟩ := ry2
    have hs5 := strict al zs hS
    obtain ⟨zs', hz6, hzl⟩ := hl6 al zs hs5
    have hT6 : SqT C.K H' a [y0, y1, .ref al] := by
      rcases hT with (hT | ⟨ob, hT⟩) | hT
      · exact .inl (.inl (hk6 a _ (w6.le _ _ hT) fun ys e => by rw [hT] at e; cases e))
      · exact .inl (.inr ⟨ob, hk6 a _ (w6.le _ _ hT) fun ys e => by rw [hT] at e; cases e⟩)
      · exact .inr hT
    refine ⟨.ref a, List.getElem?_set_self l6, a, [y0, y1, .ref al], 2, .ref al, rfl, rfl, hC ▸ hT6, rfl, .inl ⟨rfl, zs', .inl (.inl hz6)⟩, al, zs', .non, rfl, rfl, hz6, ?_, ?_⟩
    · have := hzs.length
      unfold sizeLine
      omega
    · refine ⟨rfl, hlt, .inr ⟨.ref a, ?_⟩, fun b o e nb => ?_, fun b ys e => ?_, fun b ob u e => hf6 b ob u (nfz_upd rfl e)⟩
      · rcases hσ with rfl | ⟨x, rfl⟩
        · rfl
        · rw [List.set_set]
      · rw [upd_ne fun q => nb zs (by rw [q]; exact hs5)]
        exact hk6 b o e nb
      · by_cases q : b = al
        · subst q
          rw [hs5] at e
          cases e
          exact ⟨zs' ++ [.non], upd_same, by rw [List.length_append, List.length_singleton]; omega⟩
        · obtain ⟨us, q1, q2⟩ := hl6 b ys e
          exact ⟨us, by rw [upd_ne q]; exact q1, by omega⟩
  · left
    refine ⟨⟨xs, .inl (.inl hL6), by omega⟩, ?_⟩
    have gK : ∀ a o, H5 a = some o → (∀ u, G5 a ≠ some u) → H6 a = some o := fun a o e n => hk6 a o e fun ys => n _
    have hG6 : Le G H6 := fun a o e => gK a o (lE4 _ _ (lE3 _ _ (gH _ _ e))) fun u z => by
      have := noH a u z
      rw [w.le a o e] at this; cases this
    have hG26 : Le G2 H6 := fun a o e => gK a o (lE4 _ _ (lE3 _ _ (g2H _ _ e))) fun u z => by
      rw [noG2 a u z] at e; cases e
    have hp6 : H6 p = some (.lst [v0, v1]) := gK p _ (lE4 _ _ hp4) fun u => noP u
    have gp : uni G G2 p = none := by
      cases q : uni G G2 p with
      | none => rfl
      | some u =>
        rcases uni_cases q with z | z
        · rw [gH p u z] at np; cases np
        · rw [g2H p u z] at np; cases np
    have len6 : σ6.length = σ.length := by
      rcases hσ with rfl | ⟨x, rfl⟩
      · rw [List.length_set]
      · rw [List.length_set, List.length_set]
    have at_i : σ6[i]? = some (some (.ref p)) := by
      rcases hσ with rfl | ⟨x, rfl⟩
      · exact List.getElem?_set_self hsl
      · rw [List.getElem?_set_ne (Ne.symm hij)]
        exact List.getElem?_set_self hsl
    have at_o : ∀ q, q ≠ i → q ≠ jp → σ6[q]? = σ[q]? := fun q n1 n2 => by
      rcases hσ with rfl | ⟨x, rfl⟩
      · rw [List.getElem?_set_ne (Ne.symm n1)]
      · rw [List.getElem?_set_ne (Ne.symm n2), List.getElem?_set_ne (Ne.symm n1)]
    have on_ : ∀ q a, a ∈ onα i [p] noα q → q = i ∧ a = p := fun q a m => by
      have m' : a ∈ (if q = i then [p] else []) := m
      by_cases c : q = i
      · rw [if_pos c] at m'
        exact ⟨c, List.mem_singleton.mp m'⟩
      · rw [if_neg c] at m'; cases m'
    have wf : Wf C (uni G G2) H6 σ6 ((ρ.set i (.pa 1 d1)).set jp .un) (onα i [p] noα) := {
      le := uni_le hG6 hG26
      len := by rw [List.length_set, List.length_set, len6]; exact w.len
      sl := fun q x r c1 c2 => by
        show SlotOk C (uni G G2) H6 x r (if q = i then [p] else [])
        by_cases b1 : q = jp
        · subst b1
          rw [List.getElem?_set_self (by rw [List.length_set]; exact hjl)] at c2
          cases c2
          rw [if_neg (Ne.symm hij)]
          rfl
        · rw [List.getElem?_set_ne (Ne.symm b1)] at c2
          by_cases b2 : q = i
          · subst b2
            rw [List.getElem?_set_self hil] at c2
            cases c2
            rw [at_i] at c1
            cases c1
            rw [if_pos rfl]
            exact ⟨p, [v0, v1], v1, rfl, rfl, hp6, rfl, r1.mono (uni_r hG6 hG26)⟩
          · rw [List.getElem?_set_ne (Ne.symm b2)] at c2
            rw [at_o q b2 b1] at c1
            rw [if_neg b2]
            have := w.sl q x r c1 c2
            rw [hα q] at this
            exact this.keep uni_l fun a m => nomatch m
      out := fun q hq => by
        rw [List.length_set, List.length_set] at hq
        show (if q = i then [p] else []) = []
        rw [if_neg (by omega)]
      nd := fun q => by
        show (if q = i then [p] else ([] : List Addr)).Nodup
        split
        · simp
        · exact List.nodup_nil
      dj := fun q1 q2 a m1 m2 => (on_ q1 a m1).1.trans (on_ q2 a m2).1.symm
      ng := fun q a m => by
        obtain ⟨rfl, rfl⟩ := on_ q a m
        exact ⟨gp, _, hp6⟩ }
    have stf : Step G H α (uni G G2) H6 (onα i [p] noα) := {
      gg := uni_l
      hh := fun a o e _ => gK a o (lE4 _ _ (LH4 _ _ e)) fun u z => by rw [noH a u z] at e; cases e
      fr := fun a o e => by
        rcases uni_cases e with z | z
        · exact .inl z
        · refine .inr (.inl ?_)
          cases q : H a with
          | none => rfl
          | some u =>
            have := N2 a o z
            rw [lE1 a u q] at this; cases this
      aa := fun q a m => by
        obtain ⟨_, rfl⟩ := on_ q a m
        refine .inr ?_
        cases c : H a with
        | none => rfl
        | some u => rw [lE2 _ _ (lE1 _ _ c)] at np; cases np
      fz := fun a o u e => fz4 a o u (st5.fz a o u (hf6 a o u e)) }
    refine ⟨uni G G2, _, _, wf, RnS.step stf ?_⟩
    unfold RnS at h
    rw [e5] at h
    exact h
end
end Pd

set_option maxHeartbeats 4000000
namespace Pd
open PySem PySem.Spec PyProof.Rows L2
/-- the written part has no lists -/
def noLB (K : PySem.W.Frag) : Bool := K.all fun q => !decide (q.2.cls = .type "list")
theorem frag_mem {a : Addr} {o : Obj} : ∀ {K : PySem.W.Frag}, K.lookup a = some o → ∃ b, (b, o) ∈ K
  | [], h => nomatch h
  | (b, u) :: r, h => by
    rw [List.lookup_cons] at h
    cases e : (a == b) with
    | true =>
      rw [e] at h
      cases h
      exact ⟨b, List.mem_cons_self⟩
    | false =>
      rw [e] at h
      obtain ⟨c, m⟩ := frag_mem h
      exact ⟨c, List.mem_cons_of_mem _ m⟩
theorem noLB_ok {K : PySem.W.Frag} (h : noLB K = true) : ∀ H a xs, SqL K H a xs → Rd H a (.lst xs) := fun H a xs hS => by
  rcases hS with z | ⟨o, its, n, h1, h2, _⟩
  · exact z
  · obtain ⟨b, hm⟩ := frag_mem h1
    have m := List.all_eq_true.mp h (b, o) hm
    simp only [Bool.not_eq_true', decide_eq_false_iff_not] at m
    exact (m h2).elim
theorem rel_new2 {C : Ct} {c : Str} {i1 i2 : Int} (hf : (C.flds c).length = 3) : ∀ G ds vs, RpL C G ds vs → ds.length = 1 → RpL C G (ds ++ [.int i1, .int i2]) (vs ++ [.int i1, .int i2]) ∧ (vs ++ [V.int i1, V.int i2]).length = (C.flds c).length := fun G ds vs r hl =>
  ⟨r.append ⟨_, _, rfl, rfl, _, _, rfl, rfl, rfl⟩, by rw [hf, List.length_append, r.length, hl]; rfl⟩
end Pd

set_option maxHeartbeats 4000000
namespace Pd
open PySem PySem.Spec PyProof.Rows L2
/-! ### the readers of sets, by calls that let nothing out -/
section
variable {Q : D → Ev → Prop} {E : Str → List D → Ev → Prop} {ρ : Ev}
theorem wp_callX {n np : Nat} {f : M Fl} {fa : M (List D)} : wp (callX n np f fa) Q E ρ = wp fa (fun ds => wp (callFX n np f ds) Q E) E ρ := by
  unfold callX
  rw [wp_bind]
theorem wp_callFX {n np : Nat} {f : M Fl} {ds : List D} (hl : ds.length = np)
    (k : wp f (fun r _ => ∃ d, (r = .rt d ∨ (r = .nx ∧ d = .non) ∨ ∃ l, r = .ro l ∧ d = .lst l) ∧ Q d ρ) (fun _ _ _ => False) (unE n (ds.map .va))) : wp (callFX n np f ds) Q E ρ := by
  unfold wp at k ⊢
  unfold callFX
  rw [if_pos hl]
  cases e : f (unE n (ds.map .va)) with
  | no => rw [e] at k; exact k.elim
  | ex c l ρ' => rw [e] at k; exact k.elim
  | ok r ρ' =>
    rw [e] at k
    obtain ⟨d, h4, h3⟩ := k
    rcases h4 with rfl | ⟨rfl, rfl⟩ | ⟨l, rfl, rfl⟩ <;> exact h3
end
noncomputable def dStrX : M Fl := (seqM (asgM (m1M partitionD (getv 0) (pure (.str "-"))) (gtup (gcons (setv 2) (gcons (setv 3) (gcons (setv 4) gnil))))) (seqM (letM 5 (vaM (callX 2 1 dFig (consM (getv 2) (pure []))))) (seqM (letM 6 (vaM (iteM (tst (op2 eqD (getv 3) (pure (.str "-")))) (callX 2 1 dFig (consM (getv 4) (pure []))) (getv 5)))) (seqM (iteM (Pd.orM (tst (op2 isND (getv 5) (pure .non))) (Pd.orM (tst (op2 isND (getv 6) (pure .non))) (Pd.orM (tst (op2 geD (getv 6) (pure (.int 1000000000000000000000000000000)))) (Pd.andM (tst (op2 eqD (getv 3) (pure (.str "-")))) (tst (op2 geD (getv 5) (getv 6))))))) (retM (pure .non)) (pure .nx)) (retM (iteM (Pd.orM (tst (op2 isND (getv 1) (pure .non))) (tst (op2 gtD (getv 5) (op2 addD (getv 1) (pure (.int 1)))))) (tupM (consM (getv 5) (consM (getv 6) (pure [])))) (pure .non)))))))
theorem str_wpX {a : List Nat} (hok : okc a) (hz : a.length ≤ sizeLine) (before : Option Nat) {x2 x3 x4 x5 x6 : Slot} {Q : Fl → Ev → Prop} {E : Str → List D → Ev → Prop} (hQ : ∀ ρ', Q (.rt (optS (strt a before))) ρ') :
    wp dStrX Q E [.va (.str (TS a)), .va (optI before), x2, x3, x4, x5, x6] := by
  -- the three parts
  obtain ⟨p, mark, q, hp, hpar, okp, okq, hzp, hzq⟩ : ∃ (p : List Nat) (mark : Bool) (q : List Nat), parM a = (p, mark, q) ∧
      Txt.partition (TS a) (TS [45]) = (TS p, TS (if mark = true then [45] else []), TS q) ∧ okc p ∧ okc q ∧ p.length ≤ sizeLine ∧ q.length ≤ sizeLine := by
    unfold parM
    cases e : TL.par [45] [] a with
    | none => exact ⟨a, false, [], rfl, SX.partition_none (by decide) e, hok, ok0, hz, Nat.zero_le _⟩
    | some pq =>
      obtain ⟨p, q⟩ := pq
      obtain ⟨m, h1, h2⟩ := par_sub (by decide) e
      rw [List.nil_append] at h1
      subst h1
      rw [h2] at hok hz
      obtain ⟨o1, o2⟩ := okc_app.mp hok
      obtain ⟨_, o3⟩ := okc_app.mp o2
      rw [List.length_append, List.length_append] at hz
      exact ⟨p, true, q, rfl, SX.partition_some (by decide) e, o1, o3, by omega, by omega⟩
  have hm : okc (if mark = true then [45] else []) := by
    cases mark
    · exact ok0
    · exact ok45
  have hs : strt a before = strFin mark (figs p) (if mark = true then figs q else figs p) before := by
    unfold strt
    rw [hp]
  rw [hs] at hQ
  clear hs hp
  unfold dStrX
  rw [wp_seq, wp_asgM, wp_m1M, wp_getv rfl]
  simp only []
  rw [wp_pure, str_minus, show partitionD (.str (TS a)) (.str (TS [45])) = some (.tup [.str (TS p), .str (TS (if mark = true then [45] else [])), .str (TS q)]) by
    unfold partitionD
    simp only []
    rw [if_pos ⟨by decide, by rw [SX.S_len]; exact hz⟩, hpar], wp_some]
  refine wp_bindT ?_
  rw [wp_gtup, wp_gcons, wp_setv]
  refine ⟨by simp, ?_⟩
  simp only [List.set_cons_succ, List.set_cons_zero]
  rw [wp_gcons, wp_setv]
  refine ⟨by simp, ?_⟩
  simp only [List.set_cons_succ, List.set_cons_zero]
  rw [wp_gcons, wp_setv]
  refine ⟨by simp, ?_⟩
  simp only [List.set_cons_succ, List.set_cons_zero]
  rw [wp_gnil, wp_seq, wp_letM, wp_vaM, wp_callX, wp_cons, wp_getv rfl, wp_pure]
  refine wp_callFX rfl (fig_wp (x := .un) okp hzp fun ρ' => ⟨_, .inl rfl, ?_⟩)
  refine ⟨by simp, ?_⟩
  simp only [List.set_cons_succ, List.set_cons_zero]
  rw [wp_seq, wp_letM, wp_vaM, wp_iteM, wp_tst, wp_op2, wp_getv rfl, wp_pure, eqD_str hm ok45, wp_some]
  have hmk : decide ((if mark = true then [45] else [] : List Nat) = [45]) = mark := by cases mark <;> rfl
  rw [hmk]
  have fin : ∀ l : Option Nat, l = (if mark = true then figs q else figs p) → wp (seqM (iteM (Pd.orM (tst (op2 isND (getv 5) (pure .non))) (Pd.orM (tst (op2 isND (getv 6) (pure .non))) (Pd.orM (tst (op2 geD (getv 6) (pure (.int 1000000000000000000000000000000)))) (Pd.andM (tst (op2 eqD (getv 3) (pure (.str (TS [45]))))) (tst (op2 geD (getv 5) (getv 6))))))) (retM (pure .non)) (pure .nx)) (retM (iteM (Pd.orM (tst (op2 isND (getv 1) (pure .non))) (tst (op2 gtD (getv 5) (op2 addD (getv 1) (pure (.int 1)))))) (tupM (consM (getv 5) (consM (getv 6) (pure [])))) (pure .non)))) Q E
      [.va (.str (TS a)), .va (optI before), .va (.str (TS p)), .va (.str (TS (if mark = true then [45] else []))), .va (.str (TS q)), .va (optI (figs p)), .va (optI l)] := by
    intro l hl
    rw [← hl] at hQ
    unfold strFin at hQ
    rw [wp_seq, wp_iteM, wp_orM, wp_tst, wp_op2, wp_getv rfl, wp_pure, isND_opt, wp_some]
    cases hf : figs p with
    | none =>
      rw [hf] at hQ
      simp only [decide_true, if_true]
      rw [wp_retM, wp_pure]
      exact hQ _
    | some f =>
      rw [hf] at hQ
      simp only [reduceCtorEq, decide_false, Bool.false_eq_true, if_false]
      rw [wp_orM, wp_tst, wp_op2, wp_getv rfl, wp_pure, isND_opt, wp_some]
      cases l with
      | none =>
        simp only [decide_true, if_true]
        rw [wp_retM, wp_pure]
        exact hQ _
      | some l =>
        simp only [reduceCtorEq, decide_false, Bool.false_eq_true, if_false]
        rw [wp_orM, wp_tst, wp_op2, wp_getv rfl, wp_pure, show geD (optI (some l)) (.int 1000000000000000000000000000000) = some (.bl (decide ((1000000000000000000000000000000 : Int) ≤ (l : Int)))) from rfl, wp_some]
        simp only [] at hQ
        by_cases c1 : (1000000000000000000000000000000 : Int) ≤ (l : Int)
        · rw [if_pos (.inl (by omega))] at hQ
          simp only [c1, decide_true, if_true]
          rw [wp_retM, wp_pure]
          exact hQ _
        · simp only [c1, decide_false, Bool.false_eq_true, if_false]
          rw [wp_andM, wp_tst, wp_op2, wp_getv rfl, wp_pure, eqD_str hm ok45, wp_some, hmk]
          have go : ¬ (10 ^ 30 ≤ l ∨ (mark = true ∧ l ≤ f)) → wp (retM (iteM (Pd.orM (tst (op2 isND (getv 1) (pure .non))) (tst (op2 gtD (getv 5) (op2 addD (getv 1) (pure (.int 1)))))) (tupM (consM (getv 5) (consM (getv 6) (pure [])))) (pure .non))) Q E
              [.va (.str (TS a)), .va (optI before), .va (.str (TS p)), .va (.str (TS (if mark = true then [45] else []))), .va (.str (TS q)), .va (optI (some f)), .va (optI (some l))] := by
            intro hn
            rw [if_neg hn] at hQ
            rw [wp_retM, wp_iteM, wp_orM, wp_tst, wp_op2, wp_getv rfl, wp_pure, isND_opt, wp_some]
            have tup : (∀ ρ', Q (.rt (optS (some (f, l)))) ρ') → wp (tupM (consM (getv 5) (consM (getv 6) (pure [])))) (fun d => Q (.rt d)) E [.va (.str (TS a)), .va (optI before), .va (.str (TS p)), .va (.str (TS (if mark = true then [45] else []))), .va (.str (TS q)), .va (optI (some f)), .va (optI (some l))] := by
              intro h
              rw [wp_tupM, wp_cons, wp_getv rfl, wp_cons, wp_getv rfl, wp_pure]
              exact ⟨by show (2 : Nat) ≤ _; unfold sizeLine; decide, h _⟩
            cases before with
            | none =>
              simp only [decide_true, if_true]
              exact tup hQ
            | some b =>
              simp only [reduceCtorEq, decide_false, Bool.false_eq_true, if_false]
              rw [wp_tst, wp_op2, wp_getv rfl, wp_op2, wp_getv rfl, wp_pure, show optI (some b) = .int b from rfl, wp_add, show gtD (optI (some f)) (.int ((b : Int) + 1)) = some (.bl (decide ((b : Int) + 1 < (f : Int)))) from rfl, wp_some]
              simp only [] at hQ
              by_cases c2 : (b : Int) + 1 < (f : Int)
              · rw [if_pos (by omega)] at hQ
                simp only [c2, decide_true, if_true]
                exact tup hQ
              · rw [if_neg (by omega)] at hQ
                simp only [c2, decide_false, Bool.false_eq_true, if_false]
                rw [wp_pure]
                exact hQ _
          cases mark with
          | false =>
            simp only [Bool.false_eq_true, if_false]
            rw [wp_pure]
            exact go (by simp; omega)
          | true =>
            simp only [if_true]
            rw [wp_tst, wp_op2, wp_getv rfl, wp_getv rfl, show geD (optI (some f)) (optI (some l)) = some (.bl (decide ((l : Int) ≤ (f : Int)))) from rfl, wp_some]
            by_cases c2 : (l : Int) ≤ (f : Int)
            · rw [if_pos (.inr ⟨rfl, by omega⟩)] at hQ
              simp only [c2, decide_true, if_true]
              rw [wp_retM, wp_pure]
              exact hQ _
            · simp only [c2, decide_false, Bool.false_eq_true, if_false]
              rw [wp_pure]
              exact go (by rintro (h | h); exact c1 (by omega); exact c2 (by omega))
  cases mark with
  | true =>
    simp only [if_true]
    rw [wp_callX, wp_cons, wp_getv rfl, wp_pure]
    refine wp_callFX rfl (fig_wp (x := .un) okq hzq fun ρ' => ⟨_, .inl rfl, ?_⟩)
    refine ⟨by simp, ?_⟩
    simp only [List.set_cons_succ, List.set_cons_zero]
    exact fin (figs q) rfl
  | false =>
    simp only [Bool.false_eq_true, if_false]
    rw [wp_getv rfl]
    refine ⟨by simp, ?_⟩
    simp only [List.set_cons_succ, List.set_cons_zero]
    exact fin (figs p) rfl
noncomputable def dRsetX : M Fl := (seqM (letM 1 (vaM (m1M splitD (getv 0) (pure (.str ","))))) (seqM (iteM (tst (op2 eqD (op2 ixD (getv 1) (pure (.int 0))) (pure (.str "-")))) (seqM (iteM (tst (op2 gtD (callM (one lenD) (consM (getv 1) (pure []))) (pure (.int 1)))) (mkM "InvalidText" (pure (.int 1))) (pure .nx)) (retoM (dspL (pure [])))) (pure .nx)) (seqM (par2M 2 3 (lsM (dspL (pure []))) (vaM (pure .non))) (seqM (forM (iEn (consM (getv 1) (pure []))) (gtup (gcons (setv 4) (gcons (setv 5) gnil))) (seqM (letM 6 (vaM (callX 7 2 dStrX (consM (getv 5) (consM (getv 3) (pure [])))))) (seqM (iteM (Pd.orM (tst (op2 isND (getv 6) (pure .non))) (tst (op2 eqD (getv 4) (pure (.int 12))))) (mkM "InvalidText" (getv 4)) (pure .nx)) (seqM (dropM (owM 2 apD (consM (getv 6) (pure [])))) (letM 3 (vaM (op2 ixD (getv 6) (pure (.int 1))))))))) (rovM 2)))))
theorem rset_wpX {a : List Nat} (hok : okc a) (hz : a.length + 2 ≤ sizeLine) {x1 x2 x3 x4 x5 x6 : Slot} {Q : Fl → Ev → Prop} {E : Str → List D → Ev → Prop} (hQ : ∀ ρ', setEnd (rdSet a) Q E ρ') :
    wp dRsetX Q E [.va (.str (TS a)), x1, x2, x3, x4, x5, x6] := by
  have hw : ∀ w ∈ TL.spl [44] 0 [] a, okc w ∧ w.length ≤ sizeLine := fun w hm => by
    obtain ⟨h1, h2⟩ := spl_mem hm
    refine ⟨fun c hc => ?_, by simp at h2; omega⟩
    rcases h1 c hc with h | h
    · cases h
    · exact hok c h
  unfold rdSet at hQ
  unfold dRsetX
  rw [wp_seq, wp_letM, wp_vaM, wp_m1M, wp_getv rfl]
  simp only []
  rw [wp_pure, str_comma, show splitD (.str (TS a)) (.str (TS [44])) = some (.lst ((TL.spl [44] 0 [] a).map fun w => .str (TS w))) by
    unfold splitD
    simp only []
    rw [if_pos ⟨by decide, by rw [SX.S_len]; exact hz⟩, SX.split_S (by decide) (by decide), List.map_map]
    rfl, wp_some]
  refine ⟨by simp, ?_⟩
  simp only [List.set_cons_succ, List.set_cons_zero]
  generalize hws : TL.spl [44] 0 [] a = words at *
  cases words with
  | nil => exact absurd hws spl_ne
  | cons w ws =>
    rw [wp_seq, wp_iteM, wp_tst, wp_op2, wp_op2, wp_getv rfl, wp_pure, show ixD (.lst ((w :: ws).map fun w => .str (TS w))) (.int 0) = some (.str (TS w)) by
      unfold ixD
      simp only []
      rw [show (0 : Int) = ((0 : Nat) : Int) from rfl]
      unfold atI
      rw [ixN_of (by simp)]
      rfl, wp_some, wp_pure, str_minus, eqD_str (hw w (List.mem_cons_self ..)).1 ok45, wp_some]
    simp only [] at hQ
    by_cases c1 : w = [45]
    · rw [if_pos c1] at hQ
      simp only [c1, decide_true, if_true]
      rw [wp_seq, wp_iteM, wp_tst, wp_op2, wp_callM, wp_cons, wp_getv rfl, wp_pure, show ∀ l : List D, one lenD [.lst l] = some (.int (l.length : Int)) from fun _ => rfl, wp_some, wp_pure]
      rw [show ∀ n : Int, gtD (.int n) (.int 1) = some (.bl (decide (1 < n))) from fun _ => rfl, wp_some]
      by_cases c2 : ws = []
      · rw [if_pos c2] at hQ
        subst c2
        rw [show decide ((1 : Int) < (([[45]].map fun w : List Nat => D.str (TS w)).length : Int)) = false from rfl]
        simp only [Bool.false_eq_true, if_false]
        rw [wp_pure]
        simp only []
        rw [wp_retoM, wp_dsp, wp_pure]
        exact ⟨Nat.zero_le _, hQ _⟩
      · rw [if_neg c2] at hQ
        have : (1 : Int) < ((([45] :: ws).map fun w : List Nat => D.str (TS w)).length : Int) := by
          rw [List.length_map, List.length_cons]
          have : 0 < ws.length := List.length_pos_iff.mpr c2
          omega
        rw [decide_eq_true this]
        simp only [if_true]
        rw [wp_mkM, wp_pure]
        exact hQ _
    · rw [if_neg c1] at hQ
      simp only [c1, decide_false, Bool.false_eq_true, if_false]
      rw [wp_pure]
      simp only []
      rw [wp_seq, wp_par2, wp_lsM, wp_dsp, wp_pure]
      refine ⟨Nat.zero_le _, ?_⟩
      rw [wp_vaM, wp_pure]
      refine ⟨by simp, by simp, ?_⟩
      simp only [List.set_cons_succ, List.set_cons_zero]
      rw [wp_seq, wp_forM, wp_bind, wp_cons, wp_getv rfl, wp_pure]
      rw [show ∀ l : List D, enum1 [.lst l] = some (enumL l) from fun _ => rfl, wp_some]
      generalize hres : rdGo (w :: ws) 0 none [] = res at hQ
      refine wp_for (I := fun l ρ => ∃ (vs : List (List Nat)) (k : Nat) (b : Option Nat) (acc : List (Nat × Nat)) (y4 y5 y6 : Slot), l = (vs.zipIdx k).map (fun p => .tup [.int (p.2 : Int), .str (TS p.1)]) ∧
        rdGo vs k b acc = res ∧ (∀ v ∈ vs, okc v ∧ v.length ≤ sizeLine) ∧ acc.length = k ∧ k ≤ 12 ∧ ρ = [.va (.str (TS a)), .va (.lst ((w :: ws).map fun w => .str (TS w))), .ls (acc.map spanD), .va (optI b), y4, y5, y6]) ?_ ?_ ?_
      · refine ⟨w :: ws, 0, none, [], x4, x5, x6, ?_, hres, hw, rfl, by decide, rfl⟩
        unfold enumL
        rw [List.zipIdx_map, List.map_map]
        rfl
      · rintro ρ ⟨vs, k, b, acc, y4, y5, y6, hl, hr, hv, hk, hk2, rfl⟩
        have : vs = [] := by
          cases vs with
          | nil => rfl
          | cons v vs => simp at hl
        subst this
        simp only []
        rw [wp_rovL rfl]
        rw [← hr] at hQ
        exact hQ _
      · rintro d l ρ ⟨vs, k, b, acc, y4, y5, y6, hl, hr, hv, hk, hk2, rfl⟩
        cases vs with
        | nil => simp at hl
        | cons v vs =>
          rw [List.zipIdx_cons, List.map_cons, List.cons.injEq] at hl
          obtain ⟨rfl, rfl⟩ := hl
          obtain ⟨ov, zv⟩ := hv v (List.mem_cons_self ..)
          rw [wp_gtup, wp_gcons, wp_setv]
          refine ⟨by simp, ?_⟩
          simp only [List.set_cons_succ, List.set_cons_zero]
          rw [wp_gcons, wp_setv]
          refine ⟨by simp, ?_⟩
          simp only [List.set_cons_succ, List.set_cons_zero]
          rw [wp_gnil, wp_seq, wp_letM, wp_vaM, wp_callX, wp_cons, wp_getv rfl, wp_cons, wp_getv rfl, wp_pure]
          refine wp_callFX rfl (str_wpX (x2 := .un) (x3 := .un) (x4 := .un) (x5 := .un) (x6 := .un) ov zv b fun ρ' => ⟨_, .inl rfl, ?_⟩)
          refine ⟨by simp, ?_⟩
          simp only [List.set_cons_succ, List.set_cons_zero]
          rw [wp_seq, wp_iteM, wp_orM, wp_tst, wp_op2, wp_getv rfl, wp_pure]
          unfold rdGo at hr
          cases hs : strt v b with
          | none =>
            rw [hs] at hr
            rw [show isND (optS none) .non = some (.bl true) from rfl, wp_some]
            simp only [if_true]
            rw [wp_mkM, wp_getv rfl]
            rw [← hr] at hQ
            exact hQ _
          | some s =>
            rw [hs] at hr
            rw [show isND (optS (some s)) .non = some (.bl false) from rfl, wp_some]
            simp only [Bool.false_eq_true, if_false] at hr ⊢
            rw [wp_tst, wp_op2, wp_getv rfl, wp_pure, eqD_int, wp_some]
            by_cases c3 : k = 12
            · rw [if_pos c3] at hr
              rw [decide_eq_true (show (k : Int) = 12 by omega)]
              simp only [if_true]
              rw [wp_mkM, wp_getv rfl]
              rw [← hr] at hQ
              exact hQ _
            · rw [if_neg c3] at hr
              rw [decide_eq_false (show ¬ (k : Int) = 12 by omega)]
              simp only [Bool.false_eq_true, if_false]
              rw [wp_pure]
              simp only []
              rw [wp_seq, wp_dropM]
              refine wp_owA (l := acc.map spanD) (d := spanD s) (ρ' := [.va (.str (TS a)), .va (.lst ((w :: ws).map fun w => .str (TS w))), .ls (acc.map spanD), .va (optI b), .va (.int k), .va (.str (TS v)), .va (optS (some s))]) rfl rfl rfl (by rw [List.length_map]; unfold sizeLine; omega) ?_
              simp only [List.set_cons_succ, List.set_cons_zero]
              rw [wp_letM, wp_vaM, wp_op2, wp_getv rfl, wp_pure, show ixD (optS (some s)) (.int 1) = some (.int s.2) from rfl, wp_some]
              refine ⟨by simp, ?_⟩
              simp only [List.set_cons_succ, List.set_cons_zero]
              refine ⟨vs, k + 1, some s.2, acc ++ [s], .va (.int k), .va (.str (TS v)), .va (optS (some s)), rfl, hr, fun x hx => hv x (List.mem_cons_of_mem _ hx), by simp [hk], by omega, ?_⟩
              rw [List.map_append]
              rfl
end Pd

set_option maxHeartbeats 4000000
namespace Pd
open PySem PySem.Spec PyProof.Rows L2
section
variable {Q : D → Ev → Prop} {E : Str → List D → Ev → Prop} {ρ : Ev}
theorem wp_fld {c : Str} {i k : Nat} {p dx : Addr} {ts : List T} {x : D} (h : ρ[i]? = some (.ow (.o p dx c ts))) (hk : ts[k]? = some (.d x)) : wp (fldM c i k) Q E ρ = Q x ρ := by
  unfold wp fldM
  rw [h]
  simp only [if_true]
  rw [hk]
theorem wp_aug {c : Str} {i k : Nat} {n a : Int} {p dx : Addr} {ts : List T} {Q : Fl → Ev → Prop} (h : ρ[i]? = some (.ow (.o p dx c ts))) (hk : ts[k]? = some (.d (.int a))) : wp (augM c i k n) Q E ρ = Q .nx (ρ.set i (.ow (.o p dx c (ts.set k (.d (.int (a + n))))))) := by
  unfold wp augM
  rw [h]
  simp only [if_true]
  rw [hk]
theorem wp_methO {c : Str} {n np i : Nat} {f : M Fl} {fa : M (List D)} {p dx : Addr} {ts : List T} (h : ρ[i]? = some (.ow (.o p dx c ts))) : wp (methO c n np i f fa) Q E ρ = wp fa (fun ds => wp (callFO n np i f ds) Q E) E ρ := by
  rw [← wp_callO (n := n) (np := np) (f := f) (fa := fa) h]
  unfold wp methO
  rw [if_pos (by unfold isCl; rw [h]; simp)]
theorem wp_din {kvs : List (Str × D)} {neg : Bool} {fa : M D} : wp (dinM kvs neg fa) Q E ρ = wp fa (fun d ρ' => match d with
    | .str z => Q (.bl (neg != (kvs.lookup z).isSome)) ρ'
    | _ => False) E ρ := by
  unfold dinM
  rw [wp_bind]
  congr 1
  funext d ρ'
  cases d <;> simp only [wp_pure, wp_no]
theorem wp_dit {kvs : List (Str × D)} {fa : M D} : wp (ditM kvs fa) Q E ρ = wp fa (fun d ρ' => match d with
    | .str z => wp (opt (kvs.lookup z)) Q E ρ'
    | _ => False) E ρ := by
  unfold ditM
  rw [wp_bind]
  congr 1
  funext d ρ'
  cases d <;> simp only [wp_no]
theorem wp_star {f : M D} {fs : M (List D)} {Q : List D → Ev → Prop} : wp (starM f fs) Q E ρ = wp f (fun d ρ' => match d with
    | .lst l => wp fs (fun m => Q (l ++ m)) E ρ'
    | .tup l => wp fs (fun m => Q (l ++ m)) E ρ'
    | _ => False) E ρ := by
  unfold starM
  rw [wp_bind]
  congr 1
  funext d ρ'
  cases d <;> simp only [wp_no] <;> (rw [wp_bind]; congr 1; funext m ρ2; rw [wp_pure])
theorem wp_tryR {c : Str} {fb : M Fl} {fe : M D} {Q : Fl → Ev → Prop} : wp (tryR c fb fe) Q E ρ = wp fb Q (fun c' _ ρ' => if c' = c then wp (mkM c fe) Q E ρ' else False) ρ := by
  unfold wp
  cases e : fb ρ with
  | no => rw [show tryR c fb fe ρ = .no by unfold tryR; rw [e]]
  | ok r ρ' => rw [show tryR c fb fe ρ = .ok r ρ' by unfold tryR; rw [e]]
  | ex c' l ρ' =>
    by_cases z : c' = c
    · rw [show tryR c fb fe ρ = mkM c fe ρ' by unfold tryR; rw [e]; exact if_pos z]
      simp only [z, if_true]
    · rw [show tryR c fb fe ρ = .no by unfold tryR; rw [e]; exact if_neg z]
      simp only [z, if_false]
theorem wp_ltM {f : M (List D)} : wp (ltM f) Q E ρ = wp f (fun l => Q (.lst l)) E ρ := by
  unfold ltM
  rw [wp_bind]
  congr 1
  funext d ρ'
  rw [wp_pure]
/-! comprehensions whose element may raise -/
theorem wp_lcX {fi : M (List D)} {bt : D → M Unit} {tt : M Bool} {te : M D} {vs : List Nat} {Q : List D → Ev → Prop} : wp (lcX fi bt tt te vs) Q E ρ = wp fi (fun l ρ1 => wp (lcGoX bt tt te vs l []) (fun acc ρ2 => Q acc (backE ρ1 ρ2 vs)) (fun c m ρ2 => E c m (backE ρ1 ρ2 vs)) ρ1) E ρ := by
  unfold lcX
  rw [wp_bind]
  congr 1
  funext l ρ1
  unfold wp
  cases e : lcGoX bt tt te vs l [] ρ1 <;> (simp only [lcBack]; first | rfl | (rw [e]; rfl) | rw [e])
theorem wp_goXn {bt : D → M Unit} {tt : M Bool} {te : M D} {vs : List Nat} {acc : List D} {Q : List D → Ev → Prop} : wp (lcGoX bt tt te vs [] acc) Q E ρ = Q acc ρ := by
  unfold wp lcGoX
  rfl
theorem wp_goXc {bt : D → M Unit} {tt : M Bool} {te : M D} {vs : List Nat} {acc l : List D} {d : D} {Q : List D → Ev → Prop}
    (h : wp (bt d) (fun _ => wp tt (fun k ρ2 => k = true ∧ wp te (fun y ρ3 => acc.length < sizeLine ∧ wp (lcGoX bt tt te vs l (acc ++ [y])) Q E ρ3) E ρ2) (fun _ _ _ => False)) (fun _ _ _ => False) (wipeE ρ vs)) : wp (lcGoX bt tt te vs (d :: l) acc) Q E ρ := by
  obtain ⟨u, ρ1, e1, h1⟩ := wp_ok h
  obtain ⟨k, ρ2, e2, rfl, h2⟩ := wp_ok h1
  unfold wp at h2 ⊢
  unfold lcGoX
  rw [e1]
  simp only
  rw [e2]
  simp only
  cases e3 : te ρ2 with
  | no => rw [e3] at h2; exact h2
  | ex c m ρ3 => rw [e3] at h2; exact h2
  | ok y ρ3 =>
    rw [e3] at h2
    obtain ⟨hz, h3⟩ := h2
    simp only
    rw [if_pos hz]
    exact h3
end
/-! ### the reader of conditions -/
inductive Rule where
  | inn (c : Nat) (sp : List (Nat × Nat))
  | nt (r : Rule)
  | an (l r : Rule)
  | orr (l r : Rule)
def condD (c : Nat) (sp : List (Nat × Nat)) : D := .tup [.str "in", .int c, .lst (sp.map spanD)]
def ruleD : Rule → D
  | .inn c sp => condD c sp
  | .nt r => .tup [.str "not", ruleD r]
  | .an l r => .tup [.str "and", ruleD l, ruleD r]
  | .orr l r => .tup [.str "or", ruleD l, ruleD r]
def kvParts : List (Str × D) := [("not", .int 1), ("and", .int 2), ("or", .int 2)]
def wNot : List Nat := [110, 111, 116]
def wAnd : List Nat := [97, 110, 100]
def wOr : List Nat := [111, 114]
theorem str_not : ("not" : Str) = TS wNot := by decide +kernel
theorem str_and : ("and" : Str) = TS wAnd := by decide +kernel
theorem str_or : ("or" : Str) = TS wOr := by decide +kernel
theorem str_colon : (":" : Str) = TS [58] := by decide +kernel
theorem str_cols : ("01234567" : Str) = TS [48, 49, 50, 51, 52, 53, 54, 55] := by decide +kernel
theorem str_blank : (" " : Str) = TS [32] := by decide +kernel
theorem str_in : ("in" : Str) = TS [105, 110] := by decide +kernel
def rdSim (w : List Nat) (k : Nat) : Option (Nat × List (Nat × Nat)) := match TL.par [58] [] w with
  | some ([c], q) => if 48 ≤ c ∧ c ≤ 55 ∧ k + 1 ≤ 12 then (match rdSet q with
    | .ok sp => some (c - 48, sp)
    | .error _ => none) else none
  | _ => none
def rdPart : Nat → List (List Nat) → Nat → Nat → Nat → Except Nat (Rule × Nat × Nat)
  | 0, _, pl, _, _ => .error pl
  | n + 1, ws, pl, k, lv => match ws[pl]? with
    | none => .error pl
    | some w => if 20 < lv then .error pl else
      if w = wNot then (match rdPart n ws (pl + 1) k (lv + 1) with
        | .error e => .error e
        | .ok (r, a) => .ok (.nt r, a))
      else if w = wAnd ∨ w = wOr then (match rdPart n ws (pl + 1) k (lv + 1) with
        | .error e => .error e
        | .ok (l, pl1, k1) => match rdPart n ws pl1 k1 (lv + 1) with
          | .error e => .error e
          | .ok (r, a) => .ok (if w = wAnd then .an l r else .orr l r, a))
      else match rdSim w k with
        | none => .error pl
        | some (c, sp) => .ok (.inn c sp, pl + 1, k + 1)
abbrev cR : Str := "ConditionReader"
def wsD (ws : List (List Nat)) : D := .lst (ws.map fun w => .str (TS w))
def rdT (p dx : Addr) (ws : List (List Nat)) (pl k : Nat) : T := .o p dx cR [.d (wsD ws), .d (.int (pl : Int)), .d (.int (k : Int))]
noncomputable def dSim : M Fl := (seqM (asgM (m1M partitionD (getv 1) (pure (.str ":"))) (gtup (gcons (setv 2) (gcons (setv 3) (gcons (setv 4) gnil))))) (seqM (augM "ConditionReader" 0 2 1) (seqM (iteM (Pd.orM (tst (op2 neD (callM (one lenD) (consM (getv 2) (pure []))) (pure (.int 1)))) (Pd.orM (tst (op2 notInD (getv 2) (pure (.str "01234567")))) (Pd.orM (tst (op2 eqD (getv 3) (pure (.str "")))) (tst (op2 gtD (fldM "ConditionReader" 0 2) (pure (.int 12))))))) (mkM "InvalidText" (fldM "ConditionReader" 0 1)) (pure .nx)) (tryR "InvalidText" (retM (tupM (consM (pure (.str "in")) (consM (callM (one toInt) (consM (getv 2) (pure []))) (consM (callG 7 1 dRsetX (consM (getv 4) (pure []))) (pure [])))))) (fldM "ConditionReader" 0 1)))))
noncomputable def dPart : Nat → M Fl
  | 0 => no
  | n + 1 => (seqM (iteM (Pd.orM (tst (op2 eqD (fldM "ConditionReader" 0 1) (callM (one lenD) (consM (fldM "ConditionReader" 0 0) (pure []))))) (tst (op2 gtD (getv 1) (pure (.int 20))))) (mkM "InvalidText" (fldM "ConditionReader" 0 1)) (pure .nx)) (seqM (letM 2 (vaM (op2 ixD (fldM "ConditionReader" 0 0) (fldM "ConditionReader" 0 1)))) (seqM (iteM (tst (dinM kvParts true (getv 2))) (seqM (letM 3 (vaM (methO "ConditionReader" 5 2 0 dSim (consM (getv 2) (pure []))))) (seqM (augM "ConditionReader" 0 1 1) (retM (getv 3)))) (pure .nx)) (seqM (augM "ConditionReader" 0 1 1) (retM (tupM (consM (getv 2) (starM (ltM (lcX (iR1 (consM (ditM kvParts (getv 2)) (pure []))) (setv 4) (pure true) (methO "ConditionReader" 5 2 0 (dPart n) (consM (op2 addD (getv 1) (pure (.int 1))) (pure []))) [4])) (pure [])))))))))
noncomputable def dCond : M Fl := (newM 1 "ConditionReader" 1 (fun ds => ds ++ [.int 0, .int 0]) (consM (m1M splitD (getv 0) (pure (.str " "))) (pure [])) (seqM (letM 2 (vaM (methO "ConditionReader" 5 2 1 (dPart 25) (consM (pure (.int 1)) (pure []))))) (seqM (iteM (tst (op2 ltD (fldM "ConditionReader" 1 1) (callM (one lenD) (consM (fldM "ConditionReader" 1 0) (pure []))))) (mkM "InvalidText" (fldM "ConditionReader" 1 1)) (pure .nx)) (retM (getv 2)))))
theorem wp_lettwo {Q : D → Ev → Prop} : True := trivial
theorem one_col {c : Nat} (h1 : 48 ≤ c) (h2 : c ≤ 55) : one toInt [.str (TS [c])] = some (.int ((c - 48 : Nat) : Int)) := by
  have : c = 48 ∨ c = 49 ∨ c = 50 ∨ c = 51 ∨ c = 52 ∨ c = 53 ∨ c = 54 ∨ c = 55 := by omega
  have hto : one toInt [.str (TS [c])] = some (.int (NumText.digitsVal [c] : Nat)) := by
    show (PySem.intText? (TS [c])).bind _ = _
    rw [SX.int_S (by rcases this with rfl | rfl | rfl | rfl | rfl | rfl | rfl | rfl <;> decide) (by simp) (by simp)]
    show (if (TS [c]).length ≤ 640 then _ else none) = _
    rw [if_pos (by rw [SX.S_len]; simp)]
    try rfl
  rw [hto]
  have : NumText.digitsVal [c] = c - 48 := by rcases this with rfl | rfl | rfl | rfl | rfl | rfl | rfl | rfl <;> decide +kernel
  rw [this]
def simEnd (p dx : Addr) (ws : List (List Nat)) (pl k : Nat) (r : Option (Nat × List (Nat × Nat))) (Q : Fl → Ev → Prop) (E : Str → List D → Ev → Prop) : Prop := match r with
  | some (c, sp) => ∀ ρ', ρ'[0]? = some (.ow (rdT p dx ws pl (k + 1))) → Q (.rt (condD c sp)) ρ'
  | none => ∀ ρ', ρ'[0]? = some (.ow (rdT p dx ws pl (k + 1))) → E "InvalidText" [.int (pl : Int)] ρ'
theorem sim_wp {p dx : Addr} {ws : List (List Nat)} {pl k : Nat} {w : List Nat} (hok : okc w) (hz : w.length + 2 ≤ sizeLine) {Q : Fl → Ev → Prop} {E : Str → List D → Ev → Prop} (hQ : simEnd p dx ws pl k (rdSim w k) Q E) :
    wp dSim Q E [.ow (rdT p dx ws pl k), .va (.str (TS w)), .un, .un, .un] := by
  obtain ⟨a, mark, q, hp, hpar, oka, okq, hza, hzq⟩ : ∃ (a : List Nat) (mark : Bool) (q : List Nat), (TL.par [58] [] w = if mark = true then some (a, q) else none) ∧
      Txt.partition (TS w) (TS [58]) = (TS a, TS (if mark = true then [58] else []), TS q) ∧ okc a ∧ okc q ∧ a.length ≤ sizeLine ∧ q.length + 2 ≤ sizeLine := by
    cases e : TL.par [58] [] w with
    | none => exact ⟨w, false, [], by simp, SX.partition_none (by decide) e, hok, ok0, by omega, by unfold sizeLine; decide⟩
    | some pq =>
      obtain ⟨a, q⟩ := pq
      obtain ⟨m, h1, h2⟩ := par_sub (by decide) e
      rw [List.nil_append] at h1
      subst h1
      rw [h2] at hok hz
      obtain ⟨o1, o2⟩ := okc_app.mp hok
      obtain ⟨_, o3⟩ := okc_app.mp o2
      rw [List.length_append, List.length_append] at hz
      exact ⟨a, true, q, by simp, SX.partition_some (by decide) e, o1, o3, by omega, by omega⟩
  have hm : okc (if mark = true then [58] else []) := by
    cases mark
    · exact ok0
    · intro c hc; rw [if_pos rfl] at hc; rw [List.mem_singleton.mp hc]; decide
  unfold rdSim at hQ
  rw [hp] at hQ
  clear hp
  unfold dSim
  rw [wp_seq, wp_asgM, wp_m1M, wp_getv rfl]
  simp only []
  rw [wp_pure, str_colon, show partitionD (.str (TS w)) (.str (TS [58])) = some (.tup [.str (TS a), .str (TS (if mark = true then [58] else [])), .str (TS q)]) by
    unfold partitionD
    simp only []
    rw [if_pos ⟨by decide, by rw [SX.S_len]; omega⟩, hpar], wp_some]
  refine wp_bindT ?_
  rw [wp_gtup, wp_gcons, wp_setv]
  refine ⟨by simp, ?_⟩
  simp only [List.set_cons_succ, List.set_cons_zero]
  rw [wp_gcons, wp_setv]
  refine ⟨by simp, ?_⟩
  simp only [List.set_cons_succ, List.set_cons_zero]
  rw [wp_gcons, wp_setv]
  refine ⟨by simp, ?_⟩
  simp only [List.set_cons_succ, List.set_cons_zero]
  rw [wp_gnil, wp_seq, wp_aug (a := (k : Int)) rfl rfl]
  simp only [List.set_cons_succ, List.set_cons_zero]
  generalize hρ : ([.ow (.o p dx cR [.d (wsD ws), .d (.int (pl : Int)), .d (.int ((k : Int) + 1))]), .va (.str (TS w)), .va (.str (TS a)), .va (.str (TS (if mark = true then [58] else []))), .va (.str (TS q))] : Ev) = ρ
  have hT : rdT p dx ws pl (k + 1) = .o p dx cR [.d (wsD ws), .d (.int (pl : Int)), .d (.int ((k : Int) + 1))] := by
    unfold rdT
    rw [show ((k + 1 : Nat) : Int) = (k : Int) + 1 by omega]
  have h0 : ρ[0]? = some (.ow (rdT p dx ws pl (k + 1))) := by rw [hT, ← hρ]; rfl
  have g2 : ρ[2]? = some (.va (.str (TS a))) := by rw [← hρ]; rfl
  have g3 : ρ[3]? = some (.va (.str (TS (if mark = true then [58] else [])))) := by rw [← hρ]; rfl
  have g4 : ρ[4]? = some (.va (.str (TS q))) := by rw [← hρ]; rfl
  have bad : ∀ {Q' : Fl → Ev → Prop}, (∀ ρ', ρ'[0]? = some (.ow (rdT p dx ws pl (k + 1))) → E "InvalidText" [.int (pl : Int)] ρ') → wp (mkM "InvalidText" (fldM "ConditionReader" 0 1)) Q' E ρ := fun {Q'} h => by
    rw [wp_mkM, wp_fld (x := .int (pl : Int)) (by rw [h0, hT]) rfl]
    exact h ρ h0
  have hgo : ∀ c, a = [c] → 48 ≤ c → c ≤ 55 → mark = true → k + 1 ≤ 12 → wp (tryR "InvalidText" (retM (tupM (consM (pure (.str "in")) (consM (callM (one toInt) (consM (getv 2) (pure []))) (consM (callG 7 1 dRsetX (consM (getv 4) (pure []))) (pure [])))))) (fldM "ConditionReader" 0 1)) Q E ρ := fun c ea h1 h2 hmk hk => by
    subst ea
    subst hmk
    rw [if_pos rfl] at hQ
    simp only [] at hQ
    rw [if_pos ⟨h1, h2, hk⟩] at hQ
    rw [wp_tryR, wp_retM, wp_tupM, wp_cons, wp_pure, wp_cons, wp_callM, wp_cons, wp_getv g2, wp_pure, one_col h1 h2, wp_some, wp_cons, wp_callG, wp_cons, wp_getv g4, wp_pure]
    refine wp_callF rfl (rset_wpX (x1 := .un) (x2 := .un) (x3 := .un) (x4 := .un) (x5 := .un) (x6 := .un) okq (by omega) fun ρ' => ?_)
    cases e : rdSet q with
    | ok sp =>
      rw [e] at hQ
      refine ⟨_, .inr (.inr ⟨_, rfl, rfl⟩), ?_⟩
      rw [wp_pure]
      exact ⟨by show (3 : Nat) ≤ _; unfold sizeLine; decide, hQ ρ h0⟩
    | error j =>
      rw [e] at hQ
      show (if ("InvalidText" : Str) = "InvalidText" then _ else False)
      rw [if_pos rfl]
      exact bad hQ
  rw [wp_seq, wp_iteM, wp_orM, wp_tst, wp_op2, wp_callM, wp_cons, wp_getv g2, wp_pure, show one lenD [.str (TS a)] = some (.int a.length) from lenD_S hza, wp_some, wp_pure, show neD (.int (a.length : Int)) (.int 1) = some (.bl (!decide ((a.length : Int) = 1))) by rw [neD_int, decide_not], wp_some]
  by_cases c1 : (a.length : Int) = 1
  case neg =>
    simp only [c1, decide_false, Bool.not_false, if_true]
    refine bad ?_
    have : (match (if mark = true then some (a, q) else none) with
      | some ([c], q) => if 48 ≤ c ∧ c ≤ 55 ∧ k + 1 ≤ 12 then (match rdSet q with
        | .ok sp => some (c - 48, sp)
        | .error _ => none) else none
      | _ => none) = none := by
      cases mark with
      | false => rfl
      | true =>
        rw [if_pos rfl]
        match a, c1 with
        | [], _ => rfl
        | [c], h => exact absurd rfl h
        | _ :: _ :: _, _ => rfl
    rw [this] at hQ
    exact hQ
  obtain ⟨c, rfl⟩ : ∃ c, a = [c] := by
    match a, c1 with
    | [c], _ => exact ⟨c, rfl⟩
    | [], h => simp at h
    | _ :: _ :: _, h => simp at h; omega
  simp only [c1, decide_true, Bool.not_true, Bool.false_eq_true, if_false]
  rw [wp_orM, wp_tst, wp_op2, wp_getv g2, wp_pure, str_cols, show notInD (.str (TS [c])) (.str (TS [48, 49, 50, 51, 52, 53, 54, 55])) = some (.bl (!decide (c ∈ [48, 49, 50, 51, 52, 53, 54, 55]))) by unfold notInD; rw [inD_one], wp_some]
  have hmem : c ∈ [48, 49, 50, 51, 52, 53, 54, 55] ↔ 48 ≤ c ∧ c ≤ 55 := by
    simp only [List.mem_cons, List.not_mem_nil, or_false]
    omega
  by_cases c2 : c ∈ [48, 49, 50, 51, 52, 53, 54, 55]
  case neg =>
    simp only [c2, decide_false, Bool.not_false, if_true]
    refine bad ?_
    cases mark with
    | false => exact hQ
    | true =>
      rw [if_pos rfl] at hQ
      simp only [] at hQ
      rw [if_neg fun h => c2 (hmem.mpr ⟨h.1, h.2.1⟩)] at hQ
      exact hQ
  simp only [c2, decide_true, Bool.not_true, Bool.false_eq_true, if_false]
  rw [wp_orM, wp_tst, wp_op2, wp_getv g3, wp_pure, str_e, eqD_str hm ok0, wp_some]
  cases mark with
  | false =>
    rw [show decide ((if false = true then [58] else [] : List Nat) = []) = true from rfl]
    simp only [if_true]
    exact bad hQ
  | true =>
    rw [show decide ((if true = true then [58] else [] : List Nat) = []) = false from rfl]
    simp only [Bool.false_eq_true, if_false]
    rw [wp_tst, wp_op2, wp_fld (x := .int ((k : Int) + 1)) (by rw [h0, hT]) rfl, wp_pure, show gtD (.int ((k : Int) + 1)) (.int 12) = some (.bl (decide (12 < (k : Int) + 1))) from rfl, wp_some]
    by_cases c3 : (12 : Int) < (k : Int) + 1
    · simp only [c3, decide_true, if_true]
      refine bad ?_
      rw [if_pos rfl] at hQ
      simp only [] at hQ
      rw [if_neg fun h => by omega] at hQ
      exact hQ
    · simp only [c3, decide_false, Bool.false_eq_true, if_false]
      rw [wp_pure]
      simp only []
      exact hgo c rfl (hmem.mp c2).1 (hmem.mp c2).2 rfl (by omega)
end Pd

set_option maxHeartbeats 4000000
namespace Pd
open PySem PySem.Spec PyProof.Rows L2
theorem rdPart_le : ∀ {n : Nat} {ws : List (List Nat)} {pl k lv : Nat} {r : Rule} {pl' k' : Nat}, rdPart n ws pl k lv = .ok (r, pl', k') → pl' ≤ ws.length
  | 0, _, _, _, _, _, _, _, h => nomatch h
  | n + 1, ws, pl, k, lv, r, pl', k', h => by
    unfold rdPart at h
    cases e : ws[pl]? with
    | none => rw [e] at h; cases h
    | some w =>
      rw [e] at h
      have hl : pl < ws.length := (List.getElem?_eq_some_iff.mp e).1
      simp only at h
      by_cases c1 : 20 < lv
      · rw [if_pos c1] at h; cases h
      rw [if_neg c1] at h
      by_cases c2 : w = wNot
      · rw [if_pos c2] at h
        cases e1 : rdPart n ws (pl + 1) k (lv + 1) with
        | error j => rw [e1] at h; cases h
        | ok x =>
          obtain ⟨r1, pl1, k1⟩ := x
          rw [e1] at h
          cases h
          exact rdPart_le e1
      rw [if_neg c2] at h
      by_cases c3 : w = wAnd ∨ w = wOr
      · rw [if_pos c3] at h
        cases e1 : rdPart n ws (pl + 1) k (lv + 1) with
        | error j => rw [e1] at h; cases h
        | ok x =>
          obtain ⟨r1, pl1, k1⟩ := x
          rw [e1] at h
          simp only at h
          cases e2 : rdPart n ws pl1 k1 (lv + 1) with
          | error j => rw [e2] at h; cases h
          | ok x =>
            obtain ⟨r2, pl2, k2⟩ := x
            rw [e2] at h
            cases h
            exact rdPart_le e2
      rw [if_neg c3] at h
      cases e1 : rdSim w k with
      | none => rw [e1] at h; cases h
      | some x =>
        obtain ⟨c, sp⟩ := x
        rw [e1] at h
        cases h
        exact hl
theorem look_parts (w : List Nat) : kvParts.lookup (TS w) = if w = wNot then some (.int 1) else if w = wAnd ∨ w = wOr then some (.int 2) else none := by
  unfold kvParts
  rw [str_not, str_and, str_or, List.lookup_cons, List.lookup_cons, List.lookup_cons, SX.S_beq_eq, SX.S_beq_eq, SX.S_beq_eq, List.lookup_nil]
  by_cases c1 : w = wNot
  · subst c1
    simp
  · by_cases c2 : w = wAnd
    · subst c2
      simp [c1]
    · by_cases c3 : w = wOr
      · subst c3
        simp [c1, c2]
      · simp [c1, c2, c3]
def partEnd (p dx : Addr) (ws : List (List Nat)) (r : Except Nat (Rule × Nat × Nat)) (Q : Fl → Ev → Prop) (E : Str → List D → Ev → Prop) : Prop := match r with
  | .ok (r, pl', k') => ∀ ρ', ρ'[0]? = some (.ow (rdT p dx ws pl' k')) → Q (.rt (ruleD r)) ρ'
  | .error e => ∀ ρ' t', ρ'[0]? = some (.ow t') → sameRoot (rdT p dx ws 0 0) t' = true → E "InvalidText" [.int (e : Int)] ρ'
theorem same_rd {p dx : Addr} {ws : List (List Nat)} {a b c d : Nat} : sameRoot (rdT p dx ws a b) (rdT p dx ws c d) = true := by
  unfold rdT sameRoot
  simp
theorem same_rd' {p dx : Addr} {ws : List (List Nat)} {a b c d : Nat} {t : T} (h : sameRoot (rdT p dx ws a b) t = true) : sameRoot (rdT p dx ws c d) t = true := by
  unfold rdT at *
  cases t <;> exact h
theorem wsD_ix {ws : List (List Nat)} {pl : Nat} {w : List Nat} (h : ws[pl]? = some w) : ixD (wsD ws) (.int (pl : Int)) = some (.str (TS w)) := ix_n (by rw [List.getElem?_map, h]; rfl)
theorem part_wp {p dx : Addr} {ws : List (List Nat)} (hw : ∀ w ∈ ws, okc w ∧ w.length + 2 ≤ sizeLine) : ∀ (n : Nat) {pl k lv : Nat} {Q : Fl → Ev → Prop} {E : Str → List D → Ev → Prop}, pl ≤ ws.length → 22 ≤ lv + n → lv ≤ 21 → partEnd p dx ws (rdPart n ws pl k lv) Q E →
    wp (dPart n) Q E [.ow (rdT p dx ws pl k), .va (.int (lv : Int)), .un, .un, .un]
  | 0, pl, k, lv, Q, E, _, h1, h2, _ => by omega
  | n + 1, pl, k, lv, Q, E, hpl, h1, h2, hQ => by
    unfold rdPart at hQ
    unfold dPart
    rw [wp_seq, wp_iteM, wp_orM, wp_tst, wp_op2, wp_fld (x := .int (pl : Int)) rfl rfl, wp_callM, wp_cons, wp_fld (x := wsD ws) rfl rfl, wp_pure, show one lenD [wsD ws] = some (.int (ws.length : Int)) by show some (D.int ((ws.map _).length : Int)) = _; rw [List.length_map], wp_some, eqD_int, wp_some]
    have bad : ∀ {Q' : Fl → Ev → Prop}, partEnd p dx ws (.error pl) Q E → wp (mkM "InvalidText" (fldM "ConditionReader" 0 1)) Q' E [.ow (rdT p dx ws pl k), .va (.int (lv : Int)), .un, .un, .un] := fun {Q'} h => by
      rw [wp_mkM, wp_fld (x := .int (pl : Int)) rfl rfl]
      exact h _ _ rfl same_rd
    cases e : ws[pl]? with
    | none =>
      rw [e] at hQ
      have : pl = ws.length := Nat.le_antisymm hpl (List.getElem?_eq_none_iff.mp e)
      rw [decide_eq_true (show (pl : Int) = (ws.length : Int) by omega)]
      simp only [if_true]
      exact bad hQ
    | some w =>
      rw [e] at hQ
      have hl : pl < ws.length := (List.getElem?_eq_some_iff.mp e).1
      obtain ⟨okw, zw⟩ := hw w (List.mem_of_getElem? e)
      rw [decide_eq_false (show ¬ (pl : Int) = (ws.length : Int) by omega)]
      simp only [Bool.false_eq_true, if_false] at hQ ⊢
      rw [wp_tst, wp_op2, wp_getv rfl, wp_pure, show gtD (.int (lv : Int)) (.int 20) = some (.bl (decide (20 < (lv : Int)))) from rfl, wp_some]
      by_cases c1 : 20 < lv
      · rw [if_pos c1] at hQ
        rw [decide_eq_true (show (20 : Int) < (lv : Int) by omega)]
        simp only [if_true]
        exact bad hQ
      rw [if_neg c1] at hQ
      rw [decide_eq_false (show ¬ (20 : Int) < (lv : Int) by omega)]
      simp only [Bool.false_eq_true, if_false]
      rw [wp_pure]
      simp only []
      rw [wp_seq, wp_letM, wp_vaM, wp_op2, wp_fld (x := wsD ws) rfl rfl, wp_fld (x := .int (pl : Int)) rfl rfl, wsD_ix e, wp_some]
      refine ⟨by simp, ?_⟩
      simp only [List.set_cons_succ, List.set_cons_zero]
      rw [wp_seq, wp_iteM, wp_tst, wp_din, wp_getv rfl]
      simp only []
      have hlk := look_parts w
      -- one more part
      have part : ∀ {pl1 k1 : Nat} {y : Slot} {d : D} {l acc : List D} {Q' : List D → Ev → Prop} {E' : Str → List D → Ev → Prop}, pl1 ≤ ws.length → acc.length < sizeLine →
          (match rdPart n ws pl1 k1 (lv + 1) with
            | .ok (r, pl', k') => wp (lcGoX (setv 4) (pure true) (methO "ConditionReader" 5 2 0 (dPart n) (consM (op2 addD (getv 1) (pure (.int 1))) (pure []))) [4] l (acc ++ [ruleD r])) Q' E' [.ow (rdT p dx ws pl' k'), .va (.int (lv : Int)), .va (.str (TS w)), .un, .va d]
            | .error j => ∀ t', sameRoot (rdT p dx ws 0 0) t' = true → E' "InvalidText" [.int (j : Int)] [.ow t', .va (.int (lv : Int)), .va (.str (TS w)), .un, .va d]) →
          wp (lcGoX (setv 4) (pure true) (methO "ConditionReader" 5 2 0 (dPart n) (consM (op2 addD (getv 1) (pure (.int 1))) (pure []))) [4] (d :: l) acc) Q' E' [.ow (rdT p dx ws pl1 k1), .va (.int (lv : Int)), .va (.str (TS w)), .un, y] := by
        intro pl1 k1 y d l acc Q' E' hpl1 hacc h
        refine wp_goXc ?_
        rw [show wipeE [.ow (rdT p dx ws pl1 k1), .va (.int (lv : Int)), .va (.str (TS w)), .un, y] [4] = [.ow (rdT p dx ws pl1 k1), .va (.int (lv : Int)), .va (.str (TS w)), .un, .un] from rfl, wp_setv]
        refine ⟨by simp, ?_⟩
        simp only [List.set_cons_succ, List.set_cons_zero]
        rw [wp_pure]
        refine ⟨rfl, ?_⟩
        rw [wp_methO rfl, wp_cons, wp_op2, wp_getv rfl, wp_pure, wp_add, wp_pure]
        refine wp_callFO (t := rdT p dx ws pl1 k1) rfl rfl ?_
        have ih := @part_wp p dx ws hw n pl1 k1 (lv + 1)
        rw [show ((lv + 1 : Nat) : Int) = (lv : Int) + 1 by omega] at ih
        refine ih hpl1 (by omega) (by omega) ?_
        cases e1 : rdPart n ws pl1 k1 (lv + 1) with
        | ok x =>
          obtain ⟨r, pl', k'⟩ := x
          rw [e1] at h
          intro ρ' hρ
          exact ⟨_, _, hρ, same_rd, .inl rfl, hacc, h⟩
        | error j =>
          rw [e1] at h
          intro ρ' t' hρ hs
          exact ⟨t', hρ, same_rd' hs, h t' hs⟩
      have sz : 2 < sizeLine := by unfold sizeLine; decide
      by_cases c2 : w = wNot
      · rw [if_pos c2] at hQ hlk
        rw [hlk]
        simp only [Option.isSome_some, bne_self_eq_false, Bool.false_eq_true, if_false]
        rw [wp_pure]
        simp only []
        rw [wp_seq, wp_aug (a := (pl : Int)) rfl rfl]
        simp only [List.set_cons_succ, List.set_cons_zero]
        rw [show T.o p dx cR [.d (wsD ws), .d (.int ((pl : Int) + 1)), .d (.int (k : Int))] = rdT p dx ws (pl + 1) k by unfold rdT; rw [show ((pl + 1 : Nat) : Int) = (pl : Int) + 1 by omega]]
        rw [wp_retM, wp_tupM, wp_cons, wp_getv rfl, wp_star, wp_ltM, wp_lcX, wp_bind, wp_cons, wp_dit, wp_getv rfl]
        simp only []
        rw [hlk, wp_some, wp_pure, rng1_of (by decide) (by decide), wp_some]
        rw [show rngL 0 (1 : Int).toNat = [.int 0] from rfl]
        refine part (by omega) (by show 0 < sizeLine; omega) ?_
        cases e1 : rdPart n ws (pl + 1) k (lv + 1) with
        | error j =>
          rw [e1] at hQ
          intro t' hs
          exact hQ _ t' rfl hs
        | ok x =>
          obtain ⟨r, pl', k'⟩ := x
          rw [e1] at hQ
          simp only []
          rw [wp_goXn, wp_pure]
          refine ⟨by show (2 : Nat) ≤ _; omega, ?_⟩
          have := hQ (backE [.ow (rdT p dx ws (pl + 1) k), .va (.int (lv : Int)), .va (.str (TS w)), .un, .un] [.ow (rdT p dx ws pl' k'), .va (.int (lv : Int)), .va (.str (TS w)), .un, .va (.int 0)] [4]) rfl
          rw [show D.str (TS w) = .str "not" by rw [c2, str_not]] at this ⊢
          exact this
      rw [if_neg c2] at hQ hlk
      by_cases c3 : w = wAnd ∨ w = wOr
      · rw [if_pos c3] at hQ hlk
        rw [hlk]
        simp only [Option.isSome_some, bne_self_eq_false, Bool.false_eq_true, if_false]
        rw [wp_pure]
        simp only []
        rw [wp_seq, wp_aug (a := (pl : Int)) rfl rfl]
        simp only [List.set_cons_succ, List.set_cons_zero]
        rw [show T.o p dx cR [.d (wsD ws), .d (.int ((pl : Int) + 1)), .d (.int (k : Int))] = rdT p dx ws (pl + 1) k by unfold rdT; rw [show ((pl + 1 : Nat) : Int) = (pl : Int) + 1 by omega]]
        rw [wp_retM, wp_tupM, wp_cons, wp_getv rfl, wp_star, wp_ltM, wp_lcX, wp_bind, wp_cons, wp_dit, wp_getv rfl]
        simp only []
        rw [hlk, wp_some, wp_pure, rng1_of (by decide) (by decide), wp_some]
        rw [show rngL 0 (2 : Int).toNat = [.int 0, .int 1] from rfl]
        refine part (by omega) (by show 0 < sizeLine; omega) ?_
        cases e1 : rdPart n ws (pl + 1) k (lv + 1) with
        | error j =>
          rw [e1] at hQ
          intro t' hs
          exact hQ _ t' rfl hs
        | ok x =>
          obtain ⟨r, pl1, k1⟩ := x
          rw [e1] at hQ
          simp only [] at hQ ⊢
          refine part (rdPart_le e1) (by show 1 < sizeLine; omega) ?_
          cases e2 : rdPart n ws pl1 k1 (lv + 1) with
          | error j =>
            rw [e2] at hQ
            intro t' hs
            exact hQ _ t' rfl hs
          | ok x =>
            obtain ⟨r2, pl2, k2⟩ := x
            rw [e2] at hQ
            simp only []
            rw [wp_goXn, wp_pure]
            refine ⟨by show (3 : Nat) ≤ _; omega, ?_⟩
            have := hQ (backE [.ow (rdT p dx ws (pl + 1) k), .va (.int (lv : Int)), .va (.str (TS w)), .un, .un] [.ow (rdT p dx ws pl2 k2), .va (.int (lv : Int)), .va (.str (TS w)), .un, .va (.int 1)] [4]) rfl
            rcases c3 with c3 | c3
            · rw [if_pos c3] at this
              rw [show D.str (TS w) = .str "and" by rw [c3, str_and]] at this ⊢
              exact this
            · rw [if_neg (by rw [c3]; decide)] at this
              rw [show D.str (TS w) = .str "or" by rw [c3, str_or]] at this ⊢
              exact this
      rw [if_neg c3] at hQ hlk
      rw [hlk]
      simp only [Option.isSome_none, Bool.true_bne, Bool.not_false, if_true]
      rw [wp_seq, wp_letM, wp_vaM, wp_methO rfl, wp_cons, wp_getv rfl, wp_pure]
      refine wp_callFO (t := rdT p dx ws pl k) rfl rfl (sim_wp (ws := ws) (pl := pl) (k := k) okw zw ?_)
      unfold simEnd
      cases e1 : rdSim w k with
      | none =>
        rw [e1] at hQ
        intro ρ' hρ
        exact ⟨_, hρ, same_rd, hQ _ _ rfl same_rd⟩
      | some x =>
        obtain ⟨c, sp⟩ := x
        rw [e1] at hQ
        intro ρ' hρ
        refine ⟨_, _, hρ, same_rd, .inl rfl, by simp, ?_⟩
        simp only [List.set_cons_succ, List.set_cons_zero]
        rw [wp_seq, wp_aug (a := (pl : Int)) rfl rfl]
        simp only [List.set_cons_succ, List.set_cons_zero]
        rw [wp_retM, wp_getv rfl]
        refine hQ _ ?_
        show some (Slot.ow (.o p dx cR _)) = _
        unfold rdT
        rw [show ((pl + 1 : Nat) : Int) = (pl : Int) + 1 by omega]
end Pd

set_option maxHeartbeats 4000000
namespace Pd
open PySem PySem.Spec PyProof.Rows L2
theorem resP_of {rest : M Fl} {ρ0 : Ev} {n : Nat} {r : D ⊕ (Str × List D)} (h : wp rest (fun f ρ' => ρ'.length = n ∧ ∃ d, r = .inl d ∧ f = .rt d) (fun c l ρ' => ρ'.length = n ∧ r = .inr (c, l)) ρ0) : ResP rest ρ0 n r := by
  unfold wp at h
  cases e : rest ρ0 with
  | no => rw [e] at h; exact h.elim
  | ex c l ρ' =>
    rw [e] at h
    obtain ⟨h1, rfl⟩ := h
    exact ⟨ρ', h1, e⟩
  | ok f ρ' =>
    rw [e] at h
    obtain ⟨h1, d, rfl, rfl⟩ := h
    exact ⟨ρ', h1, e⟩
theorem wp_new {i np : Nat} {c : Str} {mk : List D → List D} {fa : M (List D)} {rest : M Fl} {Q : Fl → Ev → Prop} {E : Str → List D → Ev → Prop} {ρ : Ev} : wp (newM i c np mk fa rest) Q E ρ = wp fa (fun ds ρ' => wp (if ds.length = np then newGo i c (mk ds) rest else no) Q E ρ') E ρ := by
  unfold newM
  rw [wp_bind]
def newEnd (r : D ⊕ (Str × List D)) (Q : Fl → Ev → Prop) (E : Str → List D → Ev → Prop) : Prop := match r with
  | .inl d => ∀ ρ', Q (.rt d) ρ'
  | .inr x => ∀ ρ', E x.1 x.2 ρ'
theorem wp_newGo {i : Nat} {c : Str} {ts : List D} {rest : M Fl} {Q : Fl → Ev → Prop} {E : Str → List D → Ev → Prop} {ρ : Ev} (r : D ⊕ (Str × List D)) (hi : i < ρ.length)
    (h : ∀ p dx : Addr, p ≠ dx → wp rest (fun f ρ' => ρ'.length = ρ.length ∧ ∃ d, r = .inl d ∧ f = .rt d) (fun c l ρ' => ρ'.length = ρ.length ∧ r = .inr (c, l)) (ρ.set i (.ow (.o p dx c (ts.map .d)))))
    (hQ : newEnd r Q E) : wp (newGo i c ts rest) Q E ρ := by
  have e := newGo_of (r := r) hi fun p dx ne => resP_of (h p dx ne)
  unfold wp
  rw [e]
  cases r with
  | inl d => exact hQ _
  | inr x => exact hQ _
def rdCond (a : List Nat) : Except Nat Rule := match rdPart 25 (TL.spl [32] 0 [] a) 0 0 1 with
  | .error e => .error e
  | .ok (r, pl, _) => if pl < (TL.spl [32] 0 [] a).length then .error pl else .ok r
def condEnd (r : Except Nat Rule) (Q : Fl → Ev → Prop) (E : Str → List D → Ev → Prop) : Prop := match r with
  | .ok r => ∀ ρ', Q (.rt (ruleD r)) ρ'
  | .error e => ∀ ρ', E "InvalidText" [.int (e : Int)] ρ'
theorem ok32 : okc [32] := by intro c hc; rw [List.mem_singleton.mp hc]; decide
theorem splD_wp {a : List Nat} (hz : a.length + 2 ≤ sizeLine) {s : Nat} (hs : s < 256 := by decide) : splitD (.str (TS a)) (.str (TS [s])) = some (wsD (TL.spl [s] 0 [] a)) := by
  unfold splitD wsD
  simp only []
  rw [if_pos ⟨by simp [SX.S_len], by rw [SX.S_len]; exact hz⟩, SX.split_S (by simp) (by simpa using hs), List.map_map]
  rfl
theorem cond_wp {a : List Nat} (hok : okc a) (hz : a.length + 4 ≤ sizeLine) {Q : Fl → Ev → Prop} {E : Str → List D → Ev → Prop} (hQ : condEnd (rdCond a) Q E) : wp dCond Q E [.va (.str (TS a)), .un, .un] := by
  have hw : ∀ w ∈ TL.spl [32] 0 [] a, okc w ∧ w.length + 2 ≤ sizeLine := fun w hm => by
    obtain ⟨h1, h2⟩ := spl_mem hm
    refine ⟨fun c hc => ?_, by simp at h2; omega⟩
    rcases h1 c hc with h | h
    · cases h
    · exact hok c h
  unfold rdCond at hQ
  unfold dCond
  rw [wp_new, wp_cons, wp_m1M, wp_getv rfl]
  simp only []
  rw [wp_pure, str_blank, splD_wp (by omega), wp_some, wp_pure]
  rw [if_pos (show [wsD (TL.spl [32] 0 [] a)].length = 1 from rfl)]
  generalize TL.spl [32] 0 [] a = ws at *
  refine wp_newGo (match (match rdPart 25 ws 0 0 1 with
    | .error e => .error e
    | .ok (r, pl, _) => if pl < ws.length then .error pl else .ok r : Except Nat Rule) with
    | .ok r => .inl (ruleD r)
    | .error e => .inr ("InvalidText", [.int (e : Int)])) (by simp) ?_ ?_
  · intro p dx ne
    simp only [List.set_cons_succ, List.set_cons_zero]
    rw [show ([wsD ws] ++ [D.int 0, D.int 0]).map T.d = [.d (wsD ws), .d (.int ((0 : Nat) : Int)), .d (.int ((0 : Nat) : Int))] from rfl, show T.o p dx "ConditionReader" [.d (wsD ws), .d (.int ((0 : Nat) : Int)), .d (.int ((0 : Nat) : Int))] = rdT p dx ws 0 0 from rfl]
    rw [wp_seq, wp_letM, wp_vaM, wp_methO rfl, wp_cons, wp_pure, wp_pure]
    refine wp_callFO (t := rdT p dx ws 0 0) rfl rfl (part_wp hw 25 (lv := 1) (Nat.zero_le _) (by decide) (by decide) ?_)
    cases e1 : rdPart 25 ws 0 0 1 with
    | error j =>
      intro ρ' t' hρ hs
      exact ⟨t', hρ, same_rd' hs, rfl, rfl⟩
    | ok x =>
      obtain ⟨r, pl, k⟩ := x
      intro ρ' hρ
      refine ⟨_, _, hρ, same_rd, .inl rfl, by simp, ?_⟩
      simp only [List.set_cons_succ, List.set_cons_zero]
      rw [wp_seq, wp_iteM, wp_tst, wp_op2, wp_fld (x := .int (pl : Int)) rfl rfl, wp_callM, wp_cons, wp_fld (x := wsD ws) rfl rfl, wp_pure, show one lenD [wsD ws] = some (.int (ws.length : Int)) by show some (D.int ((ws.map _).length : Int)) = _; rw [List.length_map], wp_some, show ltD (.int (pl : Int)) (.int (ws.length : Int)) = some (.bl (decide ((pl : Int) < (ws.length : Int)))) from rfl, wp_some]
      by_cases c : pl < ws.length
      · rw [decide_eq_true (show (pl : Int) < (ws.length : Int) by omega)]
        simp only [if_true]
        rw [wp_mkM, wp_fld (x := .int (pl : Int)) rfl rfl]
        refine ⟨rfl, ?_⟩
        rw [if_pos c]
      · rw [decide_eq_false (show ¬ (pl : Int) < (ws.length : Int) by omega)]
        simp only [Bool.false_eq_true, if_false]
        rw [wp_pure]
        simp only []
        rw [wp_retM, wp_getv rfl]
        refine ⟨rfl, _, ?_, rfl⟩
        rw [if_neg c]
  · revert hQ
    generalize (match rdPart 25 ws 0 0 1 with
      | .error e => .error e
      | .ok (r, pl, _) => if pl < ws.length then .error pl else .ok r : Except Nat Rule) = res
    intro hQ
    cases res with
    | ok r => exact hQ
    | error e => exact hQ
end Pd

set_option maxHeartbeats 4000000
namespace Pd
open PySem PySem.Spec PyProof.Rows L2
/-! ### a comprehension that maps -/
theorem wipeE_len (ρ : Ev) : ∀ vs : List Nat, (wipeE ρ vs).length = ρ.length
  | [] => rfl
  | v :: vs => by unfold wipeE; rw [List.length_set, wipeE_len ρ vs]
def keeps (ρ : Ev) (vs : List Nat) : Bool := vs.all fun v => match ρ[v]? with
  | some .un => true
  | some (.va _) => true
  | _ => false
theorem back_same {ρ ρ2 : Ev} {vs : List Nat} (hk : keeps ρ vs = true) (h : wipeE ρ2 vs = wipeE ρ vs) : backE ρ ρ2 vs = ρ := by
  refine List.ext_getElem? fun j => ?_
  have hl : ρ2.length = ρ.length := by rw [← wipeE_len ρ2 vs, h, wipeE_len]
  by_cases hj : j ∈ vs
  · have k := List.all_eq_true.mp hk j hj
    by_cases hb : j < ρ.length
    · have hb2 : j < (backE ρ ρ2 vs).length := by rw [backE_length, hl]; exact hb
      have e := List.getElem?_eq_getElem hb2
      have := backE_in hj e
      rw [e, this]
      rw [List.getElem?_eq_getElem hb] at k ⊢
      generalize ρ[j] = s at k
      cases s <;> first | rfl | cases k
    · rw [List.getElem?_eq_none (by omega)] at k
      cases k
  · rw [backE_out hj, ← wipeE_out (ρ := ρ2) hj, h, wipeE_out hj]
theorem wp_lcmap {α : Type} {bt : D → M Unit} {te : M D} {vs : List Nat} {xs : List α} {f g : α → D} {Q : List D → Ev → Prop} {E : Str → List D → Ev → Prop} {ρ : Ev} (hk : keeps ρ vs = true) (hn : xs.length ≤ sizeLine)
    (hs : ∀ x ∈ xs, wp (bt (f x)) (fun _ => wp te (fun y ρ2 => y = g x ∧ wipeE ρ2 vs = wipeE ρ vs) (fun _ _ _ => False)) (fun _ _ _ => False) (wipeE ρ vs)) (hQ : Q (xs.map g) ρ) : wp (lcEnd bt (pure true) te vs (xs.map f)) Q E ρ := by
  refine wp_lc (I := fun l acc ρ' => ∃ p q : List α, xs = p ++ q ∧ l = q.map f ∧ acc = p.map g ∧ wipeE ρ' vs = wipeE ρ vs) ⟨[], xs, rfl, rfl, rfl, rfl⟩ ?_ ?_
  · rintro acc ρ' ⟨p, q, e, hq, rfl, hw⟩
    have : q = [] := List.map_eq_nil_iff.mp hq.symm
    subst this
    rw [List.append_nil] at e
    subst e
    rw [back_same hk hw]
    exact hQ
  · rintro d l acc ρ' ⟨p, q, e, hq, rfl, hw⟩
    cases q with
    | nil => simp at hq
    | cons x q =>
      rw [List.map_cons, List.cons.injEq] at hq
      obtain ⟨rfl, rfl⟩ := hq
      rw [hw]
      refine wp_weak (hs x (by rw [e]; simp)) fun _ ρ1 k => ?_
      rw [wp_pure]
      simp only [if_true]
      refine wp_weak k fun y ρ2 ⟨hy, hw2⟩ => ⟨?_, p ++ [x], q, by rw [e]; simp, rfl, by rw [hy]; simp, hw2⟩
      rw [List.length_map]
      have := congrArg List.length e
      rw [List.length_append, List.length_cons] at this
      omega
/-! ### slices, joins -/
theorem wp_slice {f : M D} {lo hi : M (Option Int)} {Q : D → Ev → Prop} {E : Str → List D → Ev → Prop} {ρ : Ev} : wp (sliceM f lo hi) Q E ρ = wp f (fun d => wp lo (fun l => wp hi (fun h => wp (opt (slD d l h)) Q E) E) E) E ρ := by
  unfold sliceM
  rw [wp_bind]
  congr 1
  funext d ρ1
  rw [wp_bind]
  congr 1
  funext l ρ2
  rw [wp_bind]
theorem wp_part {f : M D} {Q : Option Int → Ev → Prop} {E : Str → List D → Ev → Prop} {ρ : Ev} : wp (partM f) Q E ρ = wp f (fun d ρ' => match d with
    | .int i => Q (some i) ρ'
    | _ => False) E ρ := by
  unfold partM
  rw [wp_bind]
  congr 1
  funext d ρ'
  cases d <;> simp only [wp_pure, wp_no]
theorem cutS_S (l : List Nat) (lo hi : Option Int) : cutS (TS l) lo hi = TS (cut l lo hi) := by
  unfold cutS cut
  rw [SX.S_len]
theorem slD_S {l : List Nat} {lo hi : Option Int} (h : l.length ≤ sizeLine) : slD (.str (TS l)) lo hi = some (.str (TS (cut l lo hi))) := by
  show (if (TS l).length ≤ sizeLine then _ else none) = _
  rw [if_pos (by rw [SX.S_len]; exact h), cutS_S]
theorem cut_to {β : Type} (l : List β) (k : Nat) : cut l none (some (k : Int)) = l.take k := by
  unfold cut
  rw [HT.sIx_none, HT.sIx_nat, List.drop_zero, Nat.sub_zero]
  by_cases h : k ≤ l.length
  · rw [Nat.min_eq_left h]
  · rw [Nat.min_eq_right (by omega), List.take_length, List.take_of_length_le (by omega)]
theorem cut_from {β : Type} (l : List β) (k : Nat) : cut l (some (k : Int)) none = l.drop k := by
  unfold cut
  rw [HT.sIx_none, HT.sIx_nat]
  by_cases h : k ≤ l.length
  · rw [Nat.min_eq_left h, List.take_of_length_le (by rw [List.length_drop]; omega)]
  · rw [Nat.min_eq_right (by omega), List.drop_length, List.drop_eq_nil_of_le (by omega)]
    try simp
theorem joinD_S {s : List Nat} {ws : List (List Nat)} (hs : s.length ≤ 100) (hz : (ws.map (·.length)).sum + s.length * ws.length ≤ sizeLine) : joinD (.str (TS s)) (.lst (ws.map fun w => .str (TS w))) = some (.str (TS (TL.joinL s ws))) := by
  unfold joinD
  simp only []
  rw [show (ws.map fun w => D.str (TS w)) = (ws.map TS).map D.str by simp [List.map_map, Function.comp_def], asStrs_map, Option.bind_some, if_pos, SX.join_S]
  rw [List.length_map, List.map_map, SX.S_len]
  rw [show (ws.map ((·.length) ∘ TS)) = ws.map (·.length) from List.map_congr_left fun w _ => SX.S_len w, Nat.mul_comm]
  unfold sizeLine at hz
  omega
/-! ### orders -/
def laneI (x : Nat × Bool) : D := .tup [.int x.1, .bl x.2]
def laneD (l : List (Nat × Bool)) : D := .lst (l.map laneI)
def laneW (x : Nat × Bool) : List Nat := (if x.2 = true then 43 else 45) :: TL.numL x.1
def laneL (l : List (Nat × Bool)) : List Nat := TL.joinL [32] (l.map laneW)
theorem str_plus : ("+" : Str) = TS [43] := by decide +kernel
def smallO (l : List (Nat × Bool)) : Prop := l.length ≤ 1000 ∧ ∀ x ∈ l, x.1 < 10 ^ 30
theorem laneW_len {x : Nat × Bool} (h : x.1 < 10 ^ 30) : (laneW x).length ≤ 31 := by
  unfold laneW
  have := num_len h
  simp only [List.length_cons]
  omega
theorem sum_le {α : Type} {f : α → Nat} {m : Nat} : ∀ {l : List α}, (∀ x ∈ l, f x ≤ m) → (l.map f).sum ≤ m * l.length
  | [], _ => by simp
  | x :: l, h => by
    have h1 := h x (List.mem_cons_self ..)
    have h2 := sum_le (f := f) (m := m) (l := l) fun y hy => h y (List.mem_cons_of_mem _ hy)
    simp only [List.map_cons, List.sum_cons, List.length_cons, Nat.mul_add, Nat.mul_one]
    omega
theorem lane_join {l : List (Nat × Bool)} (h : smallO l) : joinD (.str (TS [32])) (.lst (l.map fun x => .str (TS (laneW x)))) = some (.str (TS (laneL l))) := by
  have := joinD_S (s := [32]) (ws := l.map laneW) (by decide) (by
    have := sum_le (f := fun w : List Nat => w.length) (m := 31) (l := l.map laneW) fun w hw => by
      obtain ⟨x, hx, rfl⟩ := List.mem_map.mp hw
      exact laneW_len (h.2 x hx)
    have h1 := h.1
    rw [List.length_map] at this ⊢
    simp only [List.length_cons, List.length_nil]
    unfold sizeLine
    omega)
  rw [List.map_map] at this
  exact this
def kvSigns : List (Str × D) := [("+", .bl true), ("-", .bl false)]
noncomputable def dWord : M Fl := (retM (m1M joinD (pure (.str " ")) (ltM (lcM (iL (getv 0)) (gtup (gcons (setv 1) (gcons (setv 2) gnil))) (pure true) (op2 addD (iteM (tst (getv 2)) (pure (.str "+")) (pure (.str "-"))) (callM (one toStr) (consM (getv 1) (pure [])))) [1, 2]))))
noncomputable def dLaneL : M Fl := (retM (m1M joinD (pure (.str " ")) (ltM (lcM (iL (getv 0)) (gtup (gcons (setv 1) (gcons (setv 2) gnil))) (pure true) (op2 addD (op2 ixD (lstM (consM (pure (.str "-")) (consM (pure (.str "+")) (pure [])))) (callM (one toInt) (consM (getv 2) (pure [])))) (callM (one reprI) (consM (getv 1) (pure [])))) [1, 2]))))
noncomputable def dRord : M Fl := (seqM (par2M 1 2 (vaM (m1M splitD (getv 0) (pure (.str " ")))) (lsM (dspL (pure [])))) (seqM (forM (iEn (consM (getv 1) (pure []))) (gtup (gcons (setv 3) (gcons (setv 4) gnil))) (seqM (par2M 5 6 (vaM (sliceM (getv 4) (pure none) (partM (pure (.int 1))))) (vaM (sliceM (getv 4) (partM (pure (.int 1))) (pure none)))) (seqM (iteM (Pd.orM (tst (op2 neD (callM (one lenD) (consM (getv 4) (pure []))) (pure (.int 2)))) (Pd.orM (tst (dinM kvSigns true (getv 5))) (tst (op2 notInD (getv 6) (pure (.str "01234567")))))) (mkM "InvalidText" (getv 3)) (pure .nx)) (seqM (iteM (tst (peek (op2 inD (callM (one toInt) (consM (getv 6) (pure []))) (ltM (lcM (iL (getv 2)) (gtup (gcons (setv 7) (gcons (setv 8) gnil))) (pure true) (getv 7) [7, 8]))))) (mkM "InvalidText" (getv 3)) (pure .nx)) (dropM (owM 2 apD (consM (tupM (consM (callM (one toInt) (consM (getv 6) (pure []))) (consM (ditM kvSigns (getv 5)) (pure [])))) (pure [])))))))) (seqM (iteM (tst (peek (op2 geD (callM (one maxD) (consM (ltM (lcM (iL (getv 2)) (gtup (gcons (setv 7) (gcons (setv 8) gnil))) (pure true) (getv 7) [7, 8])) (pure []))) (lenv 2)))) (mkM "InvalidText" (callM (one lenD) (consM (getv 1) (pure [])))) (pure .nx)) (rovM 2))))
theorem word_wp {l : List (Nat × Bool)} (h : smallO l) {Q : Fl → Ev → Prop} {E : Str → List D → Ev → Prop} (hQ : ∀ ρ', Q (.rt (.str (TS (laneL l)))) ρ') : wp dWord Q E [.va (laneD l), .un, .un] := by
  unfold dWord
  have hn := h.1
  rw [wp_retM, wp_m1M, wp_pure]
  simp only []
  rw [wp_ltM, wp_lcM, wp_bind, wp_getv rfl, show asL (laneD l) = some (l.map laneI) from rfl, wp_some]
  refine wp_lcmap (g := fun x => .str (TS (laneW x))) rfl (by unfold sizeLine; omega) (fun x hx => ?_) ?_
  · have hz := h.2 x hx
    have hl := num_len hz
    rw [show wipeE [.va (laneD l), .un, .un] [1, 2] = [.va (laneD l), .un, .un] from rfl]
    unfold laneI
    rw [wp_gtup, wp_gcons, wp_setv]
    refine ⟨by simp, ?_⟩
    simp only [List.set_cons_succ, List.set_cons_zero]
    rw [wp_gcons, wp_setv]
    refine ⟨by simp, ?_⟩
    simp only [List.set_cons_succ, List.set_cons_zero]
    rw [wp_gnil, wp_op2, wp_iteM, wp_tst, wp_getv rfl]
    simp only []
    cases hx2 : x.2 with
    | true =>
      simp only [if_true]
      rw [wp_pure, wp_callM, wp_cons, wp_getv rfl, wp_pure, toStr_num hz, wp_some, str_plus, addD_S (by unfold sizeLine; simp only [List.length_cons, List.length_nil]; omega), wp_some]
      exact ⟨by unfold laneW; rw [hx2]; rfl, rfl⟩
    | false =>
      simp only [Bool.false_eq_true, if_false]
      rw [wp_pure, wp_callM, wp_cons, wp_getv rfl, wp_pure, toStr_num hz, wp_some, str_minus, addD_S (by unfold sizeLine; simp only [List.length_cons, List.length_nil]; omega), wp_some]
      exact ⟨by unfold laneW; rw [hx2]; rfl, rfl⟩
  · rw [str_blank, lane_join h, wp_some]
    exact hQ _
theorem laneL_wp {l : List (Nat × Bool)} (h : smallO l) {Q : Fl → Ev → Prop} {E : Str → List D → Ev → Prop} (hQ : ∀ ρ', Q (.rt (.str (TS (laneL l)))) ρ') : wp dLaneL Q E [.va (laneD l), .un, .un] := by
  unfold dLaneL
  have hn := h.1
  rw [wp_retM, wp_m1M, wp_pure]
  simp only []
  rw [wp_ltM, wp_lcM, wp_bind, wp_getv rfl, show asL (laneD l) = some (l.map laneI) from rfl, wp_some]
  refine wp_lcmap (g := fun x => .str (TS (laneW x))) rfl (by unfold sizeLine; omega) (fun x hx => ?_) ?_
  · have hz := h.2 x hx
    have hl := num_len hz
    rw [show wipeE [.va (laneD l), .un, .un] [1, 2] = [.va (laneD l), .un, .un] from rfl]
    unfold laneI
    rw [wp_gtup, wp_gcons, wp_setv]
    refine ⟨by simp, ?_⟩
    simp only [List.set_cons_succ, List.set_cons_zero]
    rw [wp_gcons, wp_setv]
    refine ⟨by simp, ?_⟩
    simp only [List.set_cons_succ, List.set_cons_zero]
    rw [wp_gnil, wp_op2, wp_op2, wp_lstM, wp_cons, wp_pure, wp_cons, wp_pure, wp_pure]
    refine ⟨by show (2 : Nat) ≤ _; unfold sizeLine; decide, ?_⟩
    rw [wp_callM, wp_cons, wp_getv rfl, wp_pure, show one toInt [.bl x.2] = some (.int (if x.2 then 1 else 0)) from rfl, wp_some]
    cases hx2 : x.2 with
    | true =>
      rw [show ixD (.lst [.str "-", .str "+"]) (.int (if true = true then 1 else 0)) = some (.str "+") from rfl, wp_some, wp_callM, wp_cons, wp_getv rfl, wp_pure, reprI_num hz, wp_some, str_plus, addD_S (by unfold sizeLine; simp only [List.length_cons, List.length_nil]; omega), wp_some]
      exact ⟨by unfold laneW; rw [hx2]; rfl, rfl⟩
    | false =>
      rw [show ixD (.lst [.str "-", .str "+"]) (.int (if false = true then 1 else 0)) = some (.str "-") from rfl, wp_some, wp_callM, wp_cons, wp_getv rfl, wp_pure, reprI_num hz, wp_some, str_minus, addD_S (by unfold sizeLine; simp only [List.length_cons, List.length_nil]; omega), wp_some]
      exact ⟨by unfold laneW; rw [hx2]; rfl, rfl⟩
  · rw [str_blank, lane_join h, wp_some]
    exact hQ _
end Pd

set_option maxHeartbeats 4000000
namespace Pd
open PySem PySem.Spec PyProof.Rows L2
theorem inD_ints (n : Int) (ns : List Int) : inD (.int n) (.lst (ns.map .int)) = some (.bl (decide (n ∈ ns))) := by
  have h1 := pyL_ints ns
  have h2 := lay_ints ns
  have hs : SeqAt.shaped (.list (ns.map .int)) = true := by
    show (PyData.canLayAll0 (ns.map .int) && decide (PyData.depthAll (ns.map .int) + 1 ≤ 64)) = true
    rw [h2.1, h2.2]
    rfl
  have hs2 : SeqAt.shaped (.int n) = true := rfl
  show ((py (.int n)).bind fun p => (pyL (ns.map .int)).bind fun q => if SeqAt.shaped p && SeqAt.shaped (.list q) then some (D.bl (q.any fun z => PyData.eqv z p)) else none) = _
  rw [h1]
  simp only [py, Option.bind_some, hs, hs2, Bool.and_self, if_true]
  congr 2
  rw [List.any_map]
  rw [Bool.eq_iff_iff, List.any_eq_true, decide_eq_true_eq]
  constructor
  · rintro ⟨x, hx, e⟩
    have : PyData.eqv (.int x) (.int n) = (x == n) := by first | rfl | simp [PyData.eqv]
    rw [show ((fun z => PyData.eqv z (.int n)) ∘ PyData.int) x = PyData.eqv (.int x) (.int n) from rfl, this] at e
    rw [← eq_of_beq e]
    exact hx
  · intro hx
    refine ⟨n, hx, ?_⟩
    have : PyData.eqv (.int n) (.int n) = (n == n) := by first | rfl | simp [PyData.eqv]
    rw [show ((fun z => PyData.eqv z (.int n)) ∘ PyData.int) n = PyData.eqv (.int n) (.int n) from rfl, this]
    simp
theorem nodup_le : ∀ (m : Nat) {l : List Nat}, l.Nodup → (∀ x ∈ l, x < m) → l.length ≤ m
  | 0, l, _, h => by
    cases l with
    | nil => exact Nat.le_refl _
    | cons x l => exact absurd (h x (List.mem_cons_self ..)) (by omega)
  | m + 1, l, hn, h => by
    by_cases c : m ∈ l
    · have := nodup_le m (l := l.erase m) (hn.erase m) fun x hx => by
        have h1 := h x (List.mem_of_mem_erase hx)
        have h2 : x ≠ m := fun z => by
          rw [z] at hx
          exact (List.Nodup.not_mem_erase hn) hx
        omega
      rw [List.length_erase_of_mem c] at this
      omega
    · have := nodup_le m hn fun x hx => by
        have h1 := h x hx
        have h2 : x ≠ m := fun z => c (z ▸ hx)
        omega
      omega
theorem maxL_some : ∀ {l : List Int}, l ≠ [] → ∃ m, maxL l = some m
  | [], h => (h rfl).elim
  | [a], _ => ⟨a, rfl⟩
  | a :: b :: l, _ => by
    obtain ⟨m, e⟩ := maxL_some (l := b :: l) (by simp)
    exact ⟨_, by show (maxL (b :: l)).map _ = _; rw [e]; rfl⟩
theorem wp_owA2 {i : Nat} {l : List D} {fa : M (List D)} {Q : D → Ev → Prop} {E : Str → List D → Ev → Prop} {ρ : Ev} (h : ρ[i]? = some (.ls l)) (hf : wp fa (fun l' ρ' => ∃ d, l' = [d] ∧ ρ'[i]? = some (.ls l) ∧ l.length < sizeLine ∧ Q .non (ρ'.set i (.ls (l ++ [d])))) (fun _ _ _ => False) ρ) : wp (owM i apD fa) Q E ρ := by
  obtain ⟨_, ρ', e, d, rfl, h1, h2, h3⟩ := wp_ok hf
  exact wp_owA h e h1 h2 h3
def rdOrd1 (w : List Nat) : Option (Nat × Bool) := match w with
  | [s, c] => if (s = 43 ∨ s = 45) ∧ 48 ≤ c ∧ c ≤ 55 then some (c - 48, decide (s = 43)) else none
  | _ => none
def rdOrdGo : List (List Nat) → Nat → List (Nat × Bool) → Except Nat (List (Nat × Bool))
  | [], _, acc => .ok acc
  | w :: ws, k, acc => match rdOrd1 w with
    | none => .error k
    | some x => if x.1 ∈ acc.map (·.1) then .error k else rdOrdGo ws (k + 1) (acc ++ [x])
def rdOrd (a : List Nat) : Except Nat (List (Nat × Bool)) := match rdOrdGo (TL.spl [32] 0 [] a) 0 [] with
  | .error e => .error e
  | .ok l => if l.any (fun x => decide (l.length ≤ x.1)) = true then .error (TL.spl [32] 0 [] a).length else .ok l
def ordEnd (r : Except Nat (List (Nat × Bool))) (Q : Fl → Ev → Prop) (E : Str → List D → Ev → Prop) : Prop := match r with
  | .ok l => ∀ ρ', Q (.ro (l.map laneI)) ρ'
  | .error e => ∀ ρ', E "InvalidText" [.int (e : Int)] ρ'
theorem look_signs (s : Nat) : kvSigns.lookup (TS [s]) = if s = 43 then some (.bl true) else if s = 45 then some (.bl false) else none := by
  unfold kvSigns
  rw [str_plus, str_minus, List.lookup_cons, List.lookup_cons, SX.S_beq_eq, SX.S_beq_eq, List.lookup_nil]
  by_cases c1 : s = 43
  · subst c1
    simp
  · by_cases c2 : s = 45
    · subst c2
      simp
    · simp [c1, c2]
theorem wp_lenvA {i : Nat} {l : List D} {Q : D → Ev → Prop} {E : Str → List D → Ev → Prop} {ρ : Ev} (h : ρ[i]? = some (.va (.lst l))) : wp (lenv i) Q E ρ = Q (.int (l.length : Int)) ρ := by
  unfold wp lenv
  rw [show look i ρ = some (.lst l) by unfold look; rw [h]]
  rfl
theorem rdOrd1_ok {w : List Nat} {x : Nat × Bool} (h : rdOrd1 w = some x) : x.1 ≤ 7 := by
  unfold rdOrd1 at h
  split at h
  · split at h
    · cases h
      omega
    · cases h
  · cases h
theorem wp_cols {a : List (Nat × Bool)} {x0 x1 y3 y4 y5 y6 : Slot} {Q : D → Ev → Prop} {E : Str → List D → Ev → Prop} (hn : a.length ≤ sizeLine) (hQ : Q (.lst ((a.map fun x => (x.1 : Int)).map .int)) [x0, x1, .va (.lst (a.map laneI)), y3, y4, y5, y6, .un, .un]) :
    wp (ltM (lcM (iL (getv 2)) (gtup (gcons (setv 7) (gcons (setv 8) gnil))) (pure true) (getv 7) [7, 8])) Q E [x0, x1, .va (.lst (a.map laneI)), y3, y4, y5, y6, .un, .un] := by
  rw [wp_ltM, wp_lcM, wp_bind, wp_getv rfl, show asL (.lst (a.map laneI)) = some (a.map laneI) from rfl, wp_some]
  refine wp_lcmap (g := fun x => .int (x.1 : Int)) rfl hn (fun x hx => ?_) ?_
  · rw [show wipeE [x0, x1, .va (.lst (a.map laneI)), y3, y4, y5, y6, .un, .un] [7, 8] = [x0, x1, .va (.lst (a.map laneI)), y3, y4, y5, y6, .un, .un] from rfl]
    unfold laneI
    rw [wp_gtup, wp_gcons, wp_setv]
    refine ⟨by simp, ?_⟩
    simp only [List.set_cons_succ, List.set_cons_zero]
    rw [wp_gcons, wp_setv]
    refine ⟨by simp, ?_⟩
    simp only [List.set_cons_succ, List.set_cons_zero]
    rw [wp_gnil, wp_getv rfl]
    exact ⟨rfl, rfl⟩
  · rw [List.map_map] at hQ
    exact hQ
theorem rord_wp {a : List Nat} (hok : okc a) (hz : a.length + 4 ≤ sizeLine) {Q : Fl → Ev → Prop} {E : Str → List D → Ev → Prop} (hQ : ordEnd (rdOrd a) Q E) : wp dRord Q E [.va (.str (TS a)), .un, .un, .un, .un, .un, .un, .un, .un] := by
  have hw : ∀ w ∈ TL.spl [32] 0 [] a, okc w ∧ w.length + 2 ≤ sizeLine := fun w hm => by
    obtain ⟨h1, h2⟩ := spl_mem hm
    refine ⟨fun c hc => ?_, by simp at h2; omega⟩
    rcases h1 c hc with h | h
    · cases h
    · exact hok c h
  have hne := spl_ne (S := [32]) (a := a) (k := 0) (acc := [])
  unfold rdOrd at hQ
  unfold dRord
  rw [wp_seq, wp_par2, wp_vaM, wp_m1M, wp_getv rfl]
  simp only []
  rw [wp_pure, str_blank, splD_wp (by omega), wp_some, wp_lsM, wp_dsp, wp_pure]
  refine ⟨Nat.zero_le _, by simp, by simp, ?_⟩
  simp only [List.set_cons_succ, List.set_cons_zero]
  generalize TL.spl [32] 0 [] a = words at *
  rw [wp_seq, wp_forM, wp_bind, wp_cons, wp_getv rfl, wp_pure]
  rw [show enum1 [wsD words] = some (enumL (words.map fun w => .str (TS w))) from rfl, wp_some]
  generalize hres : rdOrdGo words 0 [] = res at hQ
  refine wp_for (I := fun l ρ => ∃ (vs : List (List Nat)) (k : Nat) (acc : List (Nat × Bool)) (y3 y4 y5 y6 : Slot), l = (vs.zipIdx k).map (fun p => .tup [.int (p.2 : Int), .str (TS p.1)]) ∧
    rdOrdGo vs k acc = res ∧ (∀ v ∈ vs, okc v ∧ v.length + 2 ≤ sizeLine) ∧ acc.length = k ∧ (acc.map (·.1)).Nodup ∧ (∀ x ∈ acc, x.1 ≤ 7) ∧ (vs = words ∨ acc ≠ []) ∧ ρ = [.va (.str (TS a)), .va (wsD words), .ls (acc.map laneI), y3, y4, y5, y6, .un, .un]) ?_ ?_ ?_
  · refine ⟨words, 0, [], .un, .un, .un, .un, ?_, hres, hw, rfl, List.nodup_nil, (fun x hx => nomatch hx), .inl rfl, rfl⟩
    unfold enumL
    rw [List.zipIdx_map, List.map_map]
    rfl
  · rintro ρ ⟨vs, k, acc, y3, y4, y5, y6, hl, hr, hv, hk, hnd, h7, hnn, rfl⟩
    have : vs = [] := by
      cases vs with
      | nil => rfl
      | cons v vs => simp at hl
    subst this
    have ha : acc ≠ [] := hnn.resolve_left fun z => hne z.symm
    have hle : acc.length ≤ 8 := by
      have := nodup_le 8 hnd fun x hx => by
        obtain ⟨y, hy, rfl⟩ := List.mem_map.mp hx
        have := h7 y hy
        omega
      rw [List.length_map] at this
      exact this
    simp only []
    have e1 : res = .ok acc := hr.symm
    rw [e1] at hQ
    simp only [] at hQ
    obtain ⟨m, hm⟩ : ∃ m, maxL (acc.map fun x => (x.1 : Int)) = some m := maxL_some fun z => ha (List.map_eq_nil_iff.mp z)
    obtain ⟨m1, m2⟩ := maxL_ok hm
    have hdec : decide ((acc.length : Int) ≤ m) = acc.any (fun x => decide (acc.length ≤ x.1)) := by
      rw [Bool.eq_iff_iff, decide_eq_true_eq, List.any_eq_true]
      constructor
      · intro h
        obtain ⟨x, hx, e⟩ := List.mem_map.mp m1
        exact ⟨x, hx, decide_eq_true (by omega)⟩
      · rintro ⟨x, hx, e⟩
        have := m2 (x.1 : Int) (List.mem_map.mpr ⟨x, hx, rfl⟩)
        have := of_decide_eq_true e
        omega
    rw [wp_seq, wp_iteM, wp_tst]
    refine wp_peek ?_
    rw [show frz [.va (.str (TS a)), .va (wsD words), .ls (acc.map laneI), y3, y4, y5, y6, .un, .un] = [frz1 (.va (.str (TS a))), frz1 (.va (wsD words)), .va (.lst (acc.map laneI)), frz1 y3, frz1 y4, frz1 y5, frz1 y6, .un, .un] from rfl]
    rw [wp_op2, wp_callM, wp_cons]
    refine wp_cols (by unfold sizeLine; omega) ?_
    rw [wp_pure, show one maxD [.lst ((acc.map fun x => (x.1 : Int)).map .int)] = some (.int m) by show (asInts _).bind _ = _; rw [asInts_map, Option.bind_some, hm]; rfl, wp_some, wp_lenvA rfl, show geD (.int m) (.int ((acc.map laneI).length : Int)) = some (.bl (decide (((acc.map laneI).length : Int) ≤ m))) from rfl, wp_some, List.length_map, hdec]
    refine ⟨rfl, ?_⟩
    cases hany : acc.any (fun x => decide (acc.length ≤ x.1)) with
    | true =>
      rw [hany, if_pos rfl] at hQ
      simp only [if_true]
      rw [wp_mkM, wp_callM, wp_cons, wp_getv rfl, wp_pure, show one lenD [wsD words] = some (.int (words.length : Int)) by show some (D.int ((words.map _).length : Int)) = _; rw [List.length_map], wp_some]
      exact hQ _
    | false =>
      rw [hany, if_neg Bool.false_ne_true] at hQ
      simp only [Bool.false_eq_true, if_false]
      rw [wp_pure]
      simp only []
      rw [wp_rovL rfl]
      exact hQ _
  · rintro d l ρ ⟨vs, k, acc, y3, y4, y5, y6, hl, hr, hv, hk, hnd, h7, hnn, rfl⟩
    cases vs with
    | nil => simp at hl
    | cons v vs =>
      rw [List.zipIdx_cons, List.map_cons, List.cons.injEq] at hl
      obtain ⟨rfl, rfl⟩ := hl
      obtain ⟨ov, zv⟩ := hv v (List.mem_cons_self ..)
      have hle : acc.length ≤ 8 := by
        have := nodup_le 8 hnd fun x hx => by
          obtain ⟨y, hy, rfl⟩ := List.mem_map.mp hx
          have := h7 y hy
          omega
        rw [List.length_map] at this
        exact this
      unfold rdOrdGo at hr
      have bad : rdOrd1 v = none → ∀ {Q' : Fl → Ev → Prop} {y5 y6 : Slot}, wp (mkM "InvalidText" (getv 3)) Q' E [.va (.str (TS a)), .va (wsD words), .ls (acc.map laneI), .va (.int (k : Int)), .va (.str (TS v)), y5, y6, .un, .un] := fun hn {Q' y5 y6} => by
        rw [hn] at hr
        rw [wp_mkM, wp_getv rfl]
        rw [← hr] at hQ
        exact hQ _
      rw [wp_gtup, wp_gcons, wp_setv]
      refine ⟨by simp, ?_⟩
      simp only [List.set_cons_succ, List.set_cons_zero]
      rw [wp_gcons, wp_setv]
      refine ⟨by simp, ?_⟩
      simp only [List.set_cons_succ, List.set_cons_zero]
      rw [wp_gnil, wp_seq, wp_par2, wp_vaM, wp_slice, wp_getv rfl, wp_pure, wp_part, wp_pure]
      simp only []
      rw [slD_S (by omega), wp_some, wp_vaM, wp_slice, wp_getv rfl, wp_part, wp_pure]
      simp only []
      rw [wp_pure, slD_S (by omega), wp_some, show cut v none (some 1) = v.take 1 from cut_to v 1, show cut v (some 1) none = v.drop 1 from cut_from v 1]
      refine ⟨by simp, by simp, ?_⟩
      simp only [List.set_cons_succ, List.set_cons_zero]
      rw [wp_seq, wp_iteM, wp_orM, wp_tst, wp_op2, wp_callM, wp_cons, wp_getv rfl, wp_pure, show one lenD [.str (TS v)] = some (.int v.length) from lenD_S (by omega), wp_some, wp_pure, neD_int, wp_some]
      by_cases c1 : (v.length : Int) = 2
      case neg =>
        simp only [c1, ne_eq, not_false_eq_true, decide_true, if_true]
        refine bad ?_
        unfold rdOrd1
        split
        · exact absurd rfl c1
        · rfl
      obtain ⟨s, c, rfl⟩ : ∃ s c, v = [s, c] := by
        match v, c1 with
        | [s, c], _ => exact ⟨s, c, rfl⟩
        | [], h => simp at h
        | [_], h => simp at h
        | _ :: _ :: _ :: _, h => simp at h; omega
      simp only [c1, ne_eq, not_true_eq_false, decide_false, Bool.false_eq_true, if_false]
      rw [wp_orM, wp_tst, wp_din, wp_getv rfl]
      rw [show ([s, c] : List Nat).take 1 = [s] from rfl, show ([s, c] : List Nat).drop 1 = [c] from rfl]
      simp only []
      rw [look_signs]
      by_cases c2 : s = 43 ∨ s = 45
      case neg =>
        rw [if_neg fun h => c2 (.inl h), if_neg fun h => c2 (.inr h)]
        simp only [Option.isSome_none, Bool.true_bne, Bool.not_false, if_true]
        refine bad ?_
        unfold rdOrd1
        exact if_neg fun h => c2 h.1
      have hsome : (if s = 43 then some (D.bl true) else if s = 45 then some (.bl false) else none) = some (.bl (decide (s = 43))) := by
        rcases c2 with rfl | rfl <;> rfl
      rw [hsome]
      simp only [Option.isSome_some, bne_self_eq_false, Bool.false_eq_true, if_false]
      rw [wp_tst, wp_op2, wp_getv rfl, wp_pure, str_cols, show notInD (.str (TS [c])) (.str (TS [48, 49, 50, 51, 52, 53, 54, 55])) = some (.bl (!decide (c ∈ [48, 49, 50, 51, 52, 53, 54, 55]))) by unfold notInD; rw [inD_one], wp_some]
      have hmem : c ∈ [48, 49, 50, 51, 52, 53, 54, 55] ↔ 48 ≤ c ∧ c ≤ 55 := by
        simp only [List.mem_cons, List.not_mem_nil, or_false]
        omega
      by_cases c3 : c ∈ [48, 49, 50, 51, 52, 53, 54, 55]
      case neg =>
        simp only [c3, decide_false, Bool.not_false, if_true]
        refine bad ?_
        unfold rdOrd1
        exact if_neg fun h => c3 (hmem.mpr h.2)
      simp only [c3, decide_true, Bool.not_true, Bool.false_eq_true, if_false]
      rw [wp_pure]
      simp only []
      obtain ⟨d1, d2⟩ := hmem.mp c3
      have hx : rdOrd1 [s, c] = some (c - 48, decide (s = 43)) := if_pos ⟨c2, d1, d2⟩
      rw [hx] at hr
      simp only [] at hr
      rw [wp_seq, wp_iteM, wp_tst]
      refine wp_peek ?_
      rw [show frz [.va (.str (TS a)), .va (wsD words), .ls (acc.map laneI), .va (.int (k : Int)), .va (.str (TS [s, c])), .va (.str (TS [s])), .va (.str (TS [c])), .un, .un] = [.va (.str (TS a)), .va (wsD words), .va (.lst (acc.map laneI)), .va (.int (k : Int)), .va (.str (TS [s, c])), .va (.str (TS [s])), .va (.str (TS [c])), .un, .un] from rfl]
      rw [wp_op2, wp_callM, wp_cons, wp_getv rfl, wp_pure, one_col d1 d2, wp_some]
      refine wp_cols (by unfold sizeLine; omega) ?_
      rw [inD_ints, wp_some]
      refine ⟨rfl, ?_⟩
      have hin : decide (((c - 48 : Nat) : Int) ∈ acc.map fun x => (x.1 : Int)) = decide (c - 48 ∈ acc.map (·.1)) := by
        congr 1
        rw [eq_iff_iff, List.mem_map, List.mem_map]
        constructor
        · rintro ⟨x, h1, h2⟩
          exact ⟨x, h1, by omega⟩
        · rintro ⟨x, h1, h2⟩
          exact ⟨x, h1, by omega⟩
      rw [hin]
      by_cases c4 : c - 48 ∈ acc.map (·.1)
      · rw [if_pos c4] at hr
        simp only [c4, decide_true, if_true]
        rw [wp_mkM, wp_getv rfl]
        rw [← hr] at hQ
        exact hQ _
      · rw [if_neg c4] at hr
        simp only [c4, decide_false, Bool.false_eq_true, if_false]
        rw [wp_pure]
        simp only []
        rw [wp_dropM]
        refine wp_owA2 (l := acc.map laneI) rfl ?_
        rw [wp_cons, wp_tupM, wp_cons, wp_callM, wp_cons, wp_getv rfl, wp_pure, one_col d1 d2, wp_some, wp_cons, wp_dit, wp_getv rfl]
        simp only []
        rw [look_signs, hsome, wp_some, wp_pure]
        refine ⟨by show (2 : Nat) ≤ _; unfold sizeLine; decide, ?_⟩
        rw [wp_pure]
        refine ⟨laneI (c - 48, decide (s = 43)), rfl, rfl, by rw [List.length_map]; unfold sizeLine; omega, ?_⟩
        simp only [List.set_cons_succ, List.set_cons_zero]
        refine ⟨vs, k + 1, acc ++ [(c - 48, decide (s = 43))], .va (.int k), .va (.str (TS [s, c])), .va (.str (TS [s])), .va (.str (TS [c])), rfl, hr, fun x hx => hv x (List.mem_cons_of_mem _ hx), by simp [hk], ?_, ?_, .inr (by simp), ?_⟩
        · rw [List.map_append, List.nodup_append]
          refine ⟨hnd, by simp, ?_⟩
          intro x hx y hy
          simp at hy
          subst hy
          intro z
          exact c4 (z ▸ hx)
        · intro x hx
          rcases List.mem_append.mp hx with hx | hx
          · exact h7 x hx
          · simp at hx
            subst hx
            show c - 48 ≤ 7
            omega
        · rw [List.map_append]
          rfl
end Pd

set_option maxHeartbeats 4000000
namespace Pd
open PySem PySem.Spec PyProof.Rows L2
/-! ### conditions as texts -/
def inW (c : Nat) (sp : List (Nat × Nat)) : List Nat := TL.numL c ++ (58 :: lineL sp)
def rWords : Rule → List (List Nat)
  | .inn c sp => [inW c sp]
  | .nt r => wNot :: rWords r
  | .an l r => wAnd :: (rWords l ++ rWords r)
  | .orr l r => wOr :: (rWords l ++ rWords r)
def ruleL (r : Rule) : List Nat := TL.joinL [32] (rWords r)
def goodR : Rule → Prop
  | .inn c sp => c ≤ 7 ∧ goodS none sp ∧ sp.length ≤ 12
  | .nt r => goodR r
  | .an l r => goodR l ∧ goodR r
  | .orr l r => goodR l ∧ goodR r
def depR : Rule → Nat
  | .inn _ _ => 1
  | .nt r => depR r + 1
  | .an l r => max (depR l) (depR r) + 1
  | .orr l r => max (depR l) (depR r) + 1
def setsR : Rule → Nat
  | .inn _ _ => 1
  | .nt r => setsR r
  | .an l r => setsR l + setsR r
  | .orr l r => setsR l + setsR r
def nodR (r : Rule) : Nat := (rWords r).length
theorem rWords_ne (r : Rule) : rWords r ≠ [] := by cases r <;> simp [rWords]
theorem line_no32 (sp : List (Nat × Nat)) : 32 ∉ lineL sp := by
  intro h
  unfold lineL at h
  split at h
  · simp at h
  · have : ∀ ps : List (List Nat), (∀ p ∈ ps, 32 ∉ p) → 32 ∉ TL.joinL [44] ps := by
      intro ps
      induction ps with
      | nil => intro _ h; cases h
      | cons p ps ih =>
        intro hp hm
        cases ps with
        | nil => exact hp p (List.mem_cons_self ..) hm
        | cons q r =>
          have hm : 32 ∈ p ++ ([44] ++ TL.joinL [44] (q :: r)) := hm
          rcases List.mem_append.mp hm with h | h
          · exact hp p (List.mem_cons_self ..) h
          · rcases List.mem_append.mp h with h | h
            · simp at h
            · exact ih (fun x hx => hp x (List.mem_cons_of_mem _ hx)) h
    refine this _ (fun p hp => ?_) h
    obtain ⟨s, _, rfl⟩ := List.mem_map.mp hp
    exact word_no (by omega)
theorem inW_no (c : Nat) (sp : List (Nat × Nat)) : 32 ∉ inW c sp := by
  unfold inW
  intro h
  rcases List.mem_append.mp h with h | h
  · exact num_no c (by omega) h
  · rcases List.mem_cons.mp h with h | h
    · cases h
    · exact line_no32 sp h
theorem rWords_no : ∀ (r : Rule), ∀ w ∈ rWords r, 32 ∉ w
  | .inn c sp, w, h => by
    rw [List.mem_singleton.mp h]
    exact inW_no c sp
  | .nt r, w, h => by
    rcases List.mem_cons.mp h with rfl | h
    · decide
    · exact rWords_no r w h
  | .an l r, w, h => by
    rcases List.mem_cons.mp h with rfl | h
    · decide
    · rcases List.mem_append.mp h with h | h
      · exact rWords_no l w h
      · exact rWords_no r w h
  | .orr l r, w, h => by
    rcases List.mem_cons.mp h with rfl | h
    · decide
    · rcases List.mem_append.mp h with h | h
      · exact rWords_no l w h
      · exact rWords_no r w h
theorem spl_rule (r : Rule) : TL.spl [32] 0 [] (ruleL r) = rWords r := TL.spl_join (rWords_ne r) (rWords_no r)
theorem inW_7 {c : Nat} (h : c ≤ 7) (sp : List (Nat × Nat)) : inW c sp = (48 + c) :: 58 :: lineL sp := by
  unfold inW
  rw [TL.numL_lt (by omega)]
  rfl
theorem rdSim_in {c : Nat} {sp : List (Nat × Nat)} {k : Nat} (hc : c ≤ 7) (hg : goodS none sp) (hl : sp.length ≤ 12) : rdSim (inW c sp) k = if k + 1 ≤ 12 then some (c, sp) else none := by
  rw [inW_7 hc]
  unfold rdSim
  have : TL.par [58] [] ((48 + c) :: 58 :: lineL sp) = some ([48 + c], lineL sp) := by
    have := SX.par_head (c := 58) (sep := []) (p := [48 + c]) (lineL sp) (by simp; omega)
    exact this
  rw [this]
  simp only []
  rw [rdSet_line hg hl]
  simp only []
  by_cases h : k + 1 ≤ 12
  · rw [if_pos ⟨by omega, by omega, h⟩, if_pos h]
    congr 2
    omega
  · rw [if_neg fun z => h z.2.2, if_neg h]
theorem inW_kw {c : Nat} (h : c ≤ 7) (sp : List (Nat × Nat)) : inW c sp ≠ wNot ∧ ¬ (inW c sp = wAnd ∨ inW c sp = wOr) := by
  rw [inW_7 h]
  refine ⟨fun z => ?_, ?_⟩
  · have := (List.cons.inj z).1
    omega
  · rintro (z | z)
    · have := (List.cons.inj z).1
      omega
    · have := (List.cons.inj z).1
      omega
theorem drop_at {α : Type} {ws a b : List α} {pl : Nat} {x : α} (h : ws.drop pl = x :: a) : ws[pl]? = some x ∧ ws.drop (pl + 1) = a := by
  have h1 : ws[pl]? = some x := by
    have := congrArg (fun l => l[0]?) h
    simp only [List.getElem?_drop, Nat.add_zero, List.getElem?_cons_zero] at this
    exact this
  refine ⟨h1, ?_⟩
  rw [← List.drop_drop, h]
  rfl
theorem drop_on {α : Type} {ws a b : List α} {pl : Nat} (h : ws.drop pl = a ++ b) : ws.drop (pl + a.length) = b := by
  rw [← List.drop_drop, h, List.drop_left]
theorem rdPart_rule : ∀ {r : Rule} {n : Nat} {ws post : List (List Nat)} {pl k lv : Nat}, goodR r → depR r + lv ≤ 21 → depR r ≤ n → k + setsR r ≤ 12 → ws.drop pl = rWords r ++ post → rdPart n ws pl k lv = .ok (r, pl + nodR r, k + setsR r)
  | .inn c sp, n, ws, post, pl, k, lv, hg, hd, hn, hk, hw => by
    cases n with
    | zero => simp [depR] at hn
    | succ n =>
      obtain ⟨h1, h2⟩ := drop_at (a := post) (b := post) (show ws.drop pl = inW c sp :: post from hw)
      obtain ⟨g1, g2, g3⟩ := hg
      obtain ⟨k1, k2⟩ := inW_kw g1 sp
      simp only [depR, setsR] at hd hk
      unfold rdPart
      rw [h1]
      simp only []
      rw [if_neg (by omega), if_neg k1, if_neg k2, rdSim_in g1 g2 g3, if_pos (by omega)]
      rfl
  | .nt r, n, ws, post, pl, k, lv, hg, hd, hn, hk, hw => by
    cases n with
    | zero => simp [depR] at hn
    | succ n =>
      obtain ⟨h1, h2⟩ := drop_at (a := rWords r ++ post) (b := post) (show ws.drop pl = wNot :: (rWords r ++ post) from hw)
      simp only [depR, setsR] at hd hk hn
      unfold rdPart
      rw [h1]
      simp only []
      rw [if_neg (by omega), if_pos trivial, rdPart_rule (r := r) hg (by omega) (by omega) hk h2]
      simp only [nodR, rWords, List.length_cons, setsR]
      congr 3
      omega
  | .an l r, n, ws, post, pl, k, lv, hg, hd, hn, hk, hw => by
    cases n with
    | zero => simp [depR] at hn
    | succ n =>
      have hw : ws.drop pl = wAnd :: (rWords l ++ (rWords r ++ post)) := by rw [hw]; simp [rWords]
      obtain ⟨h1, h2⟩ := drop_at (b := post) hw
      simp only [depR, setsR] at hd hk hn
      have e2 : ws.drop (pl + 1 + nodR l) = rWords r ++ post := drop_on h2
      unfold rdPart
      rw [h1]
      simp only []
      rw [if_neg (by omega), if_neg (by decide), if_pos (.inl trivial), rdPart_rule (r := l) hg.1 (by omega) (by omega) (by omega) h2]
      simp only []
      rw [rdPart_rule (r := r) (post := post) hg.2 (by omega) (by omega) (by omega) e2]
      simp only [nodR, rWords, List.length_cons, List.length_append, setsR, if_true]
      congr 3
      · omega
      · omega
  | .orr l r, n, ws, post, pl, k, lv, hg, hd, hn, hk, hw => by
    cases n with
    | zero => simp [depR] at hn
    | succ n =>
      have hw : ws.drop pl = wOr :: (rWords l ++ (rWords r ++ post)) := by rw [hw]; simp [rWords]
      obtain ⟨h1, h2⟩ := drop_at (b := post) hw
      simp only [depR, setsR] at hd hk hn
      have e2 : ws.drop (pl + 1 + nodR l) = rWords r ++ post := drop_on h2
      unfold rdPart
      rw [h1]
      simp only []
      rw [if_neg (by omega), if_neg (by decide), if_pos (.inr trivial), rdPart_rule (r := l) hg.1 (by omega) (by omega) (by omega) h2]
      simp only []
      rw [rdPart_rule (r := r) (post := post) hg.2 (by omega) (by omega) (by omega) e2]
      simp only [nodR, rWords, List.length_cons, List.length_append, setsR]
      rw [if_neg (by decide)]
      congr 3
      · omega
      · omega
theorem rdCond_rule {r : Rule} (hg : goodR r) (hd : depR r ≤ 20) (hk : setsR r ≤ 12) : rdCond (ruleL r) = .ok r := by
  unfold rdCond
  rw [spl_rule, rdPart_rule (post := []) hg (by omega) (by omega) (by omega) (by simp)]
  simp only []
  rw [if_neg (by unfold nodR; omega)]
theorem inW_okc (c : Nat) (sp : List (Nat × Nat)) : okc (inW c sp) := okc_app.mpr ⟨num_okc c, fun x hx => by
  rcases List.mem_cons.mp hx with rfl | hx
  · decide
  · exact line_okc sp x hx⟩
theorem okW {w : List Nat} (h : w = wNot ∨ w = wAnd ∨ w = wOr) : okc w ∧ w.length ≤ 800 := by
  rcases h with rfl | rfl | rfl <;> refine ⟨fun c hc => ?_, by decide⟩ <;> simp [wNot, wAnd, wOr] at hc <;> omega
theorem rWords_ok : ∀ {r : Rule}, goodR r → ∀ w ∈ rWords r, okc w ∧ w.length ≤ 800
  | .inn c sp, hg, w, h => by
    rw [List.mem_singleton.mp h]
    refine ⟨inW_okc c sp, ?_⟩
    rw [inW_7 hg.1]
    have := line_len hg.2.1.small
    have := hg.2.2
    simp only [List.length_cons]
    omega
  | .nt r, hg, w, h => by
    rcases List.mem_cons.mp h with rfl | h
    · exact okW (.inl rfl)
    · exact rWords_ok (r := r) hg w h
  | .an l r, hg, w, h => by
    rcases List.mem_cons.mp h with rfl | h
    · exact okW (.inr (.inl rfl))
    · rcases List.mem_append.mp h with h | h
      · exact rWords_ok (r := l) hg.1 w h
      · exact rWords_ok (r := r) hg.2 w h
  | .orr l r, hg, w, h => by
    rcases List.mem_cons.mp h with rfl | h
    · exact okW (.inr (.inr rfl))
    · rcases List.mem_append.mp h with h | h
      · exact rWords_ok (r := l) hg.1 w h
      · exact rWords_ok (r := r) hg.2 w h
theorem ruleL_okc {r : Rule} (hg : goodR r) : okc (ruleL r) := joinL_okc ok32 fun p hp => (rWords_ok hg p hp).1
theorem ruleL_len {r : Rule} (hg : goodR r) : (ruleL r).length ≤ 801 * nodR r := joinL_len (S := [32]) (m := 801) fun p hp => by
  have := (rWords_ok hg p hp).2
  simp only [List.length_cons, List.length_nil]
  omega
theorem joinL_app {S : List Nat} : ∀ {a b : List (List Nat)}, a ≠ [] → b ≠ [] → TL.joinL S (a ++ b) = TL.joinL S a ++ (S ++ TL.joinL S b)
  | [], _, h, _ => absurd rfl h
  | [p], [], _, h => absurd rfl h
  | [p], q :: r, _, _ => rfl
  | p :: q :: r, b, _, hb => by
    show p ++ (S ++ TL.joinL S ((q :: r) ++ b)) = _
    rw [joinL_app (by simp) hb]
    show _ = p ++ (S ++ TL.joinL S (q :: r)) ++ _
    simp [List.append_assoc]
theorem join_nt (r : Rule) : TL.joinL [32] [wNot, ruleL r] = ruleL (.nt r) := by
  unfold ruleL
  rw [show rWords (.nt r) = [wNot] ++ rWords r from rfl, joinL_app (by simp) (rWords_ne r)]
  rfl
theorem join_two (w : List Nat) (l r : Rule) : TL.joinL [32] [w, ruleL l, ruleL r] = TL.joinL [32] (w :: (rWords l ++ rWords r)) := by
  unfold ruleL
  rw [show w :: (rWords l ++ rWords r) = [w] ++ (rWords l ++ rWords r) from rfl, joinL_app (by simp) (by simp [rWords_ne]), joinL_app (rWords_ne l) (rWords_ne r)]
  rfl
/-! ### what repr shows -/
theorem tup_sum : ∀ (ls : List (List Nat)), (TL.joinL [44, 32] ls).length ≤ (ls.map fun l => l.length + 2).sum
  | [] => Nat.zero_le _
  | [p] => by simp [TL.joinL]
  | p :: q :: r => by
    have := tup_sum (q :: r)
    show (p ++ ([44, 32] ++ TL.joinL [44, 32] (q :: r))).length ≤ _
    rw [List.length_append, List.length_append]
    simp only [List.map_cons, List.sum_cons, List.length_cons, List.length_nil] at this ⊢
    omega
theorem tupG_sum (ls : List (List Nat)) : (tupG ls).length ≤ 3 + (ls.map fun l => l.length + 2).sum := by
  have := tup_sum ls
  unfold tupG
  rw [List.length_append, List.length_append]
  split <;> simp only [List.length_cons, List.length_nil] <;> omega
theorem Shw.word {x : Str} {l : List Nat} {k : Nat} (h1 : (PyData.str x).showable = true) (h2 : PyData.shown (.str x) = TS l) (h3 : okc l) : Shw (.str x) k l := ⟨⟨.str x, rfl, h1, rfl, Nat.zero_le _, h2⟩, h3⟩
theorem Shw.mono {d : D} {k k' : Nat} {l : List Nat} (h : Shw d k l) (hk : k ≤ k') : Shw d k' l := by
  obtain ⟨⟨p, a1, a2, a3, a4, a5⟩, a6⟩ := h
  exact ⟨⟨p, a1, a2, a3, by omega, a5⟩, a6⟩
theorem shw_in {k : Nat} : Shw (.str "in") k [39, 105, 110, 39] := .word (by decide +kernel) (by decide +kernel) (by intro c hc; simp at hc; omega)
theorem shw_not {k : Nat} : Shw (.str "not") k [39, 110, 111, 116, 39] := .word (by decide +kernel) (by decide +kernel) (by intro c hc; simp at hc; omega)
theorem shw_and {k : Nat} : Shw (.str "and") k [39, 97, 110, 100, 39] := .word (by decide +kernel) (by decide +kernel) (by intro c hc; simp at hc; omega)
theorem shw_or {k : Nat} : Shw (.str "or") k [39, 111, 114, 39] := .word (by decide +kernel) (by decide +kernel) (by intro c hc; simp at hc; omega)
theorem shw_set {sp : List (Nat × Nat)} (h : goodS none sp) (hl : sp.length ≤ 12) : ∃ l, Shw (.lst (sp.map spanD)) 2 l ∧ l.length ≤ 900 := by
  refine ⟨_, Shw.lst (shw_spans h.small), ?_⟩
  have := listL_len (m := 69) (ls := sp.map spanL) fun l hl => by
    obtain ⟨s, hs, rfl⟩ := List.mem_map.mp hl
    obtain ⟨a1, a2⟩ := h.small s hs
    have h1 := num_len (show s.1 < 10 ^ 30 by omega)
    have h2 := num_len a2
    have := tupG_sum [TL.numL s.1, TL.numL s.2]
    simp only [List.map_cons, List.map_nil, List.sum_cons, List.sum_nil] at this
    show (tupG _).length ≤ 69
    omega
  rw [List.length_map] at this
  omega
theorem shw_rule : ∀ {r : Rule}, goodR r → ∃ l, Shw (ruleD r) (depR r + 2) l ∧ l.length ≤ 1000 * nodR r
  | .inn c sp, hg => by
    obtain ⟨l, h1, h2⟩ := shw_set hg.2.1 hg.2.2
    refine ⟨_, Shw.tup (k := 2) (.cons shw_in (.cons (.int (show c < 10 ^ 30 by have := hg.1; omega)) (.cons h1 .nil))), ?_⟩
    have := tupG_sum [[39, 105, 110, 39], TL.numL c, l]
    have h3 := num_len (show c < 10 ^ 30 by have := hg.1; omega)
    simp only [List.map_cons, List.map_nil, List.sum_cons, List.sum_nil, List.length_cons, List.length_nil] at this
    show _ ≤ 1000 * 1
    omega
  | .nt r, hg => by
    obtain ⟨l, h1, h2⟩ := shw_rule (r := r) hg
    refine ⟨_, Shw.tup (k := depR r + 2) (.cons shw_not (.cons h1 .nil)), ?_⟩
    have := tupG_sum [[39, 110, 111, 116, 39], l]
    simp only [List.map_cons, List.map_nil, List.sum_cons, List.sum_nil, List.length_cons, List.length_nil] at this
    show _ ≤ 1000 * ((rWords r).length + 1)
    unfold nodR at h2
    omega
  | .an l r, hg => by
    obtain ⟨a, h1, h2⟩ := shw_rule (r := l) hg.1
    obtain ⟨b, h3, h4⟩ := shw_rule (r := r) hg.2
    refine ⟨_, (Shw.tup (k := max (depR l) (depR r) + 2) (.cons shw_and (.cons (h1.mono (by omega)) (.cons (h3.mono (by omega)) .nil)))), ?_⟩
    have := tupG_sum [[39, 97, 110, 100, 39], a, b]
    simp only [List.map_cons, List.map_nil, List.sum_cons, List.sum_nil, List.length_cons, List.length_nil] at this
    show _ ≤ 1000 * ((rWords l ++ rWords r).length + 1)
    unfold nodR at h2 h4
    rw [List.length_append]
    omega
  | .orr l r, hg => by
    obtain ⟨a, h1, h2⟩ := shw_rule (r := l) hg.1
    obtain ⟨b, h3, h4⟩ := shw_rule (r := r) hg.2
    refine ⟨_, (Shw.tup (k := max (depR l) (depR r) + 2) (.cons shw_or (.cons (h1.mono (by omega)) (.cons (h3.mono (by omega)) .nil)))), ?_⟩
    have := tupG_sum [[39, 111, 114, 39], a, b]
    simp only [List.map_cons, List.map_nil, List.sum_cons, List.sum_nil, List.length_cons, List.length_nil] at this
    show _ ≤ 1000 * ((rWords l ++ rWords r).length + 1)
    unfold nodR at h2 h4
    rw [List.length_append]
    omega
end Pd

set_option maxHeartbeats 4000000
namespace Pd
open PySem PySem.Spec PyProof.Rows L2
noncomputable def dRline : Nat → M Fl
  | 0 => no
  | n + 1 => (seqM (iteM (tst (op2 eqD (op2 ixD (getv 0) (pure (.int 0))) (pure (.str "in")))) (retM (op2 addD (op2 addD (callM (one reprI) (consM (op2 ixD (getv 0) (pure (.int 1))) (pure []))) (pure (.str ":"))) (callG 5 1 dLine (consM (op2 ixD (getv 0) (pure (.int 2))) (pure []))))) (pure .nx)) (retM (m1M joinD (pure (.str " ")) (op2 addD (lstM (consM (op2 ixD (getv 0) (pure (.int 0))) (pure []))) (ltM (lcM (iT (sliceM (getv 0) (partM (pure (.int 1))) (pure none))) (setv 1) (pure true) (callG 2 1 (dRline n) (consM (getv 1) (pure []))) [1]))))))
noncomputable def dWcond : Nat → M Fl
  | 0 => no
  | n + 1 => (seqM (iteM (tst (op2 eqD (op2 ixD (getv 0) (pure (.int 0))) (pure (.str "in")))) (retM (joinedM [(unD fmtD (op2 ixD (getv 0) (pure (.int 1)))), (pure (.str ":")), (unD fmtD (callG 4 1 dWset (consM (op2 ixD (getv 0) (pure (.int 2))) (pure []))))] Str.empty)) (pure .nx)) (retM (m1M joinD (pure (.str " ")) (lstM (consM (op2 ixD (getv 0) (pure (.int 0))) (starM (ltM (lcM (iT (sliceM (getv 0) (partM (pure (.int 1))) (pure none))) (setv 1) (pure true) (callG 2 1 (dWcond n) (consM (getv 1) (pure []))) [1])) (pure [])))))))
noncomputable def dParts : Nat → M Fl
  | 0 => no
  | n + 1 => (seqM (iteM (tst (op2 eqD (op2 ixD (getv 0) (pure (.int 0))) (pure (.str "in")))) (retoM (dspL (consM (getv 0) (pure [])))) (pure .nx)) (seqM (letM 1 (lsM (dspL (pure [])))) (seqM (forM (iT (sliceM (getv 0) (partM (pure (.int 1))) (pure none))) (setv 2) (letM 1 (lsM (catM (getv 1) (callG 3 1 (dParts n) (consM (getv 2) (pure []))))))) (rovM 1))))
def partsR : Rule → List D
  | .inn c sp => [condD c sp]
  | .nt r => partsR r
  | .an l r => partsR l ++ partsR r
  | .orr l r => partsR l ++ partsR r
structure Kids (r : Rule) (w : List Nat) (ks : List Rule) : Prop where
  d : ruleD r = .tup (.str (TS w) :: ks.map ruleD)
  l : ruleL r = TL.joinL [32] (w :: ks.map ruleL)
  g : goodR r → ∀ k ∈ ks, goodR k
  dp : ∀ k ∈ ks, depR k + 1 ≤ depR r
  kw : w = wNot ∨ w = wAnd ∨ w = wOr
  len : ks.length ≤ 2
  nod : (ks.map nodR).sum + 1 = nodR r
  sets : (ks.map setsR).sum = setsR r
  parts : (ks.map partsR).flatten = partsR r
theorem ix_t0 {d : D} {l : List D} : ixD (.tup (d :: l)) (.int 0) = some d := by
  show atI (d :: l) ((0 : Nat) : Int) = _
  unfold atI
  rw [ixN_of (by simp)]
  rfl
theorem rule_cases (r : Rule) : (∃ c sp, r = .inn c sp) ∨ ∃ w ks, Kids r w ks := by
  cases r with
  | inn c sp => exact .inl ⟨c, sp, rfl⟩
  | nt r =>
    refine .inr ⟨wNot, [r], ?_⟩
    exact ⟨by show D.tup [.str "not", _] = _; rw [str_not]; rfl, (join_nt r).symm, fun h k hk => by rw [List.mem_singleton.mp hk]; exact h, fun k hk => by rw [List.mem_singleton.mp hk]; exact Nat.le_refl _, .inl rfl, by simp, by simp [nodR, rWords], by simp [setsR], by simp [partsR]⟩
  | an l r =>
    refine .inr ⟨wAnd, [l, r], ?_⟩
    refine ⟨by show D.tup [.str "and", _, _] = _; rw [str_and]; rfl, (join_two wAnd l r).symm, fun h k hk => ?_, fun k hk => ?_, .inr (.inl rfl), by simp, by simp [nodR, rWords], by simp [setsR], by simp [partsR]⟩
    · simp at hk
      rcases hk with rfl | rfl
      · exact h.1
      · exact h.2
    · simp at hk
      simp only [depR]
      rcases hk with rfl | rfl <;> omega
  | orr l r =>
    refine .inr ⟨wOr, [l, r], ?_⟩
    refine ⟨by show D.tup [.str "or", _, _] = _; rw [str_or]; rfl, (join_two wOr l r).symm, fun h k hk => ?_, fun k hk => ?_, .inr (.inr rfl), by simp, by simp [nodR, rWords], by simp [setsR], by simp [partsR]⟩
    · simp at hk
      rcases hk with rfl | rfl
      · exact h.1
      · exact h.2
    · simp at hk
      simp only [depR]
      rcases hk with rfl | rfl <;> omega
theorem Kids.nodk {r : Rule} {w : List Nat} {ks : List Rule} (h : Kids r w ks) {k : Rule} (hk : k ∈ ks) : nodR k ≤ nodR r := by
  have := h.nod
  have h2 : ∀ l : List Rule, k ∈ l → nodR k ≤ (l.map nodR).sum := by
    intro l
    induction l with
    | nil => intro h; cases h
    | cons a l ih =>
      intro h
      rw [List.map_cons, List.sum_cons]
      rcases List.mem_cons.mp h with rfl | h
      · omega
      · have := ih h
        omega
  have := h2 ks hk
  omega
theorem okc_in : okc [105, 110] := by intro c hc; simp at hc; omega
theorem Kids.okw {r : Rule} {w : List Nat} {ks : List Rule} (h : Kids r w ks) : okc w ∧ w.length ≤ 3 ∧ w ≠ [105, 110] := by
  rcases h.kw with rfl | rfl | rfl <;> refine ⟨fun c hc => ?_, by decide, by decide⟩ <;> simp [wNot, wAnd, wOr] at hc <;> omega
theorem Kids.join {r : Rule} {w : List Nat} {ks : List Rule} (h : Kids r w ks) (hg : goodR r) (hn : nodR r ≤ 1000) : joinD (.str (TS [32])) (.lst (.str (TS w) :: ks.map fun k => .str (TS (ruleL k)))) = some (.str (TS (ruleL r))) := by
  have := joinD_S (s := [32]) (ws := w :: ks.map ruleL) (by decide) (by
    have h1 : ∀ l : List Rule, (∀ k ∈ l, goodR k) → ((l.map ruleL).map (·.length)).sum ≤ 801 * (l.map nodR).sum := by
      intro l
      induction l with
      | nil => intro _; exact Nat.le_refl _
      | cons a l ih =>
        intro hl
        have h2 := ih fun k hk => hl k (List.mem_cons_of_mem _ hk)
        have h3 := ruleL_len (hl a (List.mem_cons_self ..))
        simp only [List.map_cons, List.sum_cons, Nat.mul_add]
        omega
    have h2 := h1 ks (h.g hg)
    have h3 := h.nod
    have h4 := h.okw.2.1
    have h5 := h.len
    simp only [List.map_cons, List.sum_cons, List.length_cons, List.length_map, List.length_nil]
    unfold sizeLine
    omega)
  rw [← h.l] at this
  rw [List.map_cons, List.map_map] at this
  exact this
theorem one_lt : (1 : Nat) ≤ sizeLine := by unfold sizeLine; decide
theorem rline_wp : ∀ (n : Nat) {r : Rule}, goodR r → depR r ≤ n → nodR r ≤ 1000 → ∀ {Q : Fl → Ev → Prop} {E : Str → List D → Ev → Prop}, (∀ ρ', Q (.rt (.str (TS (ruleL r)))) ρ') → wp (dRline n) Q E [.va (ruleD r), .un]
  | 0, r, _, hd, _, _, _, _ => by cases r <;> simp [depR] at hd
  | n + 1, r, hg, hd, hn, Q, E, hQ => by
    unfold dRline
    rcases rule_cases r with ⟨c, sp, rfl⟩ | ⟨w, ks, hk⟩
    · have hc : c < 10 ^ 30 := by have := hg.1; omega
      have hl := line_len hg.2.1.small
      have h3 := num_len hc
      have h12 := hg.2.2
      rw [wp_seq, wp_iteM, wp_tst, wp_op2, wp_op2, wp_getv rfl, wp_pure, show ixD (ruleD (.inn c sp)) (.int 0) = some (.str "in") from rfl, wp_some, wp_pure, str_in, eqD_str okc_in okc_in, wp_some]
      simp only [decide_true, if_true]
      rw [wp_retM, wp_op2, wp_op2, wp_callM, wp_cons, wp_op2, wp_getv rfl, wp_pure, show ixD (ruleD (.inn c sp)) (.int 1) = some (.int c) from rfl, wp_some, wp_pure, reprI_num hc, wp_some, wp_pure, str_colon, addD_S (by simp only [List.length_cons, List.length_nil]; unfold sizeLine; omega), wp_some]
      rw [wp_callG, wp_cons, wp_op2, wp_getv rfl, wp_pure, show ixD (ruleD (.inn c sp)) (.int 2) = some (.lst (sp.map spanD)) from rfl, wp_some, wp_pure]
      refine wp_callF rfl (line_wp (x1 := .un) (x2 := .un) (x3 := .un) (x4 := .un) hg.2.1.small (by omega) fun ρ' => ⟨_, .inl rfl, ?_⟩)
      rw [addD_S (by simp only [List.length_append, List.length_cons, List.length_nil]; unfold sizeLine; omega), wp_some]
      have : TL.numL c ++ [58] ++ lineL sp = ruleL (.inn c sp) := by
        show _ = inW c sp
        unfold inW
        simp
      rw [this]
      exact hQ _
    · obtain ⟨o1, o2, o3⟩ := hk.okw
      rw [wp_seq, wp_iteM, wp_tst, wp_op2, wp_op2, wp_getv rfl, wp_pure, hk.d, ix_t0, wp_some, wp_pure, str_in, eqD_str o1 okc_in, wp_some, decide_eq_false o3]
      simp only [Bool.false_eq_true, if_false]
      rw [wp_pure]
      simp only []
      rw [wp_retM, wp_m1M, wp_pure]
      simp only []
      rw [wp_op2, wp_lstM, wp_cons, wp_op2, wp_getv rfl, wp_pure, ix_t0, wp_some, wp_pure]
      refine ⟨one_lt, ?_⟩
      rw [wp_ltM, wp_lcM, wp_bind, wp_slice, wp_getv rfl, wp_part, wp_pure]
      simp only []
      rw [wp_pure, show slD (.tup (.str (TS w) :: ks.map ruleD)) (some 1) none = some (.tup (cut (.str (TS w) :: ks.map ruleD) (some ((1 : Nat) : Int)) none)) from rfl, wp_some, cut_from, show (D.str (TS w) :: ks.map ruleD).drop 1 = ks.map ruleD from rfl, show asT (.tup (ks.map ruleD)) = some (ks.map ruleD) from rfl, wp_some]
      refine wp_lcmap (g := fun k => .str (TS (ruleL k))) rfl (by have := hk.len; have := one_lt; unfold sizeLine at *; omega) (fun k hkm => ?_) ?_
      · rw [show wipeE [.va (.tup (.str (TS w) :: ks.map ruleD)), .un] [1] = [.va (.tup (.str (TS w) :: ks.map ruleD)), .un] from rfl, wp_setv]
        refine ⟨by simp, ?_⟩
        simp only [List.set_cons_succ, List.set_cons_zero]
        rw [wp_callG, wp_cons, wp_getv rfl, wp_pure]
        refine wp_callF rfl (rline_wp n (hk.g hg k hkm) (by have := hk.dp k hkm; omega) (by have := hk.nodk hkm; omega) fun ρ' => ⟨_, .inl rfl, rfl, rfl⟩)
      · rw [show addD (.lst [.str (TS w)]) (.lst (ks.map fun k => .str (TS (ruleL k)))) = some (.lst (.str (TS w) :: ks.map fun k => .str (TS (ruleL k)))) by
          unfold addD
          simp only []
          rw [if_pos (by have := hk.len; simp only [List.length_cons, List.length_map, List.length_nil]; unfold sizeLine; omega)]
          rfl, wp_some, str_blank, hk.join hg hn, wp_some]
        exact hQ _
theorem wcond_wp : ∀ (n : Nat) {r : Rule}, goodR r → depR r ≤ n → nodR r ≤ 1000 → ∀ {Q : Fl → Ev → Prop} {E : Str → List D → Ev → Prop}, (∀ ρ', Q (.rt (.str (TS (ruleL r)))) ρ') → wp (dWcond n) Q E [.va (ruleD r), .un]
  | 0, r, _, hd, _, _, _, _ => by cases r <;> simp [depR] at hd
  | n + 1, r, hg, hd, hn, Q, E, hQ => by
    unfold dWcond
    rcases rule_cases r with ⟨c, sp, rfl⟩ | ⟨w, ks, hk⟩
    · have hc : c < 10 ^ 30 := by have := hg.1; omega
      have hl := line_len hg.2.1.small
      have h3 := num_len hc
      have h12 := hg.2.2
      rw [wp_seq, wp_iteM, wp_tst, wp_op2, wp_op2, wp_getv rfl, wp_pure, show ixD (ruleD (.inn c sp)) (.int 0) = some (.str "in") from rfl, wp_some, wp_pure, str_in, eqD_str okc_in okc_in, wp_some]
      simp only [decide_true, if_true]
      rw [wp_retM, wp_joined_cons, wp_unD, wp_op2, wp_getv rfl, wp_pure, show ixD (ruleD (.inn c sp)) (.int 1) = some (.int c) from rfl, wp_some, fmtD_num hc, wp_some]
      simp only [S_nil_cat]
      refine ⟨by rw [SX.S_len]; unfold sizeLine; omega, ?_⟩
      rw [wp_joined_cons, wp_pure, str_colon]
      simp only [SX.S_cat]
      refine ⟨by rw [SX.S_len, List.length_append]; simp only [List.length_cons, List.length_nil]; unfold sizeLine; omega, ?_⟩
      rw [wp_joined_cons, wp_unD, wp_callG, wp_cons, wp_op2, wp_getv rfl, wp_pure, show ixD (ruleD (.inn c sp)) (.int 2) = some (.lst (sp.map spanD)) from rfl, wp_some, wp_pure]
      refine wp_callF rfl (wset_wp (x1 := .un) (x2 := .un) (x3 := .un) hg.2.1.small (by omega) fun ρ' => ⟨_, .inl rfl, ?_⟩)
      rw [show fmtD (.str (TS (lineL sp))) = some (.str (TS (lineL sp))) from if_pos (by rw [SX.S_len]; unfold sizeLine; omega), wp_some]
      simp only [SX.S_cat]
      refine ⟨by rw [SX.S_len, List.length_append, List.length_append]; simp only [List.length_cons, List.length_nil]; unfold sizeLine; omega, ?_⟩
      unfold joinedM
      rw [wp_pure]
      have : TL.numL c ++ [58] ++ lineL sp = ruleL (.inn c sp) := by
        show _ = inW c sp
        unfold inW
        simp
      rw [this]
      exact hQ _
    · obtain ⟨o1, o2, o3⟩ := hk.okw
      rw [wp_seq, wp_iteM, wp_tst, wp_op2, wp_op2, wp_getv rfl, wp_pure, hk.d, ix_t0, wp_some, wp_pure, str_in, eqD_str o1 okc_in, wp_some, decide_eq_false o3]
      simp only [Bool.false_eq_true, if_false]
      rw [wp_pure]
      simp only []
      rw [wp_retM, wp_m1M, wp_pure]
      simp only []
      rw [wp_lstM, wp_cons, wp_op2, wp_getv rfl, wp_pure, ix_t0, wp_some, wp_star]
      rw [wp_ltM, wp_lcM, wp_bind, wp_slice, wp_getv rfl, wp_part, wp_pure]
      simp only []
      rw [wp_pure, show slD (.tup (.str (TS w) :: ks.map ruleD)) (some 1) none = some (.tup (cut (.str (TS w) :: ks.map ruleD) (some ((1 : Nat) : Int)) none)) from rfl, wp_some, cut_from, show (D.str (TS w) :: ks.map ruleD).drop 1 = ks.map ruleD from rfl, show asT (.tup (ks.map ruleD)) = some (ks.map ruleD) from rfl, wp_some]
      refine wp_lcmap (g := fun k => .str (TS (ruleL k))) rfl (by have := hk.len; have := one_lt; unfold sizeLine at *; omega) (fun k hkm => ?_) ?_
      · rw [show wipeE [.va (.tup (.str (TS w) :: ks.map ruleD)), .un] [1] = [.va (.tup (.str (TS w) :: ks.map ruleD)), .un] from rfl, wp_setv]
        refine ⟨by simp, ?_⟩
        simp only [List.set_cons_succ, List.set_cons_zero]
        rw [wp_callG, wp_cons, wp_getv rfl, wp_pure]
        refine wp_callF rfl (wcond_wp n (hk.g hg k hkm) (by have := hk.dp k hkm; omega) (by have := hk.nodk hkm; omega) fun ρ' => ⟨_, .inl rfl, rfl, rfl⟩)
      · rw [wp_pure]
        refine ⟨by have := hk.len; simp only [List.length_cons, List.length_append, List.length_map, List.length_nil]; unfold sizeLine; omega, ?_⟩
        rw [List.append_nil, str_blank, hk.join hg hn, wp_some]
        exact hQ _
theorem parts_len : ∀ r : Rule, (partsR r).length = setsR r
  | .inn c sp => rfl
  | .nt r => parts_len r
  | .an l r => by simp only [partsR, setsR, List.length_append, parts_len l, parts_len r]
  | .orr l r => by simp only [partsR, setsR, List.length_append, parts_len l, parts_len r]
theorem parts_part : ∀ {r : Rule}, goodR r → (partsR r).all isPart = true
  | .inn c sp, hg => by
    have := hg.2.2
    simp only [partsR, condD, List.all_cons, List.all_nil, Bool.and_true, isPart, List.length_map]
    exact decide_eq_true (by omega)
  | .nt r, hg => parts_part (r := r) hg
  | .an l r, hg => by simp only [partsR, List.all_append, parts_part (r := l) hg.1, parts_part (r := r) hg.2, Bool.and_self]
  | .orr l r, hg => by simp only [partsR, List.all_append, parts_part (r := l) hg.1, parts_part (r := r) hg.2, Bool.and_self]
theorem wp_cat {fa fb : M D} {Q : List D → Ev → Prop} {E : Str → List D → Ev → Prop} {ρ : Ev} : wp (catM fa fb) Q E ρ = wp fa (fun a => wp fb (fun b => wp (catGo a b) Q E) E) E ρ := by
  unfold catM
  rw [wp_bind]
  congr 1
  funext a ρ1
  rw [wp_bind]
theorem wp_catGo {l m : List D} {Q : List D → Ev → Prop} {E : Str → List D → Ev → Prop} {ρ : Ev} (h : l.length + m.length ≤ sizeLine) : wp (catGo (.lst l) (.lst m)) Q E ρ = Q (l ++ m) ρ := by
  show wp (if l.length + m.length ≤ sizeLine then pure (l ++ m) else no) Q E ρ = _
  rw [if_pos h, wp_pure]
theorem parts_wp : ∀ (n : Nat) {r : Rule}, goodR r → depR r ≤ n → setsR r ≤ 1000 → ∀ {Q : Fl → Ev → Prop} {E : Str → List D → Ev → Prop}, (∀ ρ', Q (.ro (partsR r)) ρ') → wp (dParts n) Q E [.va (ruleD r), .un, .un]
  | 0, r, _, hd, _, _, _, _ => by cases r <;> simp [depR] at hd
  | n + 1, r, hg, hd, hs, Q, E, hQ => by
    unfold dParts
    rcases rule_cases r with ⟨c, sp, rfl⟩ | ⟨w, ks, hk⟩
    · rw [wp_seq, wp_iteM, wp_tst, wp_op2, wp_op2, wp_getv rfl, wp_pure, show ixD (ruleD (.inn c sp)) (.int 0) = some (.str "in") from rfl, wp_some, wp_pure, str_in, eqD_str okc_in okc_in, wp_some]
      simp only [decide_true, if_true]
      rw [wp_retoM, wp_dsp, wp_cons, wp_getv rfl, wp_pure]
      exact ⟨one_lt, hQ _⟩
    · obtain ⟨o1, o2, o3⟩ := hk.okw
      rw [wp_seq, wp_iteM, wp_tst, wp_op2, wp_op2, wp_getv rfl, wp_pure, hk.d, ix_t0, wp_some, wp_pure, str_in, eqD_str o1 okc_in, wp_some, decide_eq_false o3]
      simp only [Bool.false_eq_true, if_false]
      rw [wp_pure]
      simp only []
      rw [wp_seq, wp_letM, wp_lsM, wp_dsp, wp_pure]
      refine ⟨Nat.zero_le _, by simp, ?_⟩
      simp only [List.set_cons_succ, List.set_cons_zero]
      rw [wp_seq, wp_forM, wp_bind, wp_slice, wp_getv rfl, wp_part, wp_pure]
      simp only []
      rw [wp_pure, show slD (.tup (.str (TS w) :: ks.map ruleD)) (some 1) none = some (.tup (cut (.str (TS w) :: ks.map ruleD) (some ((1 : Nat) : Int)) none)) from rfl, wp_some, cut_from, show (D.str (TS w) :: ks.map ruleD).drop 1 = ks.map ruleD from rfl, show asT (.tup (ks.map ruleD)) = some (ks.map ruleD) from rfl, wp_some]
      have hflat := hk.parts
      refine wp_for (I := fun l ρ => ∃ (p q : List Rule) (y : Slot), ks = p ++ q ∧ l = q.map ruleD ∧ ρ = [.va (.tup (.str (TS w) :: ks.map ruleD)), .ls (p.map partsR).flatten, y]) ⟨[], ks, .un, rfl, rfl, rfl⟩ ?_ ?_
      · rintro ρ ⟨p, q, y, e, hq, rfl⟩
        have : q = [] := List.map_eq_nil_iff.mp hq.symm
        subst this
        rw [List.append_nil] at e
        subst e
        simp only []
        rw [wp_rovL rfl, hflat]
        exact hQ _
      · rintro d l ρ ⟨p, q, y, e, hq, rfl⟩
        cases q with
        | nil => simp at hq
        | cons k q =>
          rw [List.map_cons, List.cons.injEq] at hq
          obtain ⟨rfl, rfl⟩ := hq
          have hkm : k ∈ ks := by rw [e]; simp
          rw [wp_setv]
          refine ⟨by simp, ?_⟩
          simp only [List.set_cons_succ, List.set_cons_zero]
          have hsum : ((p.map partsR).flatten).length + (partsR k).length ≤ setsR r := by
            rw [← parts_len r, ← hflat, e]
            simp only [List.map_append, List.map_cons, List.flatten_append, List.flatten_cons, List.length_append]
            omega
          rw [wp_letM, wp_lsM, wp_cat, wp_getl rfl]
          simp only [List.set_cons_succ, List.set_cons_zero]
          rw [wp_callG, wp_cons, wp_getv rfl, wp_pure]
          refine wp_callF rfl (parts_wp n (hk.g hg k hkm) (by have := hk.dp k hkm; omega) (by have := parts_len k; omega) fun ρ' => ⟨_, .inr (.inr ⟨_, rfl, rfl⟩), ?_⟩)
          rw [wp_catGo (by unfold sizeLine; omega)]
          refine ⟨by simp, ?_⟩
          simp only [List.set_cons_succ, List.set_cons_zero]
          refine ⟨p ++ [k], q, .va (ruleD k), by rw [e]; simp, rfl, ?_⟩
          simp
end Pd

set_option maxHeartbeats 4000000
namespace Pd
open PySem PySem.Spec PyProof.Rows L2
/-! ### orders drawn, orders read -/
noncomputable def dLane : M Fl := (seqM (par2M 2 3 (lsM (lrgM (callM (one lenD) (consM (getv 1) (pure []))))) (lsM (dspL (pure [])))) (seqM (whM (tst (peek (op2 neD (getv 2) (lstM (pure []))))) (dropM (owM 3 apD (consM (tupM (consM (owM 2 popAtD (consM (callO 5 2 0 dDrip (consM (lenv 2) (pure []))) (pure []))) (consM (op2 eqD (callO 5 2 0 dDrip (consM (pure (.int 2)) (pure []))) (pure (.int 0))) (pure [])))) (pure []))))) (retM (getv 3))))
structure goodO (l : List (Nat × Bool)) : Prop where
  nd : (l.map (·.1)).Nodup
  lt : ∀ x ∈ l, x.1 < l.length
  le : l.length ≤ 8
  ne : 1 ≤ l.length
theorem goodO.small {l : List (Nat × Bool)} (h : goodO l) : smallO l := ⟨by have := h.le; omega, fun x hx => by have := h.lt x hx; have := h.le; omega⟩
theorem laneW_8 {x : Nat × Bool} (h : x.1 ≤ 7) : laneW x = [if x.2 = true then 43 else 45, 48 + x.1] := by
  unfold laneW
  rw [TL.numL_lt (by omega)]
theorem rdOrd1_w {x : Nat × Bool} (h : x.1 ≤ 7) : rdOrd1 (laneW x) = some x := by
  rw [laneW_8 h]
  obtain ⟨c, u⟩ := x
  cases u
  · show (if _ then _ else _) = _
    rw [if_pos ⟨.inr rfl, by omega, by simp only at h ⊢; omega⟩]
    simp
  · show (if _ then _ else _) = _
    rw [if_pos ⟨.inl rfl, by omega, by simp only at h ⊢; omega⟩]
    simp
theorem rdOrdGo_w : ∀ {l acc : List (Nat × Bool)} {k : Nat}, ((acc ++ l).map (·.1)).Nodup → (∀ x ∈ l, x.1 ≤ 7) → rdOrdGo (l.map laneW) k acc = .ok (acc ++ l)
  | [], acc, k, _, _ => by simp [rdOrdGo]
  | x :: l, acc, k, hn, h7 => by
    rw [List.map_cons]
    unfold rdOrdGo
    rw [rdOrd1_w (h7 x (List.mem_cons_self ..))]
    simp only []
    have : x.1 ∉ acc.map (·.1) := by
      rw [List.map_append, List.nodup_append] at hn
      intro hm
      exact hn.2.2 x.1 hm x.1 (by simp) rfl
    rw [if_neg this, rdOrdGo_w (by simpa using hn) fun y hy => h7 y (List.mem_cons_of_mem _ hy)]
    simp
theorem laneW_no {x : Nat × Bool} (h : x.1 ≤ 7) : 32 ∉ laneW x := by
  rw [laneW_8 h]
  intro hm
  simp at hm
  rcases hm with h | h
  · split at h <;> omega
  · omega
theorem spl_lane {l : List (Nat × Bool)} (h : goodO l) : TL.spl [32] 0 [] (laneL l) = l.map laneW := TL.spl_join (fun z => by
    have := h.ne
    rw [List.map_eq_nil_iff.mp z] at this
    simp at this) fun w hw => by
  obtain ⟨x, hx, rfl⟩ := List.mem_map.mp hw
  exact laneW_no (by have := h.lt x hx; have := h.le; omega)
theorem rdOrd_lane {l : List (Nat × Bool)} (h : goodO l) : rdOrd (laneL l) = .ok l := by
  unfold rdOrd
  rw [spl_lane h, rdOrdGo_w (acc := []) (by simpa using h.nd) fun x hx => by have := h.lt x hx; have := h.le; omega]
  simp only [List.nil_append]
  rw [if_neg]
  intro z
  obtain ⟨x, hx, e⟩ := List.any_eq_true.mp z
  have := of_decide_eq_true e
  have := h.lt x hx
  omega
theorem laneL_okc {l : List (Nat × Bool)} (h : goodO l) : okc (laneL l) := joinL_okc ok32 fun p hp => by
  obtain ⟨x, hx, rfl⟩ := List.mem_map.mp hp
  rw [laneW_8 (by have := h.lt x hx; have := h.le; omega)]
  have := h.lt x hx
  have := h.le
  intro c hc
  simp at hc
  rcases hc with rfl | rfl
  · split <;> decide
  · omega
theorem laneL_len {l : List (Nat × Bool)} (h : goodO l) : (laneL l).length ≤ 100 := by
  have := joinL_len (S := [32]) (m := 3) (ps := l.map laneW) fun p hp => by
    obtain ⟨x, hx, rfl⟩ := List.mem_map.mp hp
    rw [laneW_8 (by have := h.lt x hx; have := h.le; omega)]
    simp
  rw [List.length_map] at this
  have := h.le
  show (TL.joinL [32] (l.map laneW)).length ≤ 100
  omega
theorem seqN {k n : Nat} (h : k < n) : seqIndex? (k : Int) n = some k := by
  unfold seqIndex?
  simp
  omega
theorem popAt_n {l : List D} {k : Nat} {d : D} (h2 : k < 1000000) (h3 : l[k]? = some d) : popAtD l [.int (k : Int)] = some (d, l.eraseIdx k) := by
  have hk : k < l.length := (List.getElem?_eq_some_iff.mp h3).1
  unfold popAtD
  simp only []
  rw [if_pos ⟨by omega, by omega⟩, seqN hk]
  simp only [h3]
theorem wp_owG {i : Nat} {g : List D → List D → Option (D × List D)} {l : List D} {fa : M (List D)} {Q : D → Ev → Prop} {E : Str → List D → Ev → Prop} {ρ : Ev} (h : ρ[i]? = some (.ls l)) (hf : wp fa (fun ds ρ' => ∃ (d : D) (l2 : List D), ρ'[i]? = some (.ls l) ∧ g l ds = some (d, l2) ∧ Q d (ρ'.set i (.ls l2))) (fun _ _ _ => False) ρ) : wp (owM i g fa) Q E ρ := by
  obtain ⟨ds, ρ', e, d, l2, h1, h2, h3⟩ := wp_ok hf
  refine wp_of (b := d) (ρ' := ρ'.set i (.ls l2)) ?_ h3
  unfold owM
  rw [if_pos (by unfold hasL; rw [h]; rfl), bind_ok e]
  unfold owGo
  rw [h1]
  simp only [ownL]
  rw [h2]
  rfl
theorem wp_lrg {f : M D} {Q : List D → Ev → Prop} {E : Str → List D → Ev → Prop} {ρ : Ev} {n : Nat} (hn : n ≤ 16777216) (h : wp f (fun d ρ' => d = .int (n : Int) ∧ Q ((List.range n).map fun i : Nat => .int (i : Int)) ρ') E ρ) : wp (lrgM f) Q E ρ := by
  unfold lrgM
  rw [wp_bind]
  refine wp_weak h fun d ρ' ⟨hd, hq⟩ => ?_
  subst hd
  unfold lrgGo
  simp only []
  rw [if_pos ⟨by omega, by omega⟩, wp_pure, Int.toNat_natCast]
  exact hq
theorem wp_lenvL {i : Nat} {l : List D} {Q : D → Ev → Prop} {E : Str → List D → Ev → Prop} {ρ : Ev} (h : ρ[i]? = some (.ls l)) : wp (lenv i) Q E ρ = Q (.int (l.length : Int)) ρ := by
  unfold wp lenv
  rw [show look i ρ = some (.lst l) by unfold look; rw [h]]
  rfl
theorem lane_wp {p : Addr} {N : Nat} {t : T} {m : Nat} {wide : List D} (hb : Flask p N t) (hN : N ≤ 1125899906000000) (hw : wide.length = m) (h1 : 1 ≤ m) (h8 : m ≤ 8) {E : Str → List D → Ev → Prop} :
    wp dLane (fun r ρ' => ∃ t' l, ρ'[0]? = some (.ow t') ∧ Flask p (N + 20) t' ∧ r = .rt (laneD l) ∧ goodO l) E [.ow t, .va (.lst wide), .un, .un] := by
  unfold dLane
  rw [wp_seq, wp_par2, wp_lsM]
  refine wp_lrg (n := m) (by omega) ?_
  rw [wp_callM, wp_cons, wp_getv rfl, wp_pure, show one lenD [.lst wide] = some (.int (m : Int)) by rw [← hw]; rfl, wp_some]
  refine ⟨rfl, ?_⟩
  rw [wp_lsM, wp_dsp, wp_pure]
  refine ⟨Nat.zero_le _, by simp, by simp, ?_⟩
  simp only [List.set_cons_succ, List.set_cons_zero]
  rw [wp_seq]
  refine wp_while (I := fun n ρ => ∃ (t' : T) (left : List Nat) (fd : List (Nat × Bool)), left.length = n ∧ left.length + fd.length = m ∧ Flask p (N + 2 * fd.length) t' ∧ (fd.map (·.1) ++ left).Nodup ∧ (∀ c ∈ fd.map (·.1) ++ left, c < m) ∧ ρ = [.ow t', .va (.lst wide), .ls (left.map fun i : Nat => .int (i : Int)), .ls (fd.map laneI)]) (m := m) ⟨t, List.range m, [], by simp, by simp, hb, by simpa using List.nodup_range, by simp, rfl⟩ ?_
  rintro n ρ ⟨t', left, fd, hn, hm, hf, hnd, hlt, rfl⟩
  rw [wp_tst]
  have hmm : (left.map fun i : Nat => D.int (i : Int)) = (left.map fun i : Nat => (i : Int)).map .int := by rw [List.map_map]; rfl
  refine wp_of (b := .bl (decide (left ≠ []))) (ρ' := [.ow t', .va (.lst wide), .ls (left.map fun i : Nat => .int (i : Int)), .ls (fd.map laneI)]) ?_ ?_
  · refine peek_of (ρ' := frz [.ow t', .va (.lst wide), .ls (left.map fun i : Nat => .int (i : Int)), .ls (fd.map laneI)]) (op2_of (a := .lst (left.map fun i : Nat => .int (i : Int))) (b := .lst []) (getv_of rfl) rfl ?_) rfl
    rw [hmm, neD_ints]
    congr 2
    simp
  simp only []
  by_cases hl : left = []
  · subst hl
    simp only [ne_eq, not_true_eq_false, decide_false, Bool.false_eq_true, if_false]
    rw [wp_retM, wp_getl rfl]
    rw [List.length_nil, Nat.zero_add] at hm
    refine ⟨t', fd, rfl, hf.mono (by omega), rfl, ?_⟩
    rw [List.append_nil] at hnd hlt
    exact ⟨hnd, fun x hx => by rw [hm]; exact hlt _ (List.mem_map.mpr ⟨x, hx, rfl⟩), by omega, by omega⟩
  · have hpos : 0 < left.length := List.length_pos_iff.mpr hl
    rw [decide_eq_true hl]
    simp only [if_true]
    rw [wp_dropM]
    refine wp_owA2 (l := fd.map laneI) rfl ?_
    rw [wp_cons, wp_tupM, wp_cons]
    refine wp_owG (l := left.map fun i : Nat => .int (i : Int)) rfl ?_
    rw [wp_cons, wp_callO rfl, wp_cons, wp_lenvL rfl, wp_pure]
    rw [List.length_map]
    refine wp_drip rfl hf (by omega) (by omega) (Nat.lt_trans (log_of (k := 10) (show (left.length : Int).natAbs < 2 ^ 10 by omega) (by decide)) (by decide)) fun t1 d1 hb1 h10 h11 => ?_
    obtain ⟨k, rfl⟩ := Int.eq_ofNat_of_zero_le h10
    have hk : k < left.length := by omega
    simp only [List.set_cons_succ, List.set_cons_zero]
    rw [wp_pure]
    refine ⟨.int (left[k] : Int), _, rfl, popAt_n (by omega) (by rw [List.getElem?_map, List.getElem?_eq_getElem hk]; rfl), ?_⟩
    simp only [List.set_cons_succ, List.set_cons_zero]
    rw [wp_cons, wp_op2]
    refine wp_dripC rfl hb1 (by omega) (by decide) (by decide +kernel) fun t2 d2 hb2 h20 h21 => ?_
    simp only [List.set_cons_succ, List.set_cons_zero]
    rw [wp_pure, wp_eqi, wp_pure]
    refine ⟨by show (2 : Nat) ≤ _; unfold sizeLine; decide, ?_⟩
    rw [wp_pure]
    refine ⟨laneI (left[k], decide (d2 = 0)), rfl, rfl, by rw [List.length_map]; unfold sizeLine; omega, ?_⟩
    simp only [List.set_cons_succ, List.set_cons_zero]
    have hlen : (left.eraseIdx k).length = left.length - 1 := List.length_eraseIdx_of_lt hk
    have hperm : (left[k] :: left.eraseIdx k).Perm left := by
      have h1 : left = left.take k ++ left[k] :: left.drop (k + 1) := by
        rw [← List.drop_eq_getElem_cons hk, List.take_append_drop]
      rw [List.eraseIdx_eq_take_drop_succ]
      generalize left[k] = x at *
      conv => rhs; rw [h1]
      exact List.perm_middle.symm
    have hperm2 : ((fd ++ [(left[k], decide (d2 = 0))]).map (·.1) ++ left.eraseIdx k).Perm (fd.map (·.1) ++ left) := by
      rw [List.map_append, List.append_assoc]
      exact List.Perm.append_left _ hperm
    refine ⟨left.length - 1, by omega, t2, left.eraseIdx k, fd ++ [(left[k], decide (d2 = 0))], hlen, by rw [hlen, List.length_append, List.length_singleton]; omega, hb2.mono (by rw [List.length_append, List.length_singleton]; omega), hperm2.nodup_iff.mpr hnd, fun c hc => hlt c (hperm2.mem_iff.mp hc), ?_⟩
    rw [List.map_append, show (left.map fun i : Nat => D.int (i : Int)).eraseIdx k = (left.eraseIdx k).map fun i : Nat => D.int (i : Int) by rw [List.eraseIdx_eq_take_drop_succ, List.eraseIdx_eq_take_drop_succ, List.map_append, List.map_take, List.map_drop]]
    rfl
end Pd

set_option maxHeartbeats 4000000
namespace Pd
open PySem PySem.Spec PyProof.Rows L2
/-! ### conditions drawn -/
noncomputable def dAny : Nat → M Fl
  | 0 => no
  | n + 1 => (seqM (letM 2 (vaM (callO 5 2 0 dDrip (consM (pure (.int 5)) (pure []))))) (seqM (iteM (Pd.orM (tst (op2 ltD (getv 1) (pure (.int 2)))) (tst (op2 ltD (getv 2) (pure (.int 2))))) (retM (tupM (consM (pure (.str "in")) (consM (callO 5 2 0 dDrip (consM (pure (.int 8)) (pure []))) (consM (callO 6 2 0 dFar (consM (pure (.int 3)) (pure []))) (pure [])))))) (pure .nx)) (seqM (iteM (tst (op2 eqD (getv 2) (pure (.int 2)))) (retM (tupM (consM (pure (.str "not")) (consM (callO 3 2 0 (dAny n) (consM (op2 subD (getv 1) (pure (.int 1))) (pure []))) (pure []))))) (pure .nx)) (retM (tupM (consM (op2 ixD (lstM (consM (pure (.str "or")) (consM (pure (.str "and")) (pure [])))) (op2 modD (callM (one toInt) (consM (getv 2) (pure []))) (pure (.int 2)))) (consM (callO 3 2 0 (dAny n) (consM (op2 subD (getv 1) (pure (.int 1))) (pure []))) (consM (callO 3 2 0 (dAny n) (consM (op2 subD (getv 1) (pure (.int 1))) (pure []))) (pure [])))))))))
def cnt : Nat → Nat
  | 0 => 200
  | e + 1 => 2 * cnt e + 10
theorem cnt_ge : ∀ e, 200 ≤ cnt e
  | 0 => Nat.le_refl _
  | e + 1 => by have := cnt_ge e; unfold cnt; omega
theorem wp_sub {i j : Int} {Q : D → Ev → Prop} {E : Str → List D → Ev → Prop} {ρ : Ev} : wp (opt (subD (.int i) (.int j))) Q E ρ = Q (.int (i - j)) ρ := wp_some
theorem wp_lti {i j : Int} {Q : D → Ev → Prop} {E : Str → List D → Ev → Prop} {ρ : Ev} : wp (opt (ltD (.int i) (.int j))) Q E ρ = Q (.bl (decide (i < j))) ρ := wp_some
/-- a def handed things of one's own that gives data -/
theorem wp_callFD {n np i : Nat} {f : M Fl} {ds : List D} {Q : D → Ev → Prop} {t : T} {P : T → D → Prop} {ρ : Ev} {E : Str → List D → Ev → Prop} (h : ρ[i]? = some (.ow t)) (hl : ds.length + 1 = np)
    (hf : wp f (fun r ρ' => ∃ t' d, ρ'[0]? = some (.ow t') ∧ P t' d ∧ (r = .rt d ∨ ∃ l, r = .ro l ∧ d = .lst l)) (fun _ _ _ => False) (unE n (.ow t :: ds.map .va)))
    (hs : ∀ t' d, P t' d → sameRoot t t' = true) (hQ : ∀ t' d, P t' d → Q d (ρ.set i (.ow t'))) : wp (callFO n np i f ds) Q E ρ := by
  obtain ⟨r, ρ', e, t', d, h1, h2, h3⟩ := wp_ok hf
  refine wp_of (b := d) (ρ' := ρ.set i (.ow t')) ?_ (hQ _ _ h2)
  unfold callFO
  rw [h]
  simp only []
  rw [if_pos hl, e]
  cases ρ' with
  | nil => simp at h1
  | cons s ρ' =>
    simp at h1
    subst h1
    rcases h3 with rfl | ⟨l, rfl, rfl⟩
    · simp only [outO, backO]
      rw [if_pos (hs _ _ h2)]
    · simp only [outO, backO]
      rw [if_pos (hs _ _ h2)]
theorem wp_farC {i : Nat} {p : Addr} {N most : Nat} {t : T} {ρ : Ev} {Q : D → Ev → Prop} {E : Str → List D → Ev → Prop} (h : ρ[i]? = some (.ow t)) (hb : Flask p N t) (hN : N ≤ 1125899906000000) (hm : most ≤ 12)
    (hQ : ∀ t' sp, Flask p (N + 100) t' → goodS none sp → sp.length ≤ most → Q (.lst (sp.map spanD)) (ρ.set i (.ow t'))) : wp (callFO 6 2 i dFar [.int (most : Int)]) Q E ρ :=
  wp_callFD (P := fun t' d => Flask p (N + 100) t' ∧ ∃ sp : List (Nat × Nat), d = .lst (sp.map spanD) ∧ goodS none sp ∧ sp.length ≤ most) h rfl
    (wp_weak (far_wp hb hN hm) fun r ρ' ⟨t', sp, h1, h2, h3, h4, h5⟩ => ⟨t', _, h1, ⟨h2, sp, rfl, h4, h5⟩, .inr ⟨_, h3, rfl⟩⟩) (fun t' d k => hb.same k.1)
    fun t' d ⟨h1, sp, h2, h3, h4⟩ => by subst h2; exact hQ t' sp h1 h3 h4
structure AnyR (e : Nat) (r : Rule) : Prop where
  g : goodR r
  d : depR r ≤ e + 1
  n : nodR r + 1 ≤ 2 * 2 ^ e
  s : setsR r ≤ 2 ^ e
theorem any_wp : ∀ (e : Nat) {n : Nat} {p : Addr} {N : Nat} {t : T}, e < n → Flask p N t → N + cnt e ≤ 1125899906000000 → ∀ {E : Str → List D → Ev → Prop},
    wp (dAny n) (fun r ρ' => ∃ t' d, ρ'[0]? = some (.ow t') ∧ (Flask p (N + cnt e) t' ∧ ∃ r0, d = ruleD r0 ∧ AnyR e r0) ∧ (r = .rt d ∨ ∃ l, r = .ro l ∧ d = .lst l)) E [.ow t, .va (.int ((e : Int) + 1)), .un]
  | e, 0, _, _, _, h, _, _, _ => by omega
  | e, n + 1, p, N, t, he, hb, hN, E => by
    have hc := cnt_ge e
    have hp2 : 1 ≤ 2 ^ e := Nat.one_le_two_pow
    unfold dAny
    rw [wp_seq, wp_letM, wp_vaM]
    refine wp_dripC rfl hb (by omega) (by decide) (by decide +kernel) fun t1 d1 hb1 h10 h11 => ?_
    refine ⟨by simp, ?_⟩
    simp only [List.set_cons_succ, List.set_cons_zero]
    have leaf : ∀ {Q' : Fl → Ev → Prop}, (∀ d ρ', (∃ t', ρ'[0]? = some (.ow t') ∧ (Flask p (N + cnt e) t' ∧ ∃ r0, d = ruleD r0 ∧ AnyR e r0)) → Q' (.rt d) ρ') → wp (retM (tupM (consM (pure (.str "in")) (consM (callO 5 2 0 dDrip (consM (pure (.int 8)) (pure []))) (consM (callO 6 2 0 dFar (consM (pure (.int 3)) (pure []))) (pure [])))))) Q' E [.ow t1, .va (.int ((e : Int) + 1)), .va (.int d1)] := by
      intro Q' hQ'
      rw [wp_retM, wp_tupM, wp_cons, wp_pure, wp_cons]
      refine wp_dripC rfl hb1 (by omega) (by decide) (by decide +kernel) fun t2 d2 hb2 h20 h21 => ?_
      simp only [List.set_cons_succ, List.set_cons_zero]
      obtain ⟨c, rfl⟩ := Int.eq_ofNat_of_zero_le h20
      rw [wp_cons, wp_callO rfl, wp_cons, wp_pure, wp_pure]
      refine wp_farC (most := 3) rfl hb2 (by omega) (by decide) fun t3 sp hb3 g1 g2 => ?_
      simp only [List.set_cons_succ, List.set_cons_zero]
      rw [wp_pure]
      refine ⟨by show (3 : Nat) ≤ _; unfold sizeLine; decide, hQ' _ _ ⟨t3, rfl, hb3.mono (by omega), .inn c sp, rfl, ⟨?_, g1, by omega⟩, ?_, ?_, ?_⟩⟩
      · omega
      · show 1 ≤ e + 1
        omega
      · show 1 + 1 ≤ _
        omega
      · exact hp2
    rw [wp_seq, wp_iteM, wp_orM, wp_tst, wp_op2, wp_getv rfl, wp_pure, wp_lti]
    simp only []
    by_cases c1 : ((e : Int) + 1) < 2
    · rw [decide_eq_true c1]
      simp only [if_true]
      exact leaf fun d ρ' ⟨t', z1, z2⟩ => ⟨t', d, z1, z2, .inl rfl⟩
    · rw [decide_eq_false c1]
      simp only [Bool.false_eq_true, if_false]
      rw [wp_tst, wp_op2, wp_getv rfl, wp_pure, wp_lti]
      simp only []
      by_cases c2 : d1 < 2
      · rw [decide_eq_true c2]
        simp only [if_true]
        exact leaf fun d ρ' ⟨t', z1, z2⟩ => ⟨t', d, z1, z2, .inl rfl⟩
      · rw [decide_eq_false c2]
        simp only [Bool.false_eq_true, if_false]
        rw [wp_pure]
        simp only []
        obtain ⟨e', rfl⟩ : ∃ e', e = e' + 1 := ⟨e - 1, by omega⟩
        have hcn : cnt (e' + 1) = 2 * cnt e' + 10 := rfl
        have hpw : 2 ^ (e' + 1) = 2 * 2 ^ e' := by rw [Nat.pow_succ]; omega
        have sub : ∀ {t1 : T} {N1 : Nat} {y : Slot} {Q : D → Ev → Prop}, Flask p N1 t1 → N1 + cnt e' ≤ 1125899906000000 → (∀ t' r0, Flask p (N1 + cnt e') t' → AnyR e' r0 → Q (ruleD r0) [.ow t', .va (.int (((e' + 1 : Nat) : Int) + 1)), y]) →
            wp (callO 3 2 0 (dAny n) (consM (op2 subD (getv 1) (pure (.int 1))) (pure []))) Q E [.ow t1, .va (.int (((e' + 1 : Nat) : Int) + 1)), y] := by
          intro t1 N1 y Q hb1 hN1 hQ
          rw [wp_callO rfl, wp_cons, wp_op2, wp_getv rfl, wp_pure, wp_sub, wp_pure]
          rw [show ((e' + 1 : Nat) : Int) + 1 - 1 = (e' : Int) + 1 by omega]
          refine wp_callFD rfl rfl (any_wp e' (n := n) (by omega) hb1 hN1) (fun t' d k => hb1.same k.1) ?_
          rintro t' d ⟨k1, r0, rfl, k2⟩
          exact hQ t' r0 k1 k2
        rw [wp_seq, wp_iteM, wp_tst, wp_op2, wp_getv rfl, wp_pure, wp_eqi]
        simp only []
        by_cases c3 : d1 = 2
        · rw [decide_eq_true c3]
          simp only [if_true]
          rw [wp_retM, wp_tupM, wp_cons, wp_pure, wp_cons]
          refine sub hb1 (by omega) fun t2 r0 hb2 k2 => ?_
          rw [wp_pure]
          refine ⟨by show (2 : Nat) ≤ _; unfold sizeLine; decide, t2, _, rfl, ⟨hb2.mono (by omega), .nt r0, rfl, k2.g, ?_, ?_, ?_⟩, .inl rfl⟩
          · have := k2.d
            show depR r0 + 1 ≤ _
            omega
          · have := k2.n
            have h1 : 1 ≤ 2 ^ e' := Nat.one_le_two_pow
            show (rWords r0).length + 1 + 1 ≤ _
            unfold nodR at this
            omega
          · have := k2.s
            show setsR r0 ≤ _
            omega
        · rw [decide_eq_false c3]
          simp only [Bool.false_eq_true, if_false]
          rw [wp_pure]
          simp only []
          have hw : ∃ b : Bool, ixD (.lst [.str "or", .str "and"]) (.int (d1 % 2)) = some (.str (if b = true then "and" else "or")) := by
            have : d1 % 2 = ((0 : Nat) : Int) ∨ d1 % 2 = ((1 : Nat) : Int) := by omega
            rcases this with h | h
            · exact ⟨false, by rw [h]; exact ix_n rfl⟩
            · exact ⟨true, by rw [h]; exact ix_n rfl⟩
          obtain ⟨b, hw⟩ := hw
          rw [wp_retM, wp_tupM, wp_cons, wp_op2, wp_lstM, wp_cons, wp_pure, wp_cons, wp_pure, wp_pure]
          refine ⟨by show (2 : Nat) ≤ _; unfold sizeLine; decide, ?_⟩
          rw [wp_op2, wp_callM, wp_cons, wp_getv rfl, wp_pure, wp_toInt, wp_pure, wp_mod]
          refine ⟨by decide, ?_⟩
          rw [hw, wp_some, wp_cons]
          refine sub hb1 (by omega) fun t2 r0 hb2 k2 => ?_
          rw [wp_cons]
          refine sub hb2 (by omega) fun t3 r1 hb3 k3 => ?_
          rw [wp_pure]
          have a1 := k2.d
          have a2 := k3.d
          have a3 := k2.n
          have a4 := k3.n
          have a5 := k2.s
          have a6 := k3.s
          unfold nodR at a3 a4
          cases b with
          | true =>
            refine ⟨by show (3 : Nat) ≤ _; unfold sizeLine; decide, t3, _, rfl, ⟨hb3.mono (by omega), .an r0 r1, rfl, ⟨k2.g, k3.g⟩, ?_, ?_, ?_⟩, .inl rfl⟩
            · show max (depR r0) (depR r1) + 1 ≤ _
              omega
            · show (rWords r0 ++ rWords r1).length + 1 + 1 ≤ _
              rw [List.length_append]
              omega
            · show setsR r0 + setsR r1 ≤ _
              omega
          | false =>
            refine ⟨by show (3 : Nat) ≤ _; unfold sizeLine; decide, t3, _, rfl, ⟨hb3.mono (by omega), .orr r0 r1, rfl, ⟨k2.g, k3.g⟩, ?_, ?_, ?_⟩, .inl rfl⟩
            · show max (depR r0) (depR r1) + 1 ≤ _
              omega
            · show (rWords r0 ++ rWords r1).length + 1 + 1 ≤ _
              rw [List.length_append]
              omega
            · show setsR r0 + setsR r1 ≤ _
              omega
/-! ### x = [f(..), f(..)] of new things -/
theorem wp_fresh {i jp n : Nat} {f1 f2 : M D} {mt : M Bool} {m1 m4 fp : M Fl} {d0 d1 : D} {Q : Fl → Ev → Prop} {E : Str → List D → Ev → Prop} {ρ : Ev} (hp : ρ.all plain1 = true) (hi : i < ρ.length) (hj : jp < ρ.length)
    (h1 : wp f1 (fun d _ => d = d0) (fun _ _ _ => False) (mask ρ)) (h2 : wp f2 (fun d _ => d = d1) (fun _ _ _ => False) (mask ρ)) (h3 : wp mt (fun b _ => b = false) (fun _ _ _ => False) (ρ.set i (.va (.lst [d0, d1]))))
    (h4 : wp fp (fun r _ => ∃ l, r = .ro l ∧ partsOk l = true) (fun _ _ _ => False) (unE n [.va d0])) (h5 : wp m4 Q E ((ρ.set i (.pa 1 d1)).set jp .un)) : wp (freshM i jp f1 f2 mt m1 m4 n fp) Q E ρ := by
  obtain ⟨x0, ρ1, e1, hx0⟩ := wp_ok h1
  obtain ⟨x1, ρ2, e2, hx1⟩ := wp_ok h2
  subst hx0 hx1
  obtain ⟨_, ρ3, e3, rfl⟩ := wp_ok h3
  obtain ⟨_, ρ4, e4, l, rfl, h6⟩ := wp_ok h4
  have : freshM i jp f1 f2 mt m1 m4 n fp ρ = m4 ((ρ.set i (.pa 1 x1)).set jp .un) := by
    unfold freshM
    rw [if_pos ⟨hp, hi, hj⟩, e1]
    simp only []
    rw [e2]
    simp only []
    rw [e3]
    simp only []
    rw [e4]
    simp only []
    rw [if_pos h6]
  unfold wp at h5 ⊢
  rw [this]
  exact h5
theorem wp_tix {i k : Nat} {d : D} {Q : D → Ev → Prop} {E : Str → List D → Ev → Prop} {ρ : Ev} (h : ρ[i]? = some (.pa k d)) : wp (tixM i k) Q E ρ = Q d ρ := by
  unfold wp tixM
  rw [h]
  simp
theorem wp_rep {fl : M (List D)} {fb : M D} {Q : D → Ev → Prop} {E : Str → List D → Ev → Prop} {ρ : Ev} : wp (repM fl fb) Q E ρ = wp fl (fun l => wp fb (fun d => wp (repGo l d) Q E) E) E ρ := by
  unfold repM
  rw [wp_bind]
  congr 1
  funext l ρ1
  rw [wp_bind]
theorem wp_repGo {l : List D} {k : Nat} {Q : D → Ev → Prop} {E : Str → List D → Ev → Prop} {ρ : Ev} (h : l.length * k ≤ 1000000) (hk : k ≤ 1000000) : wp (repGo l (.int (k : Int))) Q E ρ = Q (.lst (List.replicate k l).flatten) ρ := by
  unfold repGo
  simp only []
  rw [if_pos ⟨by omega, by omega, by rw [Int.toNat_natCast]; unfold sizeLine; omega⟩, wp_pure, Int.toNat_natCast]
end Pd

set_option maxHeartbeats 4000000
namespace Pd
open PySem PySem.Spec PyProof.Rows L2
theorem shaped_strs {ws : List (List Nat)} (h : ∀ w ∈ ws, okc w) : SeqAt.shaped (.list (ws.map fun w => .str (TS w))) = true := by
  obtain ⟨h1, h2⟩ := lay_strs h
  show ((PyData.list _).canLay0 && decide _) = true
  simp only [PyData.canLay0, h1, PyData.depth, h2, Bool.true_and]
  rfl
theorem neD_self {d : D} {p : PyData} (h : py d = some p) (hs : SeqAt.shaped p = true) : neD d d = some (.bl false) := by
  simp only [neD, h, Option.bind_some, hs, Bool.and_self, if_true]
  rw [SeqAt.eqv_refl p (SeqAt.canLay_of_shaped hs)]
  rfl
theorem eqD_self {d : D} {p : PyData} (h : py d = some p) (hs : SeqAt.shaped p = true) : eqD d d = some (.bl true) := by
  simp only [eqD, h, Option.bind_some, hs, Bool.and_self, if_true]
  rw [SeqAt.eqv_refl p (SeqAt.canLay_of_shaped hs)]
theorem neD_wsD {ws : List (List Nat)} (h : ∀ w ∈ ws, okc w) : neD (wsD ws) (wsD ws) = some (.bl false) :=
  neD_self (p := .list (ws.map fun w => .str (TS w))) (by show (pyL _).map _ = _; rw [pyL_strs]; rfl) (shaped_strs h)
theorem reprT_of {ds : List D} {k : Nat} {l : List Nat} (h : Shw (.tup ds) k l) (hk : k ≤ 60) (hz : l.length ≤ sizeLine) : one reprL [.tup ds] = some (.str (TS l)) := by
  obtain ⟨⟨p, a1, a2, a3, a4, a5⟩, a6⟩ := h
  show reprD (.tup ds) = _
  unfold reprD
  rw [a1, Option.bind_some, if_pos ⟨a2, a3, by omega, by rw [a5, SX.S_len]; exact hz⟩, a5]
theorem wp_dem2 {i : Nat} {xs : List D} {rest : M Fl} {d : D} {Q : Fl → Ev → Prop} {E : Str → List D → Ev → Prop} {ρ : Ev} (hi : i < ρ.length)
    (h : ∀ p q1 q2 : Addr, wp rest (fun r ρ' => r = .rt d ∧ ρ'.length = ρ.length) (fun _ _ _ => False) (ρ.set i (.ow (.l p [.v q1 xs, .v q2 xs])))) (hQ : ∀ ρ', Q (.rt d) ρ') : wp (demGo i [xs, xs] rest) Q E ρ := by
  refine wp_of (demGo_of (d := d) hi (by show (2 : Nat) ≤ _; unfold sizeLine; decide) ?_) (hQ _)
  rintro t ⟨p, ps, hlen, hnd, rfl⟩
  match ps, hlen with
  | [q1, q2], _ =>
    obtain ⟨r, ρ', e, rfl, h2⟩ := wp_ok (h p q1 q2)
    exact ⟨ρ', h2, e⟩
theorem wp_itA {i : Nat} {p q1 : Addr} {xs : List D} {ts : List T} {d : D} {Q : D → Ev → Prop} {E : Str → List D → Ev → Prop} {ρ : Ev} (h : ρ[i]? = some (.ow (.l p (.v q1 xs :: ts)))) (hz : xs.length < sizeLine) : wp (itM i 0 apD [d]) Q E ρ = Q .non (ρ.set i (.ow (.l p (.v q1 (xs ++ [d]) :: ts)))) := by
  have e : apD xs [d] = some (.non, xs ++ [d]) := if_pos hz
  unfold wp itM
  rw [h]
  simp only [List.getElem?_cons_zero]
  rw [e]
  rfl
theorem cut_m1 {β : Type} (l : List β) (x : β) : cut (l ++ [x]) none (some (-1)) = l := by
  unfold cut
  rw [HT.sIx_none, List.drop_zero, Nat.sub_zero]
  have : HT.sIx (l ++ [x]).length (l ++ [x]).length (some (-1)) = l.length := by
    unfold HT.sIx
    simp only []
    rw [if_pos (by decide), List.length_append, List.length_singleton]
    omega
  rw [this, List.take_left]
/-! ### orders -/
noncomputable def dLaneRight : M Fl := (seqM (par2M 1 2 (vaM (callM (one reprL) (consM (getv 0) (pure [])))) (vaM (callG 3 1 dLaneL (consM (getv 0) (pure []))))) (seqM (iteM (Pd.orM (tst (op2 neD (lstM (consM (callG 3 1 dWord (consM (getv 0) (pure []))) (consM (callG 3 1 dWord (consM (getv 0) (pure []))) (pure [])))) (repM (dspL (consM (getv 2) (pure []))) (pure (.int 2))))) (tst (op2 neD (callM (one reprL) (consM (getv 0) (pure []))) (getv 1)))) (retM (pure (.bl false))) (pure .nx)) (demM 3 (consL (callL 9 1 dRord (consM (getv 2) (pure []))) (consL (callL 9 1 dRord (consM (getv 2) (pure []))) (pure []))) (seqM (dropM (itM 3 0 apD [.non])) (retM (peek (op2 eqD (callM (one reprL) (consM (lstM (consM (op2 ixD (getv 3) (pure (.int 1))) (consM (sliceM (op2 ixD (getv 3) (pure (.int 0))) (pure none) (partM (unD negD (pure (.int 1))))) (consM (callG 9 1 dRord (consM (getv 2) (pure []))) (pure []))))) (pure []))) (callM (one reprL) (consM (repM (dspL (consM (getv 0) (pure []))) (pure (.int 3))) (pure []))))))))))
def bL (b : Bool) : List Nat := if b = true then [84, 114, 117, 101] else [70, 97, 108, 115, 101]
theorem Shw.bl {b : Bool} {k : Nat} : Shw (.bl b) k (bL b) := by
  cases b
  · exact ⟨⟨.bool false, rfl, rfl, rfl, Nat.zero_le _, by decide +kernel⟩, by intro c hc; simp [bL] at hc; omega⟩
  · exact ⟨⟨.bool true, rfl, rfl, rfl, Nat.zero_le _, by decide +kernel⟩, by intro c hc; simp [bL] at hc; omega⟩
def laneI_L (x : Nat × Bool) : List Nat := tupG [TL.numL x.1, bL x.2]
theorem shw_lanes : ∀ {l : List (Nat × Bool)}, (∀ x ∈ l, x.1 ≤ 7) → ShwL (l.map laneI) 1 (l.map laneI_L)
  | [], _ => .nil
  | x :: l, h => .cons (Shw.tup (k := 0) (.cons (.int (by have := h x (List.mem_cons_self ..); omega)) (.cons .bl .nil))) (shw_lanes fun y hy => h y (List.mem_cons_of_mem _ hy))
theorem laneI_len {x : Nat × Bool} (h : x.1 ≤ 7) : (laneI_L x).length ≤ 100 := by
  have h1 := num_len (show x.1 < 10 ^ 30 by omega)
  have := tupG_sum [TL.numL x.1, bL x.2]
  simp only [List.map_cons, List.map_nil, List.sum_cons, List.sum_nil] at this
  have h2 : (bL x.2).length ≤ 5 := by unfold bL; split <;> decide
  show (tupG _).length ≤ _
  omega
theorem lane_right {l : List (Nat × Bool)} (h : goodO l) {Q : Fl → Ev → Prop} {E : Str → List D → Ev → Prop} (hQ : ∀ ρ', Q (.rt (.bl true)) ρ') : wp dLaneRight Q E [.va (laneD l), .un, .un, .un] := by
  have h7 : ∀ x ∈ l, x.1 ≤ 7 := fun x hx => by have := h.lt x hx; have := h.le; omega
  have h8 := h.le
  have lo := laneL_okc h
  have ll := laneL_len h
  have s1 : Shw (laneD l) 2 (listL (l.map laneI_L)) := Shw.lst (shw_lanes h7)
  have z1 : (listL (l.map laneI_L)).length ≤ 2000 := by
    have := listL_len (m := 100) (ls := l.map laneI_L) fun y hy => by
      obtain ⟨x, hx, rfl⟩ := List.mem_map.mp hy
      exact laneI_len (h7 x hx)
    rw [List.length_map] at this
    omega
  have r1 : one reprL [laneD l] = some (.str (TS (listL (l.map laneI_L)))) := reprL_of s1 (by decide) (by unfold sizeLine; omega)
  have s2 : Shw (.lst [laneD l, laneD l, laneD l]) 3 (listL [listL (l.map laneI_L), listL (l.map laneI_L), listL (l.map laneI_L)]) := Shw.lst (.cons s1 (.cons s1 (.cons s1 .nil)))
  have z2 : (listL [listL (l.map laneI_L), listL (l.map laneI_L), listL (l.map laneI_L)]).length ≤ 20000 := by
    have := listL_len (m := 2000) (ls := [listL (l.map laneI_L), listL (l.map laneI_L), listL (l.map laneI_L)]) fun y hy => by
      simp at hy
      rw [hy]
      exact z1
    simp at this
    omega
  have r2 : one reprL [.lst [laneD l, laneD l, laneD l]] = some (.str (TS (listL [listL (l.map laneI_L), listL (l.map laneI_L), listL (l.map laneI_L)]))) := reprL_of s2 (by decide) (by unfold sizeLine; omega)
  have rd : ∀ {Q : Fl → Ev → Prop} {E : Str → List D → Ev → Prop}, (∀ ρ', Q (.ro (l.map laneI)) ρ') → wp dRord Q E [.va (.str (TS (laneL l))), .un, .un, .un, .un, .un, .un, .un, .un] := fun {Q E} hq =>
    rord_wp lo (by unfold sizeLine; omega) (by rw [rdOrd_lane h]; exact hq)
  have ws : ∀ {Q : Fl → Ev → Prop} {E : Str → List D → Ev → Prop}, (∀ ρ', Q (.rt (.str (TS (laneL l)))) ρ') → wp dWord Q E [.va (laneD l), .un, .un] := fun {Q E} hq => word_wp h.small hq
  generalize hR : listL (l.map laneI_L) = R at *
  generalize hR2 : listL [R, R, R] = R2 at *
  unfold dLaneRight
  rw [wp_seq, wp_par2, wp_vaM, wp_callM, wp_cons, wp_getv rfl, wp_pure, r1, wp_some, wp_vaM, wp_callG, wp_cons, wp_getv rfl, wp_pure]
  refine wp_callF rfl (laneL_wp h.small fun ρ' => ⟨_, .inl rfl, ?_⟩)
  refine ⟨by simp, by simp, ?_⟩
  simp only [List.set_cons_succ, List.set_cons_zero]
  rw [wp_seq, wp_iteM, wp_orM, wp_tst, wp_op2, wp_lstM, wp_cons, wp_callG, wp_cons, wp_getv rfl, wp_pure]
  refine wp_callF rfl (ws fun ρ' => ⟨_, .inl rfl, ?_⟩)
  rw [wp_cons, wp_callG, wp_cons, wp_getv rfl, wp_pure]
  refine wp_callF rfl (ws fun ρ' => ⟨_, .inl rfl, ?_⟩)
  rw [wp_pure]
  refine ⟨by show (2 : Nat) ≤ _; unfold sizeLine; decide, ?_⟩
  rw [wp_rep, wp_dsp, wp_cons, wp_getv rfl, wp_pure]
  refine ⟨by show (1 : Nat) ≤ _; unfold sizeLine; decide, ?_⟩
  rw [wp_pure, show D.int 2 = .int ((2 : Nat) : Int) from rfl, wp_repGo (by simp) (by decide)]
  rw [show D.lst [D.str (TS (laneL l)), D.str (TS (laneL l))] = wsD [laneL l, laneL l] from rfl, show D.lst (List.replicate 2 [D.str (TS (laneL l))]).flatten = wsD [laneL l, laneL l] from rfl, neD_wsD (fun w hw => by simp at hw; rw [hw]; exact lo), wp_some]
  simp only [Bool.false_eq_true, if_false]
  rw [wp_tst, wp_op2, wp_callM, wp_cons, wp_getv rfl, wp_pure, r1, wp_some, wp_getv rfl, neD_str s1.ok s1.ok, wp_some]
  simp only [ne_eq, not_true_eq_false, decide_false, Bool.false_eq_true, if_false]
  rw [wp_pure]
  simp only []
  unfold demM
  rw [wp_bind]
  unfold consL
  rw [wp_bind, wp_callL, wp_cons, wp_getv rfl, wp_pure]
  refine wp_callFL rfl (rd fun ρ' => ⟨_, rfl, ?_⟩)
  rw [wp_bind, wp_bind, wp_callL, wp_cons, wp_getv rfl, wp_pure]
  refine wp_callFL rfl (rd fun ρ' => ⟨_, rfl, ?_⟩)
  rw [wp_bind, wp_pure, wp_pure, wp_pure]
  refine wp_dem2 (d := .bl true) (by simp) (fun p q1 q2 => ?_) hQ
  simp only [List.set_cons_succ, List.set_cons_zero]
  rw [wp_seq, wp_dropM, wp_itA rfl (by rw [List.length_map]; unfold sizeLine; omega)]
  simp only [List.set_cons_succ, List.set_cons_zero]
  rw [wp_retM]
  refine wp_peek ?_
  rw [show frz [.va (laneD l), .va (.str (TS R)), .va (.str (TS (laneL l))), .ow (.l p [.v q1 (l.map laneI ++ [.non]), .v q2 (l.map laneI)])] = [.va (laneD l), .va (.str (TS R)), .va (.str (TS (laneL l))), .va (.lst [.lst (l.map laneI ++ [.non]), .lst (l.map laneI)])] from rfl]
  rw [wp_op2, wp_callM, wp_cons, wp_lstM, wp_cons, wp_op2, wp_getv rfl, wp_pure, show ixD (.lst [.lst (l.map laneI ++ [.non]), .lst (l.map laneI)]) (.int 1) = some (.lst (l.map laneI)) from rfl, wp_some, wp_cons, wp_slice, wp_op2, wp_getv rfl, wp_pure, show ixD (.lst [.lst (l.map laneI ++ [.non]), .lst (l.map laneI)]) (.int 0) = some (.lst (l.map laneI ++ [.non])) from rfl, wp_some, wp_pure, wp_part, wp_unD, wp_pure, show negD (.int 1) = some (.int (-1)) from rfl, wp_some]
  simp only []
  rw [show slD (.lst (l.map laneI ++ [.non])) none (some (-1)) = some (.lst (cut (l.map laneI ++ [.non]) none (some (-1)))) from rfl, cut_m1, wp_some, wp_cons, wp_callG, wp_cons, wp_getv rfl, wp_pure]
  refine wp_callF rfl (rd fun ρ' => ⟨_, .inr (.inr ⟨_, rfl, rfl⟩), ?_⟩)
  rw [wp_pure]
  refine ⟨by show (3 : Nat) ≤ _; unfold sizeLine; decide, ?_⟩
  rw [show D.lst (l.map laneI) = laneD l from rfl, wp_pure, r2, wp_some, wp_callM, wp_cons, wp_rep, wp_dsp, wp_cons, wp_getv rfl, wp_pure]
  refine ⟨by show (1 : Nat) ≤ _; unfold sizeLine; decide, ?_⟩
  rw [wp_pure, show D.int 3 = .int ((3 : Nat) : Int) from rfl, wp_repGo (by simp) (by decide), show (List.replicate 3 [laneD l]).flatten = [laneD l, laneD l, laneD l] from rfl, wp_pure, r2, wp_some, eqD_str s2.ok s2.ok, decide_eq_true rfl, wp_some]
  exact ⟨rfl, rfl, rfl⟩
end Pd

set_option maxHeartbeats 4000000
namespace Pd
open PySem PySem.Spec PyProof.Rows L2
/-! ### conditions right -/
noncomputable def dRuleRight : M Fl := (seqM (par2M 1 2 (vaM (callM (one reprL) (consM (getv 0) (pure [])))) (vaM (callG 2 1 (dRline 25) (consM (getv 0) (pure []))))) (seqM (iteM (Pd.orM (tst (op2 neD (lstM (consM (callG 2 1 (dWcond 25) (consM (getv 0) (pure []))) (consM (callG 2 1 (dWcond 25) (consM (getv 0) (pure []))) (pure [])))) (repM (dspL (consM (getv 2) (pure []))) (pure (.int 2))))) (tst (op2 neD (callM (one reprL) (consM (getv 0) (pure []))) (getv 1)))) (retM (pure (.bl false))) (pure .nx)) (freshM 3 4 (callG 3 1 dCond (consM (getv 2) (pure []))) (callG 3 1 dCond (consM (getv 2) (pure []))) (tst (op2 neD (callM (one reprL) (consM (getv 3) (pure []))) (callM (one reprL) (consM (repM (dspL (consM (getv 0) (pure []))) (pure (.int 2))) (pure []))))) (retM (pure (.bl false))) (retM (op2 eqD (callM (one reprL) (consM (lstM (consM (tixM 3 1) (consM (callG 3 1 dCond (consM (getv 2) (pure []))) (pure [])))) (pure []))) (callM (one reprL) (consM (repM (dspL (consM (getv 0) (pure []))) (pure (.int 2))) (pure []))))) 3 (dParts 25))))
structure fineR (r : Rule) : Prop where
  g : goodR r
  d : depR r ≤ 20
  s : setsR r ≤ 12
  n : nodR r ≤ 40
theorem rule_tup (r : Rule) : ∃ ds, ruleD r = .tup ds := by cases r <;> exact ⟨_, rfl⟩
theorem rule_right {r : Rule} (h : fineR r) {Q : Fl → Ev → Prop} {E : Str → List D → Ev → Prop} (hQ : ∀ ρ', Q (.rt (.bl true)) ρ') : wp dRuleRight Q E [.va (ruleD r), .un, .un, .un, .un] := by
  have hd := h.d
  have hs := h.s
  have hn := h.n
  have lo := ruleL_okc h.g
  have ll := ruleL_len h.g
  obtain ⟨R, s1, z1⟩ := shw_rule h.g
  have r1 : one reprL [ruleD r] = some (.str (TS R)) := by
    obtain ⟨ds, e⟩ := rule_tup r
    rw [e] at s1 ⊢
    exact reprT_of s1 (by omega) (by unfold sizeLine; omega)
  have s2 : Shw (.lst [ruleD r, ruleD r]) (depR r + 2 + 1) (listL [R, R]) := Shw.lst (.cons s1 (.cons s1 .nil))
  have z2 : (listL [R, R]).length ≤ 200000 := by
    have := listL_len (m := 50000) (ls := [R, R]) fun y hy => by
      simp at hy
      rw [hy]
      omega
    simp at this
    omega
  have r2 : one reprL [.lst [ruleD r, ruleD r]] = some (.str (TS (listL [R, R]))) := reprL_of s2 (by omega) (by unfold sizeLine; omega)
  have rd : ∀ {Q : Fl → Ev → Prop} {E : Str → List D → Ev → Prop}, (∀ ρ', Q (.rt (ruleD r)) ρ') → wp dCond Q E [.va (.str (TS (ruleL r))), .un, .un] := fun {Q E} hq =>
    cond_wp lo (by unfold sizeLine; omega) (by rw [rdCond_rule h.g hd hs]; exact hq)
  have ws : ∀ {Q : Fl → Ev → Prop} {E : Str → List D → Ev → Prop}, (∀ ρ', Q (.rt (.str (TS (ruleL r)))) ρ') → wp (dWcond 25) Q E [.va (ruleD r), .un] := fun {Q E} hq => wcond_wp 25 h.g (by omega) (by omega) hq
  generalize hR2 : listL [R, R] = R2 at *
  have rep2 : ∀ {d : D} {Q : D → Ev → Prop} {E : Str → List D → Ev → Prop} {i : Nat} {ρ : Ev}, ρ[i]? = some (.va d) → Q (.lst [d, d]) ρ → wp (repM (dspL (consM (getv i) (pure []))) (pure (.int 2))) Q E ρ := fun {d Q E i ρ} hi hq => by
    rw [wp_rep, wp_dsp, wp_cons, wp_getv hi, wp_pure]
    refine ⟨by show (1 : Nat) ≤ _; unfold sizeLine; decide, ?_⟩
    rw [wp_pure, show D.int 2 = .int ((2 : Nat) : Int) from rfl, wp_repGo (by simp) (by decide)]
    exact hq
  unfold dRuleRight
  rw [wp_seq, wp_par2, wp_vaM, wp_callM, wp_cons, wp_getv rfl, wp_pure, r1, wp_some, wp_vaM, wp_callG, wp_cons, wp_getv rfl, wp_pure]
  refine wp_callF rfl (rline_wp 25 h.g (by omega) (by omega) fun ρ' => ⟨_, .inl rfl, ?_⟩)
  refine ⟨by simp, by simp, ?_⟩
  simp only [List.set_cons_succ, List.set_cons_zero]
  rw [wp_seq, wp_iteM, wp_orM, wp_tst, wp_op2, wp_lstM, wp_cons, wp_callG, wp_cons, wp_getv rfl, wp_pure]
  refine wp_callF rfl (ws fun ρ' => ⟨_, .inl rfl, ?_⟩)
  rw [wp_cons, wp_callG, wp_cons, wp_getv rfl, wp_pure]
  refine wp_callF rfl (ws fun ρ' => ⟨_, .inl rfl, ?_⟩)
  rw [wp_pure]
  refine ⟨by show (2 : Nat) ≤ _; unfold sizeLine; decide, ?_⟩
  refine rep2 rfl ?_
  rw [show D.lst [D.str (TS (ruleL r)), D.str (TS (ruleL r))] = wsD [ruleL r, ruleL r] from rfl, neD_wsD (fun w hw => by simp at hw; rw [hw]; exact lo), wp_some]
  simp only [Bool.false_eq_true, if_false]
  rw [wp_tst, wp_op2, wp_callM, wp_cons, wp_getv rfl, wp_pure, r1, wp_some, wp_getv rfl, neD_str s1.ok s1.ok, wp_some]
  simp only [ne_eq, not_true_eq_false, decide_false, Bool.false_eq_true, if_false]
  rw [wp_pure]
  simp only []
  have hm : mask [.va (ruleD r), .va (.str (TS R)), .va (.str (TS (ruleL r))), .un, .un] = [.un, .va (.str (TS R)), .va (.str (TS (ruleL r))), .un, .un] := by
    obtain ⟨ds, e⟩ := rule_tup r
    rw [e]
    rfl
  have one : wp (callG 3 1 dCond (consM (getv 2) (pure []))) (fun d _ => d = ruleD r) (fun _ _ _ => False) (mask [.va (ruleD r), .va (.str (TS R)), .va (.str (TS (ruleL r))), .un, .un]) := by
    rw [hm, wp_callG, wp_cons, wp_getv rfl, wp_pure]
    exact wp_callF rfl (rd fun ρ' => ⟨_, .inl rfl, rfl⟩)
  refine wp_fresh (d0 := ruleD r) (d1 := ruleD r) (by rfl) (by simp) (by simp) one one ?_ ?_ ?_
  · simp only [List.set_cons_succ, List.set_cons_zero]
    rw [wp_tst, wp_op2, wp_callM, wp_cons, wp_getv rfl, wp_pure, r2, wp_some, wp_callM, wp_cons]
    refine rep2 rfl ?_
    rw [wp_pure, r2, wp_some, neD_str s2.ok s2.ok, wp_some]
    simp
  · refine parts_wp 25 h.g (by omega) (by omega) fun ρ' => ⟨_, rfl, ?_⟩
    unfold partsOk
    rw [parts_part h.g, parts_len, decide_eq_true (by omega)]
    rfl
  · simp only [List.set_cons_succ, List.set_cons_zero]
    rw [wp_retM, wp_op2, wp_callM, wp_cons, wp_lstM, wp_cons, wp_tix rfl, wp_cons, wp_callG, wp_cons, wp_getv rfl, wp_pure]
    refine wp_callF rfl (rd fun ρ' => ⟨_, .inl rfl, ?_⟩)
    rw [wp_pure]
    refine ⟨by show (2 : Nat) ≤ _; unfold sizeLine; decide, ?_⟩
    rw [wp_pure, r2, wp_some, wp_callM, wp_cons]
    refine rep2 rfl ?_
    rw [wp_pure, r2, wp_some, eqD_str s2.ok s2.ok, decide_eq_true rfl, wp_some]
    exact hQ _
noncomputable def dCplace : M Fl := (tryP 1 "InvalidText" (retM (op2 eqD (callG 3 1 dCond (consM (getv 0) (pure []))) (lstM (pure [])))))
theorem cplace_wp {a : List Nat} (hok : okc a) (hz : a.length ≤ 100000) {k : Nat} (hr : rdCond a = .error k) {Q : Fl → Ev → Prop} {E : Str → List D → Ev → Prop} (hQ : ∀ ρ', Q (.rt (.int k)) ρ') : wp dCplace Q E [.va (.str (TS a)), .un] := by
  have key : wp (retM (op2 eqD (callG 3 1 dCond (consM (getv 0) (pure []))) (lstM (pure [])))) (fun _ _ => False) (fun c l ρ' => c = "InvalidText" ∧ l = [.int k] ∧ ρ' = [.va (.str (TS a)), .un]) [.va (.str (TS a)), .un] := by
    rw [wp_retM, wp_op2, wp_callG, wp_cons, wp_getv rfl, wp_pure]
    refine wp_callF rfl (cond_wp hok (by unfold sizeLine; omega) ?_)
    rw [hr]
    exact fun ρ' => ⟨rfl, rfl, rfl⟩
  unfold wp at key
  unfold dCplace
  cases e : retM (op2 eqD (callG 3 1 dCond (consM (getv 0) (pure []))) (lstM (pure []))) [.va (.str (TS a)), .un] with
  | no => rw [e] at key; exact key.elim
  | ok r ρ' => rw [e] at key; exact key.elim
  | ex c l ρ' =>
    rw [e] at key
    obtain ⟨rfl, rfl, rfl⟩ := key
    refine wp_of (b := .rt (.int k)) (ρ' := [.va (.str (TS a)), .un]) ?_ (hQ _)
    unfold tryP
    rw [e]
    rfl
theorem wp_setS {i : Nat} {s : Slot} {Q : Unit → Ev → Prop} {E : Str → List D → Ev → Prop} {ρ : Ev} : wp (setS i s) Q E ρ = (i < ρ.length ∧ Q () (ρ.set i s)) := by
  unfold wp setS
  by_cases h : i < ρ.length
  · rw [if_pos h]; simp [h]
  · rw [if_neg h]; simp [h]
theorem wp_par3 {i j l : Nat} {f g h : M Slot} {Q : Fl → Ev → Prop} {E : Str → List D → Ev → Prop} {ρ : Ev} : wp (par3M i j l f g h) Q E ρ = wp f (fun s => wp g (fun t => wp h (fun u ρ' => i < ρ'.length ∧ j < ρ'.length ∧ l < ρ'.length ∧ Q .nx (((ρ'.set i s).set j t).set l u)) E) E) E ρ := by
  unfold par3M
  rw [wp_bind]
  congr 1
  funext s ρ1
  rw [wp_bind]
  congr 1
  funext t ρ2
  rw [wp_bind]
  congr 1
  funext u ρ3
  rw [wp_bind, wp_setS, wp_bind, wp_setS, wp_bind, wp_setS, wp_pure, List.length_set, List.length_set, List.length_set]
theorem wp_andV {a b : M D} {Q : D → Ev → Prop} {E : Str → List D → Ev → Prop} {ρ : Ev} : wp (andV a b) Q E ρ = wp a (fun x ρ' => match x with
    | .bl true => wp b Q E ρ'
    | .bl false => Q (.bl false) ρ'
    | _ => False) E ρ := by
  unfold andV
  rw [wp_bind]
  congr 1
  funext x ρ'
  cases x <;> try simp only [wp_no]
  rename_i b
  cases b <;> simp only [wp_pure]
end Pd

set_option maxHeartbeats 0
namespace K82
open PySem PySem.Spec PyProof.Rows L2 Pd
def top (i : Nat) : Stmt := PySem.Challenge.pw_scanranges_k82_orders_and_conditions_wri.main.body.getD i (.Pass ⟨0, 0, 0, 0⟩)
def inCls (st : Stmt) (j : Nat) : Stmt := match st with
  | .ClassDef (body := b) .. => b.getD j (.Pass ⟨0, 0, 0, 0⟩)
  | _ => .Pass ⟨0, 0, 0, 0⟩
def exN : List Str := ["ScanError", "InvalidText"]
def clN : List Str := ["ConditionReader"]
def Cc (K : PySem.W.Frag) : Pd.Ct := ⟨K, fun c => if c ∈ exN then some (He.ga K c) else if c ∈ clN then some (He.ga K c) else none, fun c => if c = "ConditionReader" then ["words_to_read", "next_place", "sets_read"] else []⟩
theorem flds_ConditionReader (K : PySem.W.Frag) : (Cc K).flds "ConditionReader" = (["words_to_read", "next_place", "sets_read"] : List Str) := by
  show (if ("ConditionReader" : Str) = "ConditionReader" then ["words_to_read", "next_place", "sets_read"] else [] : List Str) = _
  exact if_pos rfl
theorem cls_ConditionReader (K : PySem.W.Frag) : (Cc K).cls "ConditionReader" = some (He.ga K "ConditionReader") := by
  show (if ("ConditionReader" : Str) ∈ exN then some (He.ga K "ConditionReader") else if ("ConditionReader" : Str) ∈ clN then some (He.ga K "ConditionReader") else none) = _
  rw [if_neg (by decide), if_pos (by decide)]
def fConditionReader (K : PySem.W.Frag) : Addr := He.fAd K ("ConditionReader", some "__init__")
def sub (c' c : Str) : Option Bool := if c ∈ exN then some (c == c' || c' == "ScanError") else none
def subV (c : Str) : Option Bool := if c ∈ exN then some true else none
def fI (K : PySem.W.Frag) : Addr := He.fAd K ("InvalidText", some "__init__")
def kv_CONDITION_PARTS : List (Str × D) := [("not", .int 1), ("and", .int 2), ("or", .int 2)]
def kv_TEXT_SIGNS : List (Str × D) := [("+", .bl true), ("-", .bl false)]
def fct (K : PySem.W.Frag) : Bool := (noLB K) && (dctB K (He.ga K "CONDITION_PARTS") kv_CONDITION_PARTS) && (dctB K (He.ga K "TEXT_SIGNS") kv_TEXT_SIGNS) && (expB K (He.ga K "InvalidText") (fI K) && supB K (He.ga K "ScanError"))
structure Txt (w : World) (K : PySem.W.Frag) (mg : Str → Option Value) : Prop where
  n_abs : mg "abs" = none
  n_all : mg "all" = none
  n_enumerate : mg "enumerate" = none
  n_int : mg "int" = none
  n_len : mg "len" = none
  n_list : mg "list" = none
  n_max : mg "max" = none
  n_min : mg "min" = none
  n_range : mg "range" = none
  n_repr : mg "repr" = none
  n_str : mg "str" = none
  g_CONDITION_PARTS : mg "CONDITION_PARTS" = some (.ref (He.ga K "CONDITION_PARTS"))
  g_ConditionReader : mg "ConditionReader" = some (.ref (He.ga K "ConditionReader"))
  g_InvalidText : mg "InvalidText" = some (.ref (He.ga K "InvalidText"))
  g_ScanError : mg "ScanError" = some (.ref (He.ga K "ScanError"))
  g_TEXT_SIGNS : mg "TEXT_SIGNS" = some (.ref (He.ga K "TEXT_SIGNS"))
  x_InvalidText : ExP K (He.ga K "InvalidText") (fI K)
  u_ScanError : Sup K (He.ga K "ScanError") (.type "type")
  p_InvalidText : PySem.W.keepIn K (.ref (He.ga K "InvalidText")) = true
  l_no : ∀ H a xs, SqL (Cc K).K H a xs → Rd H a (.lst xs)
  d_CONDITION_PARTS : DctOk (Cc K) w (He.ga K "CONDITION_PARTS") kv_CONDITION_PARTS
  d_TEXT_SIGNS : DctOk (Cc K) w (He.ga K "TEXT_SIGNS") kv_TEXT_SIGNS
  o_ConditionReader : OwC (Cc K) "ConditionReader" (He.ga K "ConditionReader")
  w_ConditionReader : Mk K (He.ga K "ConditionReader") (fConditionReader K)
  a_ConditionReader_words_to_read : NoAttr K (He.ga K "ConditionReader") "words_to_read"
  a_ConditionReader_next_place : NoAttr K (He.ga K "ConditionReader") "next_place"
  a_ConditionReader_sets_read : NoAttr K (He.ga K "ConditionReader") "sets_read"
  c_EMPTY_SET_TEXT : ∃ t, mg "EMPTY_SET_TEXT" = some (.str "-" t)
  c_MOST_TEXT_FIGURES : ∃ t, mg "MOST_TEXT_FIGURES" = some (.int 60 t)
  c_MOST_TEXT_LEVELS : ∃ t, mg "MOST_TEXT_LEVELS" = some (.int 20 t)
  c_MOST_TEXT_SETS : ∃ t, mg "MOST_TEXT_SETS" = some (.int 12 t)
  c_MOST_TEXT_STRETCHES : ∃ t, mg "MOST_TEXT_STRETCHES" = some (.int 12 t)
  c_TEXT_COLUMNS : ∃ t, mg "TEXT_COLUMNS" = some (.str "01234567" t)
  c_TEXT_FIGURES : ∃ t, mg "TEXT_FIGURES" = some (.str "0123456789" t)
  c_TEXT_VALUES : ∃ t, mg "TEXT_VALUES" = some (.int 1000000000000000000000000000000 t)
theorem cls_of {K : PySem.W.Frag} {c : Str} (h : c ∈ exN) : (Cc K).cls c = some (He.ga K c) := if_pos h
theorem Txt.k_InvalidText {w : World} {K : PySem.W.Frag} {mg : Str → Option Value} (_ : Txt w K mg) : (Cc K).cls "InvalidText" = some (He.ga K "InvalidText") := cls_of (by decide)
theorem Txt.i_InvalidText {w : World} {K : PySem.W.Frag} {mg : Str → Option Value} (_ : Txt w K mg) : ∀ a, (Cc K).cls "InvalidText" = some a → a = He.ga K "InvalidText" := fun a e => by
  rw [cls_of (by decide)] at e
  exact (Option.some.inj e).symm
theorem Txt.f_ConditionReader_words_to_read {w : World} {K : PySem.W.Frag} {mg : Str → Option Value} (_ : Txt w K mg) : ((Cc K).flds "ConditionReader")[0]? = some ("words_to_read" : Str) := by rw [flds_ConditionReader]; rfl
theorem Txt.f_ConditionReader_next_place {w : World} {K : PySem.W.Frag} {mg : Str → Option Value} (_ : Txt w K mg) : ((Cc K).flds "ConditionReader")[1]? = some ("next_place" : Str) := by rw [flds_ConditionReader]; rfl
theorem Txt.f_ConditionReader_sets_read {w : World} {K : PySem.W.Frag} {mg : Str → Option Value} (_ : Txt w K mg) : ((Cc K).flds "ConditionReader")[2]? = some ("sets_read" : Str) := by rw [flds_ConditionReader]; rfl
theorem Txt.z_ConditionReader_read_simple {w : World} {K : PySem.W.Frag} {mg : Str → Option Value} (_ : Txt w K mg) : ("read_simple" : Str) ∉ (Cc K).flds "ConditionReader" := by rw [flds_ConditionReader]; decide
theorem Txt.z_ConditionReader_read_part {w : World} {K : PySem.W.Frag} {mg : Str → Option Value} (_ : Txt w K mg) : ("read_part" : Str) ∉ (Cc K).flds "ConditionReader" := by rw [flds_ConditionReader]; decide
theorem Txt.l_ConditionReader {w : World} {K : PySem.W.Frag} {mg : Str → Option Value} (_ : Txt w K mg) : ((Cc K).flds "ConditionReader").length = 3 := by rw [flds_ConditionReader]; rfl
def fa : List He.Fa := [.free "abs", .free "all", .free "enumerate", .free "int", .free "len", .free "list", .free "max", .free "min", .free "range", .free "repr", .free "str", .glo "CONDITION_PARTS", .glo "ConditionReader", .glo "InvalidText", .glo "ScanError", .glo "TEXT_SIGNS", .glo "figures_in", .glo "stretch_in", .glo "write_set", .glo "read_set", .glo "write_order", .glo "read_order", .glo "write_condition", .glo "read_condition", .glo "_law_flask", .glo "_law_drip", .glo "_law_parts", .glo "_law_lane", .glo "_law_set_line", .glo "_law_rule_line", .glo "_law_far_spans", .glo "_law_lane_line", .glo "_law_lane_right", .glo "_law_rule_right", .glo "_law_any", .glo "_law_place", .glo "law", .str "EMPTY_SET_TEXT" "-", .int "MOST_TEXT_FIGURES" (60), .int "MOST_TEXT_LEVELS" (20), .int "MOST_TEXT_SETS" (12), .int "MOST_TEXT_STRETCHES" (12), .str "TEXT_COLUMNS" "01234567", .str "TEXT_FIGURES" "0123456789", .int "TEXT_VALUES" (1000000000000000000000000000000), .cls "ConditionReader", .mkr "ConditionReader", .noat "ConditionReader" "words_to_read", .noat "ConditionReader" "next_place", .noat "ConditionReader" "sets_read", .meth "ConditionReader" "read_simple", .meth "ConditionReader" "read_part", .keep "InvalidText"]
abbrev s_init : Stmt := inCls (top 2) 0
/-! ### figures_in -/
abbrev s_figures_in : Stmt := top 14
noncomputable def d_figures_in : M Fl := (seqM (iteM (Pd.orM (Pd.notM (tst (chnM leD leD (pure (.int 1)) (callM (one lenD) (consM (getv 0) (pure []))) (pure (.int 60))))) (Pd.notM (tst (callM (one allD) (consM (ltM (lcM (iS (getv 0)) (setv 1) (pure true) (op2 inD (getv 1) (pure (.str "0123456789"))) [1])) (pure [])))))) (retM (pure .non)) (pure .nx)) (retM (iteM (Pd.orM (tst (op2 eqD (getv 0) (pure (.str "0")))) (tst (op2 neD (op2 ixD (getv 0) (pure (.int 0))) (pure (.str "0"))))) (callM (one toInt) (consM (getv 0) (pure []))) (pure .non))))
theorem sc_figures_in : FnScope ["word", "figure"] ["word"] (defScope s_figures_in) := ⟨rfl, rfl, rfl, by decide +kernel, rfl, by decide +kernel, by decide +kernel⟩
theorem ok_figures_in {P : Program} {w : World} {K : PySem.W.Frag} {mg : Str → Option Value} {base : Heap} {fd : FuncData} (T : Txt w K mg)
    (hm : mg "figures_in" = some (.ref (He.ga K "figures_in"))) (F : FunD K "figures_in" "figures_in" (defArgs s_figures_in) (defBody s_figures_in) (defScope s_figures_in) [] [] (He.ga K "figures_in") fd) :
    Hs (Cc K) P w mg base "figures_in" (He.ga K "figures_in") 1 ["word"] 2 1 d_figures_in := by
    refine hs_of (C := Cc K) (N := ["word", "figure"]) F sc_figures_in hm (fun _ _ _ _ _ _ us hl => match us, hl with | [_], _ => rfl) (fun _ _ _ _ _ _ us hl => match us, hl with | [_], _ => rfl) fun cdv A outer s H E hr => ?_
    have nd := sc_figures_in.nd
    have po := passes_of (X := cxOf (L2.CX P w) P w K mg base ["word", "figure"] "figures_in" (defScope s_figures_in) (He.ga K "figures_in") cdv A outer s H E) rfl
    have tk := takes_of (X := cxOf (L2.CX P w) P w K mg base ["word", "figure"] "figures_in" (defScope s_figures_in) (He.ga K "figures_in") cdv A outer s H E) rfl rfl rfl rfl
    exact (pds_cons (pds_if (PW.pt (pd_or (pd_not (pd_tchn op_le ok_le op_le ok_le pd_int (pd_callB call_len ok_len rfl T.n_len (by rfl) (pd_cons (pd_var 0) pd_nil)) (pd_gint T.c_MOST_TEXT_FIGURES))) (pd_or1 (pd_not (pd_test (pd_callB (cr_all rfl) ok_all rfl T.n_all (by rfl) (pd_cons (pd_of_l (pl_lc (own := [("figure", 1)]) rfl nd (pd_istr (pd_var 0)) (blkOk_by (N := ["word", "figure"]) (sc := defScope s_figures_in) (by decide +kernel)) (fun _ _ _ _ _ => (pd_gname 1 nd rfl (by first | exact Or.inl rfl | exact Or.inr rfl))) (fun _ _ _ _ _ => pd_yes) (fun _ _ _ _ _ => (pd_cmp (or_in (u65 hr)) ok_in (pd_var 1) (pd_gstr T.c_TEXT_FIGURES) (by rfl))))) pd_nil))))))) (pds_one (pds_ret pd_non)) pds_nil) (pds_one (pds_ret (pd_if (PW.pt (pd_or (pd_tcmp (op_eqD (u64 hr)) ok_eq (pd_var 0) pd_str (nomark _)) (pd_or1 (pd_tcmp (op_neD (u64 hr)) ok_ne (pd_ix rfl (pd_var 0) pd_int) pd_str (nomark _))))) (pd_callTy call_intA ok_toInt rfl T.n_int (by rfl) (pd_cons (pd_var 0) pd_nil)) pd_non))))
/-! ### stretch_in -/
abbrev s_stretch_in : Stmt := top 15
noncomputable def d_stretch_in : M Fl := (seqM (asgM (m1M partitionD (getv 0) (pure (.str "-"))) (gtup (gcons (setv 2) (gcons (setv 3) (gcons (setv 4) gnil))))) (seqM (letM 5 (vaM (callX 2 1 d_figures_in (consM (getv 2) (pure []))))) (seqM (letM 6 (vaM (iteM (tst (op2 eqD (getv 3) (pure (.str "-")))) (callX 2 1 d_figures_in (consM (getv 4) (pure []))) (getv 5)))) (seqM (iteM (Pd.orM (tst (op2 isND (getv 5) (pure .non))) (Pd.orM (tst (op2 isND (getv 6) (pure .non))) (Pd.orM (tst (op2 geD (getv 6) (pure (.int 1000000000000000000000000000000)))) (Pd.andM (tst (op2 eqD (getv 3) (pure (.str "-")))) (tst (op2 geD (getv 5) (getv 6))))))) (retM (pure .non)) (pure .nx)) (retM (iteM (Pd.orM (tst (op2 isND (getv 1) (pure .non))) (tst (op2 gtD (getv 5) (op2 addD (getv 1) (pure (.int 1)))))) (tupM (consM (getv 5) (consM (getv 6) (pure [])))) (pure .non)))))))
theorem sc_stretch_in : FnScope ["word", "before", "first_word", "mark", "last_word", "first", "last"] ["word", "before"] (defScope s_stretch_in) := ⟨rfl, rfl, rfl, by decide +kernel, rfl, by decide +kernel, by decide +kernel⟩
theorem ok_stretch_in {P : Program} {w : World} {K : PySem.W.Frag} {mg : Str → Option Value} {base : Heap} {fd : FuncData} (T : Txt w K mg) (Hfigures_in : Hs (Cc K) P w mg base "figures_in" (He.ga K "figures_in") 1 ["word"] 2 1 d_figures_in)
    (hm : mg "stretch_in" = some (.ref (He.ga K "stretch_in"))) (F : FunD K "stretch_in" "stretch_in" (defArgs s_stretch_in) (defBody s_stretch_in) (defScope s_stretch_in) [] [] (He.ga K "stretch_in") fd) :
    Hs (Cc K) P w mg base "stretch_in" (He.ga K "stretch_in") 2 ["word", "before"] 7 2 d_stretch_in := by
    refine hs_of (C := Cc K) (N := ["word", "before", "first_word", "mark", "last_word", "first", "last"]) F sc_stretch_in hm (fun _ _ _ _ _ _ us hl => match us, hl with | [_, _], _ => rfl) (fun _ _ _ _ _ _ us hl => match us, hl with | [_, _], _ => rfl) fun cdv A outer s H E hr => ?_
    have nd := sc_stretch_in.nd
    have po := passes_of (X := cxOf (L2.CX P w) P w K mg base ["word", "before", "first_word", "mark", "last_word", "first", "last"] "stretch_in" (defScope s_stretch_in) (He.ga K "stretch_in") cdv A outer s H E) rfl
    have tk := takes_of (X := cxOf (L2.CX P w) P w K mg base ["word", "before", "first_word", "mark", "last_word", "first", "last"] "stretch_in" (defScope s_stretch_in) (He.ga K "stretch_in") cdv A outer s H E) rfl rfl rfl rfl
    exact (pds_cons (pds_asg (pd_partition (pd_var 0) pd_str) (pd_gtup rfl rfl (pd_gcons (pd_gname 2 nd rfl (by first | exact Or.inl rfl | exact Or.inr rfl)) (pd_gcons (pd_gname 3 nd rfl (by first | exact Or.inl rfl | exact Or.inr rfl)) (pd_gcons (pd_gname 4 nd rfl (by first | exact Or.inl rfl | exact Or.inr rfl)) pd_gnil))) (gcons_len' (gcons_len' (gcons_len' gnil_len))))) (pds_cons (pds_let 5 nd (px_va (pd_callHX rfl Hfigures_in hr (pd_cons (pd_var 2) pd_nil)))) (pds_cons (pds_let 6 nd (px_va (pd_if (pd_tcmp (op_eqD (u64 hr)) ok_eq (pd_var 3) pd_str (nomark _)) (pd_callHX rfl Hfigures_in hr (pd_cons (pd_var 4) pd_nil)) (pd_var 5)))) (pds_cons (pds_if (PW.pt (pd_or (pd_tcmp op_isN ok_isN (pd_var 5) pd_non (nomark _)) (pd_or (pd_tcmp op_isN ok_isN (pd_var 6) pd_non (nomark _)) (pd_or (pd_tcmp op_ge ok_ge (pd_var 6) (pd_gint T.c_TEXT_VALUES) (nomark _)) (pd_or1 (PW.pt (pd_and (pd_tcmp (op_eqD (u64 hr)) ok_eq (pd_var 3) pd_str (nomark _)) (pd_and1 (pd_tcmp op_ge ok_ge (pd_var 5) (pd_var 6) (nomark _)))))))))) (pds_one (pds_ret pd_non)) pds_nil) (pds_one (pds_ret (pd_if (PW.pt (pd_or (pd_tcmp op_isN ok_isN (pd_var 1) pd_non (nomark _)) (pd_or1 (pd_tcmp op_gt ok_gt (pd_var 5) (pd_add rfl (pd_var 1) pd_int) (nomark _))))) (pd_tup (pd_cons (pd_var 5) (pd_cons (pd_var 6) pd_nil))) pd_non)))))))
/-! ### write_set -/
abbrev s_write_set : Stmt := top 16
noncomputable def d_write_set : M Fl := (seqM (letM 1 (lsM (lcM (iL (getv 0)) (gtup (gcons (setv 2) (gcons (setv 3) gnil))) (pure true) (iteM (tst (op2 ltD (getv 2) (getv 3))) (joinedM [(unD fmtD (getv 2)), (pure (.str "-")), (unD fmtD (getv 3))] Str.empty) (callM (one toStr) (consM (getv 2) (pure [])))) [2, 3]))) (retM (iteM (tst (op2 neD (getv 1) (lstM (pure [])))) (m1M joinD (pure (.str ",")) (getv 1)) (pure (.str "-")))))
theorem sc_write_set : FnScope ["stretches", "words", "first", "last"] ["stretches"] (defScope s_write_set) := ⟨rfl, rfl, rfl, by decide +kernel, rfl, by decide +kernel, by decide +kernel⟩
theorem ok_write_set {P : Program} {w : World} {K : PySem.W.Frag} {mg : Str → Option Value} {base : Heap} {fd : FuncData} (T : Txt w K mg)
    (hm : mg "write_set" = some (.ref (He.ga K "write_set"))) (F : FunD K "write_set" "write_set" (defArgs s_write_set) (defBody s_write_set) (defScope s_write_set) [] [] (He.ga K "write_set") fd) :
    Hs (Cc K) P w mg base "write_set" (He.ga K "write_set") 1 ["stretches"] 4 1 d_write_set := by
    refine hs_of (C := Cc K) (N := ["stretches", "words", "first", "last"]) F sc_write_set hm (fun _ _ _ _ _ _ us hl => match us, hl with | [_], _ => rfl) (fun _ _ _ _ _ _ us hl => match us, hl with | [_], _ => rfl) fun cdv A outer s H E hr => ?_
    have nd := sc_write_set.nd
    have po := passes_of (X := cxOf (L2.CX P w) P w K mg base ["stretches", "words", "first", "last"] "write_set" (defScope s_write_set) (He.ga K "write_set") cdv A outer s H E) rfl
    have tk := takes_of (X := cxOf (L2.CX P w) P w K mg base ["stretches", "words", "first", "last"] "write_set" (defScope s_write_set) (He.ga K "write_set") cdv A outer s H E) rfl rfl rfl rfl
    exact (pds_cons (pds_setLc 1 [("first", 2), ("last", 3)] (by decide) rfl nd (sw_true rfl rfl rfl rfl) (pd_ilist rfl (pd_var 0)) (blkOk_by (N := ["stretches", "words", "first", "last"]) (sc := defScope s_write_set) (by decide +kernel)) (fun _ _ _ _ _ => (pd_gtup rfl rfl (pd_gcons (pd_gname 2 nd rfl (by first | exact Or.inl rfl | exact Or.inr rfl)) (pd_gcons (pd_gname 3 nd rfl (by first | exact Or.inl rfl | exact Or.inr rfl)) pd_gnil)) (gcons_len' (gcons_len' gnil_len)))) (fun _ _ _ _ _ => pd_yes) (fun _ _ _ _ _ => (pd_if (pd_tcmp op_lt ok_lt (pd_var 2) (pd_var 3) (nomark _)) (pd_joined (fs := [(unD fmtD (getv 2)), (pure (.str "-")), (unD fmtD (getv 3))]) (pdj_cons (pd_fmt (pd_var 2)) (pdj_cons pd_str (pdj_cons (pd_fmt (pd_var 3)) pdj_nil)))) (pd_callTy call_str_int ok_toStr rfl T.n_str (by rfl) (pd_cons (pd_var 2) pd_nil))))) (pds_one (pds_ret (pd_if (pd_tcmp (op_neD (u64 hr)) ok_ne (pd_var 1) (pd_lst pd_nil) (nomark _)) (pd_join rfl pd_str (pd_var 1)) (pd_gstr T.c_EMPTY_SET_TEXT)))))
/-! ### read_set -/
abbrev s_read_set : Stmt := top 17
noncomputable def d_read_set : M Fl := (seqM (letM 1 (vaM (m1M splitD (getv 0) (pure (.str ","))))) (seqM (iteM (tst (op2 eqD (op2 ixD (getv 1) (pure (.int 0))) (pure (.str "-")))) (seqM (iteM (tst (op2 gtD (callM (one lenD) (consM (getv 1) (pure []))) (pure (.int 1)))) (mkM "InvalidText" (pure (.int 1))) (pure .nx)) (retoM (dspL (pure [])))) (pure .nx)) (seqM (par2M 2 3 (lsM (dspL (pure []))) (vaM (pure .non))) (seqM (forM (iEn (consM (getv 1) (pure []))) (gtup (gcons (setv 4) (gcons (setv 5) gnil))) (seqM (letM 6 (vaM (callX 7 2 d_stretch_in (consM (getv 5) (consM (getv 3) (pure [])))))) (seqM (iteM (Pd.orM (tst (op2 isND (getv 6) (pure .non))) (tst (op2 eqD (getv 4) (pure (.int 12))))) (mkM "InvalidText" (getv 4)) (pure .nx)) (seqM (dropM (owM 2 apD (consM (getv 6) (pure [])))) (letM 3 (vaM (op2 ixD (getv 6) (pure (.int 1))))))))) (rovM 2)))))
theorem sc_read_set : FnScope ["text", "words", "found", "before", "place", "word", "stretch"] ["text"] (defScope s_read_set) := ⟨rfl, rfl, rfl, by decide +kernel, rfl, by decide +kernel, by decide +kernel⟩
theorem ok_read_set {P : Program} {w : World} {K : PySem.W.Frag} {mg : Str → Option Value} {base : Heap} {fd : FuncData} (T : Txt w K mg) (Hstretch_in : Hs (Cc K) P w mg base "stretch_in" (He.ga K "stretch_in") 2 ["word", "before"] 7 2 d_stretch_in) {fdI : FuncData} (HI : FnOk P w K mg base (L2.CX P w) 1 (fI K) fdI ["self", "place"] (spPlace K)) (HIb : Binds K fdI ["self", "place"] [])
    (hm : mg "read_set" = some (.ref (He.ga K "read_set"))) (F : FunD K "read_set" "read_set" (defArgs s_read_set) (defBody s_read_set) (defScope s_read_set) [] [] (He.ga K "read_set") fd) :
    Hs (Cc K) P w mg base "read_set" (He.ga K "read_set") 3 ["text"] 7 1 d_read_set := by
    refine hs_of (C := Cc K) (N := ["text", "words", "found", "before", "place", "word", "stretch"]) F sc_read_set hm (fun _ _ _ _ _ _ us hl => match us, hl with | [_], _ => rfl) (fun _ _ _ _ _ _ us hl => match us, hl with | [_], _ => rfl) fun cdv A outer s H E hr => ?_
    have nd := sc_read_set.nd
    have po := passes_of (X := cxOf (L2.CX P w) P w K mg base ["text", "words", "found", "before", "place", "word", "stretch"] "read_set" (defScope s_read_set) (He.ga K "read_set") cdv A outer s H E) rfl
    have tk := takes_of (X := cxOf (L2.CX P w) P w K mg base ["text", "words", "found", "before", "place", "word", "stretch"] "read_set" (defScope s_read_set) (He.ga K "read_set") cdv A outer s H E) rfl rfl rfl rfl
    exact (pds_cons (pds_let 1 nd (px_va (pd_split (pd_var 0) pd_str))) (pds_cons (pds_if (pd_tcmp (op_eqD (u64 hr)) ok_eq (pd_ix rfl (pd_var 1) pd_int) (pd_gstr T.c_EMPTY_SET_TEXT) (nomark _)) (pds_cons (pds_if (pd_tcmp op_gt ok_gt (pd_callB call_len ok_len rfl T.n_len (by rfl) (pd_cons (pd_var 1) pd_nil)) pd_int (nomark _)) (pds_one (pds_raise rfl rfl T.x_InvalidText T.k_InvalidText HI (hr.mono (by first | decide | omega)) HIb tk T.g_InvalidText pd_int)) pds_nil) (pds_one (pds_reto (pl_lst pd_nil)))) pds_nil) (pds_cons (pds_par2 2 3 rfl nd (by decide) (px_ls (pl_lst pd_nil)) (px_va pd_non)) (pds_cons (pds_for po rfl (pd_ienum rfl rfl T.n_enumerate (pd_cons (pd_var 1) pd_nil)) (pd_gtup rfl rfl (pd_gcons (pd_gname 4 nd rfl (by first | exact Or.inl rfl | exact Or.inr rfl)) (pd_gcons (pd_gname 5 nd rfl (by first | exact Or.inl rfl | exact Or.inr rfl)) pd_gnil)) (gcons_len' (gcons_len' gnil_len))) (pds_cons (pds_let 6 nd (px_va (pd_callHX rfl Hstretch_in hr (pd_cons (pd_var 5) (pd_cons (pd_var 3) pd_nil))))) (pds_cons (pds_if (PW.pt (pd_or (pd_tcmp op_isN ok_isN (pd_var 6) pd_non (nomark _)) (pd_or1 (pd_tcmp (op_eqD (u64 hr)) ok_eq (pd_var 4) (pd_gint T.c_MOST_TEXT_STRETCHES) (nomark _))))) (pds_one (pds_raise rfl rfl T.x_InvalidText T.k_InvalidText HI (hr.mono (by first | decide | omega)) HIb tk T.g_InvalidText (pd_var 4))) pds_nil) (pds_cons (pds_expr (pd_append 2 rfl (pd_cons (pd_var 6) pd_nil))) (pds_one (pds_let 3 nd (px_va (pd_ix rfl (pd_var 6) pd_int)))))))) (pds_one (pds_rov 2))))))
/-! ### read_set (no context) -/
theorem okN_read_set {P : Program} {w : World} {K : PySem.W.Frag} {mg : Str → Option Value} {base : Heap} {fd : FuncData} (T : Txt w K mg) (Hstretch_in : Hs (Cc K) P w mg base "stretch_in" (He.ga K "stretch_in") 2 ["word", "before"] 7 2 d_stretch_in) {fdI : FuncData} (HI : FnOk P w K mg base (L2.CX P w) 1 (fI K) fdI ["self", "place"] (spPlace K)) (HIb : Binds K fdI ["self", "place"] [])
    (hm : mg "read_set" = some (.ref (He.ga K "read_set"))) (F : FunD K "read_set" "read_set" (defArgs s_read_set) (defBody s_read_set) (defScope s_read_set) [] [] (He.ga K "read_set") fd) :
    HsN (Cc K) P w mg base "read_set" (He.ga K "read_set") 3 ["text"] 7 1 d_read_set := by
    refine hsN_of (C := Cc K) (N := ["text", "words", "found", "before", "place", "word", "stretch"]) F sc_read_set hm (fun _ _ _ _ _ _ us hl => match us, hl with | [_], _ => rfl) fun cdv A outer s H E hr => ?_
    have nd := sc_read_set.nd
    have po := passes_of (X := cxOf (L2N.CX P w) P w K mg base ["text", "words", "found", "before", "place", "word", "stretch"] "read_set" (defScope s_read_set) (He.ga K "read_set") cdv A outer s H E) rfl
    have tk := L2N.takes_of (X := cxOf (L2N.CX P w) P w K mg base ["text", "words", "found", "before", "place", "word", "stretch"] "read_set" (defScope s_read_set) (He.ga K "read_set") cdv A outer s H E) rfl rfl rfl rfl
    exact (pds_cons (pds_let 1 nd (px_va (pd_split (pd_var 0) pd_str))) (pds_cons (pds_if (pd_tcmp (op_eqD (u64 hr)) ok_eq (pd_ix rfl (pd_var 1) pd_int) (pd_gstr T.c_EMPTY_SET_TEXT) (nomark _)) (pds_cons (pds_if (pd_tcmp op_gt ok_gt (pd_callB call_len ok_len rfl T.n_len (by rfl) (pd_cons (pd_var 1) pd_nil)) pd_int (nomark _)) (pds_one (pds_raiseN rfl rfl T.x_InvalidText T.k_InvalidText HI (hr.mono (by decide)) HIb tk T.g_InvalidText pd_int)) pds_nil) (pds_one (pds_reto (pl_lst pd_nil)))) pds_nil) (pds_cons (pds_par2 2 3 rfl nd (by decide) (px_ls (pl_lst pd_nil)) (px_va pd_non)) (pds_cons (pds_for po rfl (pd_ienum rfl rfl T.n_enumerate (pd_cons (pd_var 1) pd_nil)) (pd_gtup rfl rfl (pd_gcons (pd_gname 4 nd rfl (by first | exact Or.inl rfl | exact Or.inr rfl)) (pd_gcons (pd_gname 5 nd rfl (by first | exact Or.inl rfl | exact Or.inr rfl)) pd_gnil)) (gcons_len' (gcons_len' gnil_len))) (pds_cons (pds_let 6 nd (px_va (pd_callHX rfl Hstretch_in hr (pd_cons (pd_var 5) (pd_cons (pd_var 3) pd_nil))))) (pds_cons (pds_if (PW.pt (pd_or (pd_tcmp op_isN ok_isN (pd_var 6) pd_non (nomark _)) (pd_or1 (pd_tcmp (op_eqD (u64 hr)) ok_eq (pd_var 4) (pd_gint T.c_MOST_TEXT_STRETCHES) (nomark _))))) (pds_one (pds_raiseN rfl rfl T.x_InvalidText T.k_InvalidText HI (hr.mono (by decide)) HIb tk T.g_InvalidText (pd_var 4))) pds_nil) (pds_cons (pds_expr (pd_append 2 rfl (pd_cons (pd_var 6) pd_nil))) (pds_one (pds_let 3 nd (px_va (pd_ix rfl (pd_var 6) pd_int)))))))) (pds_one (pds_rov 2))))))
/-! ### write_order -/
abbrev s_write_order : Stmt := top 18
noncomputable def d_write_order : M Fl := (retM (m1M joinD (pure (.str " ")) (ltM (lcM (iL (getv 0)) (gtup (gcons (setv 1) (gcons (setv 2) gnil))) (pure true) (op2 addD (iteM (tst (getv 2)) (pure (.str "+")) (pure (.str "-"))) (callM (one toStr) (consM (getv 1) (pure [])))) [1, 2]))))
theorem sc_write_order : FnScope ["order", "column", "up"] ["order"] (defScope s_write_order) := ⟨rfl, rfl, rfl, by decide +kernel, rfl, by decide +kernel, by decide +kernel⟩
theorem ok_write_order {P : Program} {w : World} {K : PySem.W.Frag} {mg : Str → Option Value} {base : Heap} {fd : FuncData} (T : Txt w K mg)
    (hm : mg "write_order" = some (.ref (He.ga K "write_order"))) (F : FunD K "write_order" "write_order" (defArgs s_write_order) (defBody s_write_order) (defScope s_write_order) [] [] (He.ga K "write_order") fd) :
    Hs (Cc K) P w mg base "write_order" (He.ga K "write_order") 1 ["order"] 3 1 d_write_order := by
    refine hs_of (C := Cc K) (N := ["order", "column", "up"]) F sc_write_order hm (fun _ _ _ _ _ _ us hl => match us, hl with | [_], _ => rfl) (fun _ _ _ _ _ _ us hl => match us, hl with | [_], _ => rfl) fun cdv A outer s H E hr => ?_
    have nd := sc_write_order.nd
    have po := passes_of (X := cxOf (L2.CX P w) P w K mg base ["order", "column", "up"] "write_order" (defScope s_write_order) (He.ga K "write_order") cdv A outer s H E) rfl
    have tk := takes_of (X := cxOf (L2.CX P w) P w K mg base ["order", "column", "up"] "write_order" (defScope s_write_order) (He.ga K "write_order") cdv A outer s H E) rfl rfl rfl rfl
    exact (pds_one (pds_ret (pd_join rfl pd_str (pd_of_l (pl_lc (own := [("column", 1), ("up", 2)]) rfl nd (pd_ilist rfl (pd_var 0)) (blkOk_by (N := ["order", "column", "up"]) (sc := defScope s_write_order) (by decide +kernel)) (fun _ _ _ _ _ => (pd_gtup rfl rfl (pd_gcons (pd_gname 1 nd rfl (by first | exact Or.inl rfl | exact Or.inr rfl)) (pd_gcons (pd_gname 2 nd rfl (by first | exact Or.inl rfl | exact Or.inr rfl)) pd_gnil)) (gcons_len' (gcons_len' gnil_len)))) (fun _ _ _ _ _ => pd_yes) (fun _ _ _ _ _ => (pd_add rfl (pd_if (pd_test (pd_var 2)) pd_str pd_str) (pd_callTy call_str_int ok_toStr rfl T.n_str (by rfl) (pd_cons (pd_var 1) pd_nil)))))))))
/-! ### read_order -/
abbrev s_read_order : Stmt := top 19
noncomputable def d_read_order : M Fl := (seqM (par2M 1 2 (vaM (m1M splitD (getv 0) (pure (.str " ")))) (lsM (dspL (pure [])))) (seqM (forM (iEn (consM (getv 1) (pure []))) (gtup (gcons (setv 3) (gcons (setv 4) gnil))) (seqM (par2M 5 6 (vaM (sliceM (getv 4) (pure none) (partM (pure (.int 1))))) (vaM (sliceM (getv 4) (partM (pure (.int 1))) (pure none)))) (seqM (iteM (Pd.orM (tst (op2 neD (callM (one lenD) (consM (getv 4) (pure []))) (pure (.int 2)))) (Pd.orM (tst (dinM kv_TEXT_SIGNS true (getv 5))) (tst (op2 notInD (getv 6) (pure (.str "01234567")))))) (mkM "InvalidText" (getv 3)) (pure .nx)) (seqM (iteM (tst (peek (op2 inD (callM (one toInt) (consM (getv 6) (pure []))) (ltM (lcM (iL (getv 2)) (gtup (gcons (setv 7) (gcons (setv 8) gnil))) (pure true) (getv 7) [7, 8]))))) (mkM "InvalidText" (getv 3)) (pure .nx)) (dropM (owM 2 apD (consM (tupM (consM (callM (one toInt) (consM (getv 6) (pure []))) (consM (ditM kv_TEXT_SIGNS (getv 5)) (pure [])))) (pure [])))))))) (seqM (iteM (tst (peek (op2 geD (callM (one maxD) (consM (ltM (lcM (iL (getv 2)) (gtup (gcons (setv 7) (gcons (setv 8) gnil))) (pure true) (getv 7) [7, 8])) (pure []))) (lenv 2)))) (mkM "InvalidText" (callM (one lenD) (consM (getv 1) (pure [])))) (pure .nx)) (rovM 2))))
theorem sc_read_order : FnScope ["text", "words", "found", "place", "word", "sign", "figure", "column", "up"] ["text"] (defScope s_read_order) := ⟨rfl, rfl, rfl, by decide +kernel, rfl, by decide +kernel, by decide +kernel⟩
theorem ok_read_order {P : Program} {w : World} {K : PySem.W.Frag} {mg : Str → Option Value} {base : Heap} {fd : FuncData} (T : Txt w K mg) {fdI : FuncData} (HI : FnOk P w K mg base (L2.CX P w) 1 (fI K) fdI ["self", "place"] (spPlace K)) (HIb : Binds K fdI ["self", "place"] [])
    (hm : mg "read_order" = some (.ref (He.ga K "read_order"))) (F : FunD K "read_order" "read_order" (defArgs s_read_order) (defBody s_read_order) (defScope s_read_order) [] [] (He.ga K "read_order") fd) :
    Hs (Cc K) P w mg base "read_order" (He.ga K "read_order") 3 ["text"] 9 1 d_read_order := by
    refine hs_of (C := Cc K) (N := ["text", "words", "found", "place", "word", "sign", "figure", "column", "up"]) F sc_read_order hm (fun _ _ _ _ _ _ us hl => match us, hl with | [_], _ => rfl) (fun _ _ _ _ _ _ us hl => match us, hl with | [_], _ => rfl) fun cdv A outer s H E hr => ?_
    have nd := sc_read_order.nd
    have po := passes_of (X := cxOf (L2.CX P w) P w K mg base ["text", "words", "found", "place", "word", "sign", "figure", "column", "up"] "read_order" (defScope s_read_order) (He.ga K "read_order") cdv A outer s H E) rfl
    have tk := takes_of (X := cxOf (L2.CX P w) P w K mg base ["text", "words", "found", "place", "word", "sign", "figure", "column", "up"] "read_order" (defScope s_read_order) (He.ga K "read_order") cdv A outer s H E) rfl rfl rfl rfl
    exact (pds_cons (pds_par2 1 2 rfl nd (by decide) (px_va (pd_split (pd_var 0) pd_str)) (px_ls (pl_lst pd_nil))) (pds_cons (pds_for po rfl (pd_ienum rfl rfl T.n_enumerate (pd_cons (pd_var 1) pd_nil)) (pd_gtup rfl rfl (pd_gcons (pd_gname 3 nd rfl (by first | exact Or.inl rfl | exact Or.inr rfl)) (pd_gcons (pd_gname 4 nd rfl (by first | exact Or.inl rfl | exact Or.inr rfl)) pd_gnil)) (gcons_len' (gcons_len' gnil_len))) (pds_cons (pds_par2 5 6 rfl nd (by decide) (px_va (pd_slice rfl (pd_var 4) pd_pnone (pd_psome pd_int))) (px_va (pd_slice rfl (pd_var 4) (pd_psome pd_int) pd_pnone))) (pds_cons (pds_if (PW.pt (pd_or (pd_tcmp (op_neD (u64 hr)) ok_ne (pd_callB call_len ok_len rfl T.n_len (by rfl) (pd_cons (pd_var 4) pd_nil)) pd_int (nomark _)) (pd_or (pd_tdnotin rfl T.d_TEXT_SIGNS T.g_TEXT_SIGNS (pd_var 5)) (pd_or1 (pd_tcmp (or_notIn (u65 hr)) ok_notIn (pd_var 6) (pd_gstr T.c_TEXT_COLUMNS) (by rfl)))))) (pds_one (pds_raise rfl rfl T.x_InvalidText T.k_InvalidText HI (hr.mono (by first | decide | omega)) HIb tk T.g_InvalidText (pd_var 3))) pds_nil) (pds_cons (pds_if (pd_tpeek (pd_tcmp (or_in (u65 hr)) ok_in (pd_callTy call_intA ok_toInt rfl T.n_int (by rfl) (pd_cons (pd_var 6) pd_nil)) (pd_of_l (pl_lc (own := [("column", 7), ("up", 8)]) rfl nd (pd_ilist rfl (pd_var 2)) (blkOk_by (N := ["text", "words", "found", "place", "word", "sign", "figure", "column", "up"]) (sc := defScope s_read_order) (by decide +kernel)) (fun _ _ _ _ _ => (pd_gtup rfl rfl (pd_gcons (pd_gname 7 nd rfl (by first | exact Or.inl rfl | exact Or.inr rfl)) (pd_gcons (pd_gname 8 nd rfl (by first | exact Or.inl rfl | exact Or.inr rfl)) pd_gnil)) (gcons_len' (gcons_len' gnil_len)))) (fun _ _ _ _ _ => pd_yes) (fun _ _ _ _ _ => (pd_var 7)))) (by rfl))) (pds_one (pds_raise rfl rfl T.x_InvalidText T.k_InvalidText HI (hr.mono (by first | decide | omega)) HIb tk T.g_InvalidText (pd_var 3))) pds_nil) (pds_one (pds_expr (pd_append 2 rfl (pd_cons (pd_tup (pd_cons (pd_callTy call_intA ok_toInt rfl T.n_int (by rfl) (pd_cons (pd_var 6) pd_nil)) (pd_cons (pd_dit rfl T.d_TEXT_SIGNS T.g_TEXT_SIGNS (pd_var 5)) pd_nil))) pd_nil)))))))) (pds_cons (pds_if (pd_tpeek (pd_tcmp op_ge ok_ge (pd_callB (cr_max rfl) ok_max rfl T.n_max (by rfl) (pd_cons (pd_of_l (pl_lc (own := [("column", 7), ("up", 8)]) rfl nd (pd_ilist rfl (pd_var 2)) (blkOk_by (N := ["text", "words", "found", "place", "word", "sign", "figure", "column", "up"]) (sc := defScope s_read_order) (by decide +kernel)) (fun _ _ _ _ _ => (pd_gtup rfl rfl (pd_gcons (pd_gname 7 nd rfl (by first | exact Or.inl rfl | exact Or.inr rfl)) (pd_gcons (pd_gname 8 nd rfl (by first | exact Or.inl rfl | exact Or.inr rfl)) pd_gnil)) (gcons_len' (gcons_len' gnil_len)))) (fun _ _ _ _ _ => pd_yes) (fun _ _ _ _ _ => (pd_var 7)))) pd_nil)) (pd_lenv 2 rfl rfl T.n_len) (nomark _))) (pds_one (pds_raise rfl rfl T.x_InvalidText T.k_InvalidText HI (hr.mono (by first | decide | omega)) HIb tk T.g_InvalidText (pd_callB call_len ok_len rfl T.n_len (by rfl) (pd_cons (pd_var 1) pd_nil)))) pds_nil) (pds_one (pds_rov 2)))))
/-! ### write_condition -/
abbrev s_write_condition : Stmt := top 20
noncomputable def d_write_condition : Nat → M Fl
  | 0 => no
  | n + 1 => (seqM (iteM (tst (op2 eqD (op2 ixD (getv 0) (pure (.int 0))) (pure (.str "in")))) (retM (joinedM [(unD fmtD (op2 ixD (getv 0) (pure (.int 1)))), (pure (.str ":")), (unD fmtD (callG 4 1 d_write_set (consM (op2 ixD (getv 0) (pure (.int 2))) (pure []))))] Str.empty)) (pure .nx)) (retM (m1M joinD (pure (.str " ")) (lstM (consM (op2 ixD (getv 0) (pure (.int 0))) (starM (ltM (lcM (iT (sliceM (getv 0) (partM (pure (.int 1))) (pure none))) (setv 1) (pure true) (callG 2 1 (d_write_condition n) (consM (getv 1) (pure []))) [1])) (pure [])))))))
theorem sc_write_condition : FnScope ["condition", "part"] ["condition"] (defScope s_write_condition) := ⟨rfl, rfl, rfl, by decide +kernel, rfl, by decide +kernel, by decide +kernel⟩
theorem ok_write_condition {P : Program} {w : World} {K : PySem.W.Frag} {mg : Str → Option Value} {base : Heap} {fd : FuncData} (T : Txt w K mg) (Hwrite_set : Hs (Cc K) P w mg base "write_set" (He.ga K "write_set") 1 ["stretches"] 4 1 d_write_set)
    (hm : mg "write_condition" = some (.ref (He.ga K "write_condition"))) (F : FunD K "write_condition" "write_condition" (defArgs s_write_condition) (defBody s_write_condition) (defScope s_write_condition) [] [] (He.ga K "write_condition") fd) : ∀ n : Nat, Hs (Cc K) P w mg base "write_condition" (He.ga K "write_condition") (n + 2) ["condition"] 2 1 (d_write_condition n)
  | 0 => hs_mono (k := 1) (by
    refine hs_of (C := Cc K) (N := ["condition", "part"]) F sc_write_condition hm (fun _ _ _ _ _ _ us hl => match us, hl with | [_], _ => rfl) (fun _ _ _ _ _ _ us hl => match us, hl with | [_], _ => rfl) fun cdv A outer s H E hr => ?_
    exact pss_no) (by omega)
  | n + 1 => by
    have Hwrite_condition : Hs (Cc K) P w mg base "write_condition" (He.ga K "write_condition") (n + 2) ["condition"] 2 1 (d_write_condition n) := ok_write_condition T Hwrite_set hm F n
    refine hs_mono (k := (n + 2) + 1) ?_ (by omega)
    refine hs_of (C := Cc K) (N := ["condition", "part"]) F sc_write_condition hm (fun _ _ _ _ _ _ us hl => match us, hl with | [_], _ => rfl) (fun _ _ _ _ _ _ us hl => match us, hl with | [_], _ => rfl) fun cdv A outer s H E hr => ?_
    have nd := sc_write_condition.nd
    have po := passes_of (X := cxOf (L2.CX P w) P w K mg base ["condition", "part"] "write_condition" (defScope s_write_condition) (He.ga K "write_condition") cdv A outer s H E) rfl
    have tk := takes_of (X := cxOf (L2.CX P w) P w K mg base ["condition", "part"] "write_condition" (defScope s_write_condition) (He.ga K "write_condition") cdv A outer s H E) rfl rfl rfl rfl
    exact (pds_cons (pds_if (pd_tcmp (op_eqD (u64 hr)) ok_eq (pd_ix rfl (pd_var 0) pd_int) pd_str (nomark _)) (pds_one (pds_ret (pd_joined (fs := [(unD fmtD (op2 ixD (getv 0) (pure (.int 1)))), (pure (.str ":")), (unD fmtD (callG 4 1 d_write_set (consM (op2 ixD (getv 0) (pure (.int 2))) (pure []))))]) (pdj_cons (pd_fmt (pd_ix rfl (pd_var 0) pd_int)) (pdj_cons pd_str (pdj_cons (pd_fmt (pd_callH rfl Hwrite_set hr tk (pd_cons (pd_ix rfl (pd_var 0) pd_int) pd_nil) (hk := by omega))) pdj_nil)))))) pds_nil) (pds_one (pds_ret (pd_join rfl pd_str (pd_lst (pd_cons (pd_ix rfl (pd_var 0) pd_int) (pd_star rfl (pd_of_l (pl_lc (own := [("part", 1)]) rfl nd (pd_itup rfl (pd_slice rfl (pd_var 0) (pd_psome pd_int) pd_pnone)) (blkOk_by (N := ["condition", "part"]) (sc := defScope s_write_condition) (by decide +kernel)) (fun _ _ _ _ _ => (pd_gname 1 nd rfl (by first | exact Or.inl rfl | exact Or.inr rfl))) (fun _ _ _ _ _ => pd_yes) (fun _ _ _ _ _ => (pd_callH rfl Hwrite_condition hr takes0 (pd_cons (pd_var 1) pd_nil) (hk := by omega))))) pd_nil)))))))
/-! ### read_simple -/
abbrev s_read_simple : Stmt := inCls (top 21) 1
noncomputable def d_read_simple : M Fl := (seqM (asgM (m1M partitionD (getv 1) (pure (.str ":"))) (gtup (gcons (setv 2) (gcons (setv 3) (gcons (setv 4) gnil))))) (seqM (augM "ConditionReader" 0 2 1) (seqM (iteM (Pd.orM (tst (op2 neD (callM (one lenD) (consM (getv 2) (pure []))) (pure (.int 1)))) (Pd.orM (tst (op2 notInD (getv 2) (pure (.str "01234567")))) (Pd.orM (tst (op2 eqD (getv 3) (pure (.str "")))) (tst (op2 gtD (fldM "ConditionReader" 0 2) (pure (.int 12))))))) (mkM "InvalidText" (fldM "ConditionReader" 0 1)) (pure .nx)) (tryR "InvalidText" (retM (tupM (consM (pure (.str "in")) (consM (callM (one toInt) (consM (getv 2) (pure []))) (consM (callG 7 1 d_read_set (consM (getv 4) (pure []))) (pure [])))))) (fldM "ConditionReader" 0 1)))))
theorem sc_read_simple : FnScope ["self", "word", "column", "mark", "set_word"] ["self", "word"] (defScope s_read_simple) := ⟨rfl, rfl, rfl, by decide +kernel, rfl, by decide +kernel, by decide +kernel⟩
theorem ok_read_simple {P : Program} {w : World} {K : PySem.W.Frag} {mg : Str → Option Value} {base : Heap} {fd : FuncData} (T : Txt w K mg) (HNread_set : HsN (Cc K) P w mg base "read_set" (He.ga K "read_set") 3 ["text"] 7 1 d_read_set) {fdI : FuncData} (HI : FnOk P w K mg base (L2.CX P w) 1 (fI K) fdI ["self", "place"] (spPlace K)) (HIh : L2H.FnH P w K mg base (L2.CX P w) 1 (fI K) fdI ["self", "place"] (spPlace K)) (HIb : Binds K fdI ["self", "place"] [])
    (hm : Meth K (He.ga K "ConditionReader") "read_simple" (He.ma K (He.ga K "ConditionReader") "read_simple")) (F : FunD K "read_simple" "ConditionReader.read_simple" (defArgs s_read_simple) (defBody s_read_simple) (defScope s_read_simple) [] [] (He.ma K (He.ga K "ConditionReader") "read_simple") fd) :
    HsM (Cc K) P w mg base (He.ga K "ConditionReader") "read_simple" 4 ["self", "word"] 5 2 d_read_simple := by
    refine hsM_of (C := Cc K) (N := ["self", "word", "column", "mark", "set_word"]) F sc_read_simple hm (fun _ _ _ _ _ _ us hl => match us, hl with | [_, _], _ => rfl) fun cdv A outer s H E hr => ?_
    have nd := sc_read_simple.nd
    have po := passes_of (X := cxOf (L2.CX P w) P w K mg base ["self", "word", "column", "mark", "set_word"] "ConditionReader.read_simple" (defScope s_read_simple) (He.ma K (He.ga K "ConditionReader") "read_simple") cdv A outer s H E) rfl
    have tk := takes_of (X := cxOf (L2.CX P w) P w K mg base ["self", "word", "column", "mark", "set_word"] "ConditionReader.read_simple" (defScope s_read_simple) (He.ma K (He.ga K "ConditionReader") "read_simple") cdv A outer s H E) rfl rfl rfl rfl
    exact (pds_cons (pds_asg (pd_partition (pd_var 1) pd_str) (pd_gtup rfl rfl (pd_gcons (pd_gname 2 nd rfl (by first | exact Or.inl rfl | exact Or.inr rfl)) (pd_gcons (pd_gname 3 nd rfl (by first | exact Or.inl rfl | exact Or.inr rfl)) (pd_gcons (pd_gname 4 nd rfl (by first | exact Or.inl rfl | exact Or.inr rfl)) pd_gnil))) (gcons_len' (gcons_len' (gcons_len' gnil_len))))) (pds_cons (pds_aug (npos := ⟨0, 0, 0, 0⟩) 0 2 1 rfl T.o_ConditionReader T.a_ConditionReader_sets_read T.f_ConditionReader_sets_read pe_int) (pds_cons (pds_if (PW.pt (pd_or (pd_tcmp (op_neD (u64 hr)) ok_ne (pd_callB call_len ok_len rfl T.n_len (by rfl) (pd_cons (pd_var 2) pd_nil)) pd_int (nomark _)) (pd_or (pd_tcmp (or_notIn (u65 hr)) ok_notIn (pd_var 2) (pd_gstr T.c_TEXT_COLUMNS) (by rfl)) (pd_or (pd_tcmp (op_eqD (u64 hr)) ok_eq (pd_var 3) pd_str (nomark _)) (pd_or1 (pd_tcmp op_gt ok_gt (pd_fld 0 2 rfl T.o_ConditionReader T.a_ConditionReader_sets_read T.f_ConditionReader_sets_read) (pd_gint T.c_MOST_TEXT_SETS) (nomark _))))))) (pds_one (pds_raise rfl rfl T.x_InvalidText T.k_InvalidText HI (hr.mono (by first | decide | omega)) HIb tk T.g_InvalidText (pd_fld 0 1 rfl T.o_ConditionReader T.a_ConditionReader_next_place T.f_ConditionReader_next_place))) pds_nil) (pds_one (pds_tryR rfl T.x_InvalidText T.k_InvalidText rfl rfl (L2H.passesAt_of rfl) tk T.g_InvalidText HIh (hr.mono (by decide)) HIb (fun W pn xe tkN po => (pds_one (pds_ret (pd_tup (pd_cons pd_str (pd_cons (pd_callTy call_intA ok_toInt rfl T.n_int (by rfl) (pd_cons (pd_var 2) pd_nil)) (pd_cons (pd_callHN rfl HNread_set hr tkN (pd_cons (pd_var 4) pd_nil)) pd_nil))))))) (fun a pn => (pd_fld 0 1 rfl T.o_ConditionReader T.a_ConditionReader_next_place T.f_ConditionReader_next_place)))))))
/-! ### read_part -/
abbrev s_read_part : Stmt := inCls (top 21) 2
noncomputable def d_read_part : Nat → M Fl
  | 0 => no
  | n + 1 => (seqM (iteM (Pd.orM (tst (op2 eqD (fldM "ConditionReader" 0 1) (callM (one lenD) (consM (fldM "ConditionReader" 0 0) (pure []))))) (tst (op2 gtD (getv 1) (pure (.int 20))))) (mkM "InvalidText" (fldM "ConditionReader" 0 1)) (pure .nx)) (seqM (letM 2 (vaM (op2 ixD (fldM "ConditionReader" 0 0) (fldM "ConditionReader" 0 1)))) (seqM (iteM (tst (dinM kv_CONDITION_PARTS true (getv 2))) (seqM (letM 3 (vaM (methO "ConditionReader" 5 2 0 d_read_simple (consM (getv 2) (pure []))))) (seqM (augM "ConditionReader" 0 1 1) (retM (getv 3)))) (pure .nx)) (seqM (augM "ConditionReader" 0 1 1) (retM (tupM (consM (getv 2) (starM (ltM (lcX (iR1 (consM (ditM kv_CONDITION_PARTS (getv 2)) (pure []))) (setv 4) (pure true) (methO "ConditionReader" 5 2 0 (d_read_part n) (consM (op2 addD (getv 1) (pure (.int 1))) (pure []))) [4])) (pure [])))))))))
theorem sc_read_part : FnScope ["self", "level", "word", "found", "part"] ["self", "level"] (defScope s_read_part) := ⟨rfl, rfl, rfl, by decide +kernel, rfl, by decide +kernel, by decide +kernel⟩
theorem ok_read_part {P : Program} {w : World} {K : PySem.W.Frag} {mg : Str → Option Value} {base : Heap} {fd : FuncData} (T : Txt w K mg) (Hread_simple : HsM (Cc K) P w mg base (He.ga K "ConditionReader") "read_simple" 4 ["self", "word"] 5 2 d_read_simple) {fdI : FuncData} (HI : FnOk P w K mg base (L2.CX P w) 1 (fI K) fdI ["self", "place"] (spPlace K)) (HIb : Binds K fdI ["self", "place"] [])
    (hm : Meth K (He.ga K "ConditionReader") "read_part" (He.ma K (He.ga K "ConditionReader") "read_part")) (F : FunD K "read_part" "ConditionReader.read_part" (defArgs s_read_part) (defBody s_read_part) (defScope s_read_part) [] [] (He.ma K (He.ga K "ConditionReader") "read_part") fd) : ∀ n : Nat, HsM (Cc K) P w mg base (He.ga K "ConditionReader") "read_part" (n + 5) ["self", "level"] 5 2 (d_read_part n)
  | 0 => hsM_mono (k := 1) (by
    refine hsM_of (C := Cc K) (N := ["self", "level", "word", "found", "part"]) F sc_read_part hm (fun _ _ _ _ _ _ us hl => match us, hl with | [_, _], _ => rfl) fun cdv A outer s H E hr => ?_
    exact pss_no) (by omega)
  | n + 1 => by
    have Hread_part : HsM (Cc K) P w mg base (He.ga K "ConditionReader") "read_part" (n + 5) ["self", "level"] 5 2 (d_read_part n) := ok_read_part T Hread_simple HI HIb hm F n
    refine hsM_mono (k := (n + 5) + 1) ?_ (by omega)
    refine hsM_of (C := Cc K) (N := ["self", "level", "word", "found", "part"]) F sc_read_part hm (fun _ _ _ _ _ _ us hl => match us, hl with | [_, _], _ => rfl) fun cdv A outer s H E hr => ?_
    have nd := sc_read_part.nd
    have po := passes_of (X := cxOf (L2.CX P w) P w K mg base ["self", "level", "word", "found", "part"] "ConditionReader.read_part" (defScope s_read_part) (He.ma K (He.ga K "ConditionReader") "read_part") cdv A outer s H E) rfl
    have tk := takes_of (X := cxOf (L2.CX P w) P w K mg base ["self", "level", "word", "found", "part"] "ConditionReader.read_part" (defScope s_read_part) (He.ma K (He.ga K "ConditionReader") "read_part") cdv A outer s H E) rfl rfl rfl rfl
    exact (pds_cons (pds_if (PW.pt (pd_or (pd_tcmp (op_eqD (u64 hr)) ok_eq (pd_fld 0 1 rfl T.o_ConditionReader T.a_ConditionReader_next_place T.f_ConditionReader_next_place) (pd_callB call_len ok_len rfl T.n_len (by rfl) (pd_cons (pd_fld 0 0 rfl T.o_ConditionReader T.a_ConditionReader_words_to_read T.f_ConditionReader_words_to_read) pd_nil)) (nomark _)) (pd_or1 (pd_tcmp op_gt ok_gt (pd_var 1) (pd_gint T.c_MOST_TEXT_LEVELS) (nomark _))))) (pds_one (pds_raise rfl rfl T.x_InvalidText T.k_InvalidText HI (hr.mono (by first | decide | omega)) HIb tk T.g_InvalidText (pd_fld 0 1 rfl T.o_ConditionReader T.a_ConditionReader_next_place T.f_ConditionReader_next_place))) pds_nil) (pds_cons (pds_let 2 nd (px_va (pd_ix rfl (pd_fld 0 0 rfl T.o_ConditionReader T.a_ConditionReader_words_to_read T.f_ConditionReader_words_to_read) (pd_fld 0 1 rfl T.o_ConditionReader T.a_ConditionReader_next_place T.f_ConditionReader_next_place)))) (pds_cons (pds_if (pd_tdnotin rfl T.d_CONDITION_PARTS T.g_CONDITION_PARTS (pd_var 2)) (pds_cons (pds_let 3 nd (px_va (pd_methO (pl := _) 0 rfl T.o_ConditionReader T.z_ConditionReader_read_simple Hread_simple hr (lets_of tk) (pd_cons (pd_var 2) pd_nil) (hk := by omega)))) (pds_cons (pds_aug (npos := ⟨0, 0, 0, 0⟩) 0 1 1 rfl T.o_ConditionReader T.a_ConditionReader_next_place T.f_ConditionReader_next_place pe_int) (pds_one (pds_ret (pd_var 3))))) pds_nil) (pds_cons (pds_aug (npos := ⟨0, 0, 0, 0⟩) 0 1 1 rfl T.o_ConditionReader T.a_ConditionReader_next_place T.f_ConditionReader_next_place pe_int) (pds_one (pds_ret (pd_tup (pd_cons (pd_var 2) (pd_star rfl (pd_of_l (pl_lcX (own := [("part", 4)]) tk rfl rfl rfl nd (pd_irng1 rfl T.n_range (pd_cons (pd_dit rfl T.d_CONDITION_PARTS T.g_CONDITION_PARTS (pd_var 2)) pd_nil)) (blkOk_by (N := ["self", "level", "word", "found", "part"]) (sc := defScope s_read_part) (by decide +kernel)) (fun _ _ _ _ _ => (pd_gname 4 nd rfl (by first | exact Or.inl rfl | exact Or.inr rfl))) (fun _ _ _ _ _ => pd_yes) (fun _ _ _ _ _ _ => (pd_methO (pl := _) 0 rfl T.o_ConditionReader T.z_ConditionReader_read_part Hread_part hr lets_blk (pd_cons (pd_add rfl (pd_var 1) pd_int) pd_nil) (hk := by omega))))) pd_nil)))))))))
/-! ### read_condition -/
abbrev s_read_condition : Stmt := top 22
noncomputable def d_read_condition : M Fl := (newM 1 "ConditionReader" 1 (fun ds => ds ++ [.int 0, .int 0]) (consM (m1M splitD (getv 0) (pure (.str " "))) (pure [])) (seqM (letM 2 (vaM (methO "ConditionReader" 5 2 1 (d_read_part 25) (consM (pure (.int 1)) (pure []))))) (seqM (iteM (tst (op2 ltD (fldM "ConditionReader" 1 1) (callM (one lenD) (consM (fldM "ConditionReader" 1 0) (pure []))))) (mkM "InvalidText" (fldM "ConditionReader" 1 1)) (pure .nx)) (retM (getv 2)))))
theorem sc_read_condition : FnScope ["text", "reader", "found"] ["text"] (defScope s_read_condition) := ⟨rfl, rfl, rfl, by decide +kernel, rfl, by decide +kernel, by decide +kernel⟩
theorem ok_read_condition {P : Program} {w : World} {K : PySem.W.Frag} {mg : Str → Option Value} {base : Heap} {fd : FuncData} (T : Txt w K mg) (Hread_part : HsM (Cc K) P w mg base (He.ga K "ConditionReader") "read_part" (25 + 5) ["self", "level"] 5 2 (d_read_part 25)) {fdConditionReader : FuncData} (HCConditionReader : FnOk P w K mg base (L2.CX P w) 1 (fConditionReader K) fdConditionReader ["self", "words"] (spNew (Cc K) "ConditionReader" (He.ga K "ConditionReader") 1 fun us => us ++ [.int 0, .int 0])) (HCbConditionReader : Binds K fdConditionReader ["self", "words"] []) {fdI : FuncData} (HI : FnOk P w K mg base (L2.CX P w) 1 (fI K) fdI ["self", "place"] (spPlace K)) (HIb : Binds K fdI ["self", "place"] [])
    (hm : mg "read_condition" = some (.ref (He.ga K "read_condition"))) (F : FunD K "read_condition" "read_condition" (defArgs s_read_condition) (defBody s_read_condition) (defScope s_read_condition) [] [] (He.ga K "read_condition") fd) :
    Hs (Cc K) P w mg base "read_condition" (He.ga K "read_condition") 31 ["text"] 3 1 d_read_condition := by
    refine hs_of (C := Cc K) (N := ["text", "reader", "found"]) F sc_read_condition hm (fun _ _ _ _ _ _ us hl => match us, hl with | [_], _ => rfl) (fun _ _ _ _ _ _ us hl => match us, hl with | [_], _ => rfl) fun cdv A outer s H E hr => ?_
    have nd := sc_read_condition.nd
    have po := passes_of (X := cxOf (L2.CX P w) P w K mg base ["text", "reader", "found"] "read_condition" (defScope s_read_condition) (He.ga K "read_condition") cdv A outer s H E) rfl
    have tk := takes_of (X := cxOf (L2.CX P w) P w K mg base ["text", "reader", "found"] "read_condition" (defScope s_read_condition) (He.ga K "read_condition") cdv A outer s H E) rfl rfl rfl rfl
    exact (pds_new 1 rfl nd T.o_ConditionReader T.w_ConditionReader HCConditionReader HCbConditionReader hr T.g_ConditionReader (rel_new2 T.l_ConditionReader) (pd_cons (pd_split (pd_var 0) pd_str) pd_nil) (pds_cons (pds_let 2 nd (px_va (pd_methO (pl := _) 1 rfl T.o_ConditionReader T.z_ConditionReader_read_part Hread_part hr (lets_of tk) (pd_cons pd_int pd_nil)))) (pds_cons (pds_if (pd_tcmp op_lt ok_lt (pd_fld 1 1 rfl T.o_ConditionReader T.a_ConditionReader_next_place T.f_ConditionReader_next_place) (pd_callB call_len ok_len rfl T.n_len (by rfl) (pd_cons (pd_fld 1 0 rfl T.o_ConditionReader T.a_ConditionReader_words_to_read T.f_ConditionReader_words_to_read) pd_nil)) (nomark _)) (pds_one (pds_raise rfl rfl T.x_InvalidText T.k_InvalidText HI (hr.mono (by first | decide | omega)) HIb tk T.g_InvalidText (pd_fld 1 1 rfl T.o_ConditionReader T.a_ConditionReader_next_place T.f_ConditionReader_next_place))) pds_nil) (pds_one (pds_ret (pd_var 2))))))
/-! ### law_flask -/
abbrev s_law_flask : Stmt := top 24
noncomputable def d_law_flask : M Fl := (seqM (letM 1 (vaM (op2 powD (pure (.int 43)) (pure (.int 22))))) (seqM (forM (iL (sliceM (getv 0) (pure none) (partM (pure (.int 40))))) (setv 2) (letM 1 (vaM (op2 modD (callM (one toInt) (consM (op2 addD (op2 mulD (getv 1) (pure (.int 4101842887655102017))) (getv 2)) (pure []))) (pure (.int 170141183460469231731687303715884105727)))))) (retW (lcM (iL (sliceM (getv 0) (pure none) (partM (pure (.int 40))))) (setv 2) (tst (op2 geD (callM (one absD) (consM (getv 2) (pure []))) (op2 powD (pure (.int 10)) (pure (.int 18))))) (callM (one absD) (consM (getv 2) (pure []))) [2]) (consM (getv 1) (consM (pure (.int 0)) (pure []))))))
theorem sc_law_flask : FnScope ["script", "blend", "cell"] ["script"] (defScope s_law_flask) := ⟨rfl, rfl, rfl, by decide +kernel, rfl, by decide +kernel, by decide +kernel⟩
theorem ok_law_flask {P : Program} {w : World} {K : PySem.W.Frag} {mg : Str → Option Value} {base : Heap} {fd : FuncData} (T : Txt w K mg)
    (hm : mg "_law_flask" = some (.ref (He.ga K "_law_flask"))) (F : FunD K "_law_flask" "_law_flask" (defArgs s_law_flask) (defBody s_law_flask) (defScope s_law_flask) [] [] (He.ga K "_law_flask") fd) :
    Hs (Cc K) P w mg base "_law_flask" (He.ga K "_law_flask") 1 ["script"] 3 1 d_law_flask := by
    refine hs_of (C := Cc K) (N := ["script", "blend", "cell"]) F sc_law_flask hm (fun _ _ _ _ _ _ us hl => match us, hl with | [_], _ => rfl) (fun _ _ _ _ _ _ us hl => match us, hl with | [_], _ => rfl) fun cdv A outer s H E hr => ?_
    have nd := sc_law_flask.nd
    have po := passes_of (X := cxOf (L2.CX P w) P w K mg base ["script", "blend", "cell"] "_law_flask" (defScope s_law_flask) (He.ga K "_law_flask") cdv A outer s H E) rfl
    have tk := takes_of (X := cxOf (L2.CX P w) P w K mg base ["script", "blend", "cell"] "_law_flask" (defScope s_law_flask) (He.ga K "_law_flask") cdv A outer s H E) rfl rfl rfl rfl
    exact (pds_cons (pds_let 1 nd (px_va (pd_pow pd_int pd_int))) (pds_cons (pds_for po rfl (pd_ilist rfl (pd_slice rfl (pd_var 0) pd_pnone (pd_psome pd_int))) (pd_gname 2 nd rfl (by first | exact Or.inl rfl | exact Or.inr rfl)) (pds_one (pds_let 1 nd (px_va (pd_mod (pd_callTy call_intA ok_toInt rfl T.n_int (by rfl) (pd_cons (pd_add rfl (pd_mul (pd_var 1) pd_int) (pd_var 2)) pd_nil)) pd_int))))) (pds_one (pds_retW (pl_lc (own := [("cell", 2)]) rfl nd (pd_ilist rfl (pd_slice rfl (pd_var 0) pd_pnone (pd_psome pd_int))) (blkOk_by (N := ["script", "blend", "cell"]) (sc := defScope s_law_flask) (by decide +kernel)) (fun _ _ _ _ _ => (pd_gname 2 nd rfl (by first | exact Or.inl rfl | exact Or.inr rfl))) (fun _ _ _ _ _ => (pd_onetest (pd_tcmp op_ge ok_ge (pd_callB call_abs ok_abs rfl T.n_abs (by rfl) (pd_cons (pd_var 2) pd_nil)) (pd_pow pd_int pd_int) (nomark _)))) (fun _ _ _ _ _ => (pd_callB call_abs ok_abs rfl T.n_abs (by rfl) (pd_cons (pd_var 2) pd_nil)))) (pd_cons (pd_var 1) (pd_cons pd_int pd_nil))))))
/-! ### law_drip -/
abbrev s_law_drip : Stmt := top 25
noncomputable def d_law_drip : M Fl := (seqM (whM (Pd.andM (tst (peek (op2 neD (op2 ixD (getv 0) (pure (.int 0))) (lstM (pure []))))) (tst (peek (op2 ltD (op2 ixD (op2 ixD (getv 0) (pure (.int 0))) (pure (.int 0))) (pure (.int 2)))))) (dropM (itM 0 0 popAtD [(.int 0)]))) (seqM (iteM (tst (peek (op2 neD (op2 ixD (getv 0) (pure (.int 0))) (lstM (pure []))))) (seqM (letM 2 (vaM (op2 modD (callM (one toInt) (consM (peek (op2 ixD (op2 ixD (getv 0) (pure (.int 0))) (pure (.int 0)))) (pure []))) (getv 1)))) (seqM (st2M 0 0 0 (op2 fdivD (peek (op2 ixD (op2 ixD (getv 0) (pure (.int 0))) (pure (.int 0)))) (getv 1))) (retM (getv 2)))) (pure .nx)) (seqM (stM 0 2 (op2 addD (peek (op2 ixD (getv 0) (pure (.int 2)))) (pure (.int 1)))) (seqM (letM 3 (vaM (op2 addD (op2 mulD (peek (op2 ixD (getv 0) (pure (.int 1)))) (peek (op2 ixD (getv 0) (pure (.int 1))))) (op2 mulD (op2 mulD (pure (.int 70001)) (peek (op2 ixD (getv 0) (pure (.int 2))))) (peek (op2 ixD (getv 0) (pure (.int 2)))))))) (seqM (stM 0 1 (op2 modD (callM (one toInt) (consM (op2 addD (getv 3) (op2 mulD (pure (.int 31)) (peek (op2 ixD (getv 0) (pure (.int 2)))))) (pure []))) (pure (.int 170141183460469231731687303715884105727)))) (seqM (letM 3 (vaM (op2 addD (op2 mulD (peek (op2 ixD (getv 0) (pure (.int 1)))) (peek (op2 ixD (getv 0) (pure (.int 1))))) (op2 mulD (pure (.int 90001)) (peek (op2 ixD (getv 0) (pure (.int 2)))))))) (seqM (letM 4 (vaM (op2 addD (op2 mulD (peek (op2 ixD (getv 0) (pure (.int 1)))) (op2 powD (pure (.int 10)) (pure (.int 38)))) (op2 modD (callM (one toInt) (consM (getv 3) (pure []))) (pure (.int 170141183460469231731687303715884105727)))))) (retM (op2 modD (callM (one toInt) (consM (op2 fdivD (getv 4) (op2 powD (pure (.int 2)) (pure (.int 35)))) (pure []))) (getv 1))))))))))
theorem sc_law_drip : FnScope ["flask", "sides", "found", "blend", "broad"] ["flask", "sides"] (defScope s_law_drip) := ⟨rfl, rfl, rfl, by decide +kernel, rfl, by decide +kernel, by decide +kernel⟩
theorem ok_law_drip {P : Program} {w : World} {K : PySem.W.Frag} {mg : Str → Option Value} {base : Heap} {fd : FuncData} (T : Txt w K mg)
    (hm : mg "_law_drip" = some (.ref (He.ga K "_law_drip"))) (F : FunD K "_law_drip" "_law_drip" (defArgs s_law_drip) (defBody s_law_drip) (defScope s_law_drip) [] [] (He.ga K "_law_drip") fd) :
    Hs (Cc K) P w mg base "_law_drip" (He.ga K "_law_drip") 1 ["flask", "sides"] 5 2 d_law_drip := by
    refine hs_of (C := Cc K) (N := ["flask", "sides", "found", "blend", "broad"]) F sc_law_drip hm (fun _ _ _ _ _ _ us hl => match us, hl with | [_, _], _ => rfl) (fun _ _ _ _ _ _ us hl => match us, hl with | [_, _], _ => rfl) fun cdv A outer s H E hr => ?_
    have nd := sc_law_drip.nd
    have po := passes_of (X := cxOf (L2.CX P w) P w K mg base ["flask", "sides", "found", "blend", "broad"] "_law_drip" (defScope s_law_drip) (He.ga K "_law_drip") cdv A outer s H E) rfl
    have tk := takes_of (X := cxOf (L2.CX P w) P w K mg base ["flask", "sides", "found", "blend", "broad"] "_law_drip" (defScope s_law_drip) (He.ga K "_law_drip") cdv A outer s H E) rfl rfl rfl rfl
    exact (pds_cons (pds_while po (PW.pt (pd_and (pd_tpeek (pd_tcmp (op_neD (u64 hr)) ok_ne (pd_ix rfl (pd_var 0) pd_int) (pd_lst pd_nil) (nomark _))) (pd_and1 (pd_tpeek (pd_tcmp op_lt ok_lt (pd_ix rfl (pd_ix rfl (pd_var 0) pd_int) pd_int) pd_int (nomark _)))))) (pds_one (pds_expr (pd_itPopAt 0 0 rfl rfl (pd_const1 pd_int))))) (pds_cons (pds_if (pd_tpeek (pd_tcmp (op_neD (u64 hr)) ok_ne (pd_ix rfl (pd_var 0) pd_int) (pd_lst pd_nil) (nomark _))) (pds_cons (pds_let 2 nd (px_va (pd_mod (pd_callTy call_intA ok_toInt rfl T.n_int (by rfl) (pd_cons (pd_peek (pd_ix rfl (pd_ix rfl (pd_var 0) pd_int) pd_int)) pd_nil)) (pd_var 1)))) (pds_cons (pds_st2 0 0 0 rfl rfl (pd_fdiv (pd_peek (pd_ix rfl (pd_ix rfl (pd_var 0) pd_int) pd_int)) (pd_var 1)) rfl) (pds_one (pds_ret (pd_var 2))))) pds_nil) (pds_cons (pds_st 0 2 rfl (pd_add rfl (pd_peek (pd_ix rfl (pd_var 0) pd_int)) pd_int)) (pds_cons (pds_let 3 nd (px_va (pd_add rfl (pd_mul (pd_peek (pd_ix rfl (pd_var 0) pd_int)) (pd_peek (pd_ix rfl (pd_var 0) pd_int))) (pd_mul (pd_mul pd_int (pd_peek (pd_ix rfl (pd_var 0) pd_int))) (pd_peek (pd_ix rfl (pd_var 0) pd_int)))))) (pds_cons (pds_st 0 1 rfl (pd_mod (pd_callTy call_intA ok_toInt rfl T.n_int (by rfl) (pd_cons (pd_add rfl (pd_var 3) (pd_mul pd_int (pd_peek (pd_ix rfl (pd_var 0) pd_int)))) pd_nil)) pd_int)) (pds_cons (pds_let 3 nd (px_va (pd_add rfl (pd_mul (pd_peek (pd_ix rfl (pd_var 0) pd_int)) (pd_peek (pd_ix rfl (pd_var 0) pd_int))) (pd_mul pd_int (pd_peek (pd_ix rfl (pd_var 0) pd_int)))))) (pds_cons (pds_let 4 nd (px_va (pd_add rfl (pd_mul (pd_peek (pd_ix rfl (pd_var 0) pd_int)) (pd_pow pd_int pd_int)) (pd_mod (pd_callTy call_intA ok_toInt rfl T.n_int (by rfl) (pd_cons (pd_var 3) pd_nil)) pd_int)))) (pds_one (pds_ret (pd_mod (pd_callTy call_intA ok_toInt rfl T.n_int (by rfl) (pd_cons (pd_fdiv (pd_var 4) (pd_pow pd_int pd_int)) pd_nil)) (pd_var 1)))))))))))
/-! ### law_parts -/
abbrev s_law_parts : Stmt := top 26
noncomputable def d_law_parts : Nat → M Fl
  | 0 => no
  | n + 1 => (seqM (iteM (tst (op2 eqD (op2 ixD (getv 0) (pure (.int 0))) (pure (.str "in")))) (retoM (dspL (consM (getv 0) (pure [])))) (pure .nx)) (seqM (letM 1 (lsM (dspL (pure [])))) (seqM (forM (iT (sliceM (getv 0) (partM (pure (.int 1))) (pure none))) (setv 2) (letM 1 (lsM (catM (getv 1) (callG 3 1 (d_law_parts n) (consM (getv 2) (pure []))))))) (rovM 1))))
theorem sc_law_parts : FnScope ["rule", "found", "part"] ["rule"] (defScope s_law_parts) := ⟨rfl, rfl, rfl, by decide +kernel, rfl, by decide +kernel, by decide +kernel⟩
theorem ok_law_parts {P : Program} {w : World} {K : PySem.W.Frag} {mg : Str → Option Value} {base : Heap} {fd : FuncData} (T : Txt w K mg)
    (hm : mg "_law_parts" = some (.ref (He.ga K "_law_parts"))) (F : FunD K "_law_parts" "_law_parts" (defArgs s_law_parts) (defBody s_law_parts) (defScope s_law_parts) [] [] (He.ga K "_law_parts") fd) : ∀ n : Nat, Hs (Cc K) P w mg base "_law_parts" (He.ga K "_law_parts") (n + 1) ["rule"] 3 1 (d_law_parts n)
  | 0 => hs_mono (k := 1) (by
    refine hs_of (C := Cc K) (N := ["rule", "found", "part"]) F sc_law_parts hm (fun _ _ _ _ _ _ us hl => match us, hl with | [_], _ => rfl) (fun _ _ _ _ _ _ us hl => match us, hl with | [_], _ => rfl) fun cdv A outer s H E hr => ?_
    exact pss_no) (by omega)
  | n + 1 => by
    have H_law_parts : Hs (Cc K) P w mg base "_law_parts" (He.ga K "_law_parts") (n + 1) ["rule"] 3 1 (d_law_parts n) := ok_law_parts T hm F n
    refine hs_mono (k := (n + 1) + 1) ?_ (by omega)
    refine hs_of (C := Cc K) (N := ["rule", "found", "part"]) F sc_law_parts hm (fun _ _ _ _ _ _ us hl => match us, hl with | [_], _ => rfl) (fun _ _ _ _ _ _ us hl => match us, hl with | [_], _ => rfl) fun cdv A outer s H E hr => ?_
    have nd := sc_law_parts.nd
    have po := passes_of (X := cxOf (L2.CX P w) P w K mg base ["rule", "found", "part"] "_law_parts" (defScope s_law_parts) (He.ga K "_law_parts") cdv A outer s H E) rfl
    have tk := takes_of (X := cxOf (L2.CX P w) P w K mg base ["rule", "found", "part"] "_law_parts" (defScope s_law_parts) (He.ga K "_law_parts") cdv A outer s H E) rfl rfl rfl rfl
    exact (pds_cons (pds_if (pd_tcmp (op_eqD (u64 hr)) ok_eq (pd_ix rfl (pd_var 0) pd_int) pd_str (nomark _)) (pds_one (pds_reto (pl_lst (pd_cons (pd_var 0) pd_nil)))) pds_nil) (pds_cons (pds_let 1 nd (px_ls (pl_lst pd_nil))) (pds_cons (pds_for po rfl (pd_itup rfl (pd_slice rfl (pd_var 0) (pd_psome pd_int) pd_pnone)) (pd_gname 2 nd rfl (by first | exact Or.inl rfl | exact Or.inr rfl)) (pds_one (pds_let 1 nd (px_ls (pl_cat rfl (pd_var 1) (pd_callH rfl H_law_parts hr tk (pd_cons (pd_var 2) pd_nil) (hk := by omega))))))) (pds_one (pds_rov 1)))))
/-! ### law_lane -/
abbrev s_law_lane : Stmt := top 27
noncomputable def d_law_lane : M Fl := (seqM (par2M 2 3 (lsM (lrgM (callM (one lenD) (consM (getv 1) (pure []))))) (lsM (dspL (pure [])))) (seqM (whM (tst (peek (op2 neD (getv 2) (lstM (pure []))))) (dropM (owM 3 apD (consM (tupM (consM (owM 2 popAtD (consM (callO 5 2 0 d_law_drip (consM (lenv 2) (pure []))) (pure []))) (consM (op2 eqD (callO 5 2 0 d_law_drip (consM (pure (.int 2)) (pure []))) (pure (.int 0))) (pure [])))) (pure []))))) (retM (getv 3))))
theorem sc_law_lane : FnScope ["flask", "wide", "left", "found"] ["flask", "wide"] (defScope s_law_lane) := ⟨rfl, rfl, rfl, by decide +kernel, rfl, by decide +kernel, by decide +kernel⟩
theorem ok_law_lane {P : Program} {w : World} {K : PySem.W.Frag} {mg : Str → Option Value} {base : Heap} {fd : FuncData} (T : Txt w K mg) (H_law_drip : Hs (Cc K) P w mg base "_law_drip" (He.ga K "_law_drip") 1 ["flask", "sides"] 5 2 d_law_drip)
    (hm : mg "_law_lane" = some (.ref (He.ga K "_law_lane"))) (F : FunD K "_law_lane" "_law_lane" (defArgs s_law_lane) (defBody s_law_lane) (defScope s_law_lane) [] [] (He.ga K "_law_lane") fd) :
    Hs (Cc K) P w mg base "_law_lane" (He.ga K "_law_lane") 2 ["flask", "wide"] 4 2 d_law_lane := by
    refine hs_of (C := Cc K) (N := ["flask", "wide", "left", "found"]) F sc_law_lane hm (fun _ _ _ _ _ _ us hl => match us, hl with | [_, _], _ => rfl) (fun _ _ _ _ _ _ us hl => match us, hl with | [_, _], _ => rfl) fun cdv A outer s H E hr => ?_
    have nd := sc_law_lane.nd
    have po := passes_of (X := cxOf (L2.CX P w) P w K mg base ["flask", "wide", "left", "found"] "_law_lane" (defScope s_law_lane) (He.ga K "_law_lane") cdv A outer s H E) rfl
    have tk := takes_of (X := cxOf (L2.CX P w) P w K mg base ["flask", "wide", "left", "found"] "_law_lane" (defScope s_law_lane) (He.ga K "_law_lane") cdv A outer s H E) rfl rfl rfl rfl
    exact (pds_cons (pds_par2 2 3 rfl nd (by decide) (px_ls (pl_listRg rfl rfl T.n_list rfl T.n_range (pd_callB call_len ok_len rfl T.n_len (by rfl) (pd_cons (pd_var 1) pd_nil)))) (px_ls (pl_lst pd_nil))) (pds_cons (pds_while po (pd_tpeek (pd_tcmp (op_neD (u64 hr)) ok_ne (pd_var 2) (pd_lst pd_nil) (nomark _))) (pds_one (pds_expr (pd_append 3 rfl (pd_cons (pd_tup (pd_cons (pd_popAt 2 rfl (pd_cons (pd_callOH 0 rfl H_law_drip hr tk (pd_cons (pd_lenv 2 rfl rfl T.n_len) pd_nil)) pd_nil)) (pd_cons (pd_cmp (op_eqD (u64 hr)) ok_eq (pd_callOH 0 rfl H_law_drip hr tk (pd_cons pd_int pd_nil)) pd_int (nomark _)) pd_nil))) pd_nil))))) (pds_one (pds_ret (pd_var 3)))))
/-! ### law_set_line -/
abbrev s_law_set_line : Stmt := top 28
noncomputable def d_law_set_line : M Fl := (seqM (letM 1 (vaM (pure (.str "")))) (seqM (forM (iL (getv 0)) (gtup (gcons (setv 2) (gcons (setv 3) gnil))) (seqM (letM 4 (vaM (iteM (tst (op2 eqD (getv 2) (getv 3))) (callM (one reprI) (consM (getv 2) (pure []))) (op2 addD (op2 addD (callM (one reprI) (consM (getv 2) (pure []))) (pure (.str "-"))) (callM (one reprI) (consM (getv 3) (pure []))))))) (letM 1 (vaM (op2 addD (op2 addD (getv 1) (op2 srepD (pure (.str ",")) (callM (one toInt) (consM (op2 neD (getv 1) (pure (.str ""))) (pure []))))) (getv 4)))))) (retM (iteM (tst (op2 neD (getv 1) (pure (.str "")))) (getv 1) (pure (.str "-"))))))
theorem sc_law_set_line : FnScope ["spans", "found", "first", "last", "word"] ["spans"] (defScope s_law_set_line) := ⟨rfl, rfl, rfl, by decide +kernel, rfl, by decide +kernel, by decide +kernel⟩
theorem ok_law_set_line {P : Program} {w : World} {K : PySem.W.Frag} {mg : Str → Option Value} {base : Heap} {fd : FuncData} (T : Txt w K mg)
    (hm : mg "_law_set_line" = some (.ref (He.ga K "_law_set_line"))) (F : FunD K "_law_set_line" "_law_set_line" (defArgs s_law_set_line) (defBody s_law_set_line) (defScope s_law_set_line) [] [] (He.ga K "_law_set_line") fd) :
    Hs (Cc K) P w mg base "_law_set_line" (He.ga K "_law_set_line") 1 ["spans"] 5 1 d_law_set_line := by
    refine hs_of (C := Cc K) (N := ["spans", "found", "first", "last", "word"]) F sc_law_set_line hm (fun _ _ _ _ _ _ us hl => match us, hl with | [_], _ => rfl) (fun _ _ _ _ _ _ us hl => match us, hl with | [_], _ => rfl) fun cdv A outer s H E hr => ?_
    have nd := sc_law_set_line.nd
    have po := passes_of (X := cxOf (L2.CX P w) P w K mg base ["spans", "found", "first", "last", "word"] "_law_set_line" (defScope s_law_set_line) (He.ga K "_law_set_line") cdv A outer s H E) rfl
    have tk := takes_of (X := cxOf (L2.CX P w) P w K mg base ["spans", "found", "first", "last", "word"] "_law_set_line" (defScope s_law_set_line) (He.ga K "_law_set_line") cdv A outer s H E) rfl rfl rfl rfl
    exact (pds_cons (pds_let 1 nd (px_va pd_str)) (pds_cons (pds_for po rfl (pd_ilist rfl (pd_var 0)) (pd_gtup rfl rfl (pd_gcons (pd_gname 2 nd rfl (by first | exact Or.inl rfl | exact Or.inr rfl)) (pd_gcons (pd_gname 3 nd rfl (by first | exact Or.inl rfl | exact Or.inr rfl)) pd_gnil)) (gcons_len' (gcons_len' gnil_len))) (pds_cons (pds_let 4 nd (px_va (pd_if (pd_tcmp (op_eqD (u64 hr)) ok_eq (pd_var 2) (pd_var 3) (nomark _)) (pd_callB SkE.call_repr_int ok_repr rfl T.n_repr (by rfl) (pd_cons (pd_var 2) pd_nil)) (pd_add rfl (pd_add rfl (pd_callB SkE.call_repr_int ok_repr rfl T.n_repr (by rfl) (pd_cons (pd_var 2) pd_nil)) pd_str) (pd_callB SkE.call_repr_int ok_repr rfl T.n_repr (by rfl) (pd_cons (pd_var 3) pd_nil)))))) (pds_one (pds_let 1 nd (px_va (pd_add rfl (pd_add rfl (pd_var 1) (pd_srep pd_str (pd_callTy call_intA ok_toInt rfl T.n_int (by rfl) (pd_cons (pd_cmp (op_neD (u64 hr)) ok_ne (pd_var 1) pd_str (nomark _)) pd_nil)))) (pd_var 4))))))) (pds_one (pds_ret (pd_if (pd_tcmp (op_neD (u64 hr)) ok_ne (pd_var 1) pd_str (nomark _)) (pd_var 1) pd_str)))))
/-! ### law_rule_line -/
abbrev s_law_rule_line : Stmt := top 29
noncomputable def d_law_rule_line : Nat → M Fl
  | 0 => no
  | n + 1 => (seqM (iteM (tst (op2 eqD (op2 ixD (getv 0) (pure (.int 0))) (pure (.str "in")))) (retM (op2 addD (op2 addD (callM (one reprI) (consM (op2 ixD (getv 0) (pure (.int 1))) (pure []))) (pure (.str ":"))) (callG 5 1 d_law_set_line (consM (op2 ixD (getv 0) (pure (.int 2))) (pure []))))) (pure .nx)) (retM (m1M joinD (pure (.str " ")) (op2 addD (lstM (consM (op2 ixD (getv 0) (pure (.int 0))) (pure []))) (ltM (lcM (iT (sliceM (getv 0) (partM (pure (.int 1))) (pure none))) (setv 1) (pure true) (callG 2 1 (d_law_rule_line n) (consM (getv 1) (pure []))) [1]))))))
theorem sc_law_rule_line : FnScope ["rule", "part"] ["rule"] (defScope s_law_rule_line) := ⟨rfl, rfl, rfl, by decide +kernel, rfl, by decide +kernel, by decide +kernel⟩
theorem ok_law_rule_line {P : Program} {w : World} {K : PySem.W.Frag} {mg : Str → Option Value} {base : Heap} {fd : FuncData} (T : Txt w K mg) (H_law_set_line : Hs (Cc K) P w mg base "_law_set_line" (He.ga K "_law_set_line") 1 ["spans"] 5 1 d_law_set_line)
    (hm : mg "_law_rule_line" = some (.ref (He.ga K "_law_rule_line"))) (F : FunD K "_law_rule_line" "_law_rule_line" (defArgs s_law_rule_line) (defBody s_law_rule_line) (defScope s_law_rule_line) [] [] (He.ga K "_law_rule_line") fd) : ∀ n : Nat, Hs (Cc K) P w mg base "_law_rule_line" (He.ga K "_law_rule_line") (n + 2) ["rule"] 2 1 (d_law_rule_line n)
  | 0 => hs_mono (k := 1) (by
    refine hs_of (C := Cc K) (N := ["rule", "part"]) F sc_law_rule_line hm (fun _ _ _ _ _ _ us hl => match us, hl with | [_], _ => rfl) (fun _ _ _ _ _ _ us hl => match us, hl with | [_], _ => rfl) fun cdv A outer s H E hr => ?_
    exact pss_no) (by omega)
  | n + 1 => by
    have H_law_rule_line : Hs (Cc K) P w mg base "_law_rule_line" (He.ga K "_law_rule_line") (n + 2) ["rule"] 2 1 (d_law_rule_line n) := ok_law_rule_line T H_law_set_line hm F n
    refine hs_mono (k := (n + 2) + 1) ?_ (by omega)
    refine hs_of (C := Cc K) (N := ["rule", "part"]) F sc_law_rule_line hm (fun _ _ _ _ _ _ us hl => match us, hl with | [_], _ => rfl) (fun _ _ _ _ _ _ us hl => match us, hl with | [_], _ => rfl) fun cdv A outer s H E hr => ?_
    have nd := sc_law_rule_line.nd
    have po := passes_of (X := cxOf (L2.CX P w) P w K mg base ["rule", "part"] "_law_rule_line" (defScope s_law_rule_line) (He.ga K "_law_rule_line") cdv A outer s H E) rfl
    have tk := takes_of (X := cxOf (L2.CX P w) P w K mg base ["rule", "part"] "_law_rule_line" (defScope s_law_rule_line) (He.ga K "_law_rule_line") cdv A outer s H E) rfl rfl rfl rfl
    exact (pds_cons (pds_if (pd_tcmp (op_eqD (u64 hr)) ok_eq (pd_ix rfl (pd_var 0) pd_int) pd_str (nomark _)) (pds_one (pds_ret (pd_add rfl (pd_add rfl (pd_callB SkE.call_repr_int ok_repr rfl T.n_repr (by rfl) (pd_cons (pd_ix rfl (pd_var 0) pd_int) pd_nil)) pd_str) (pd_callH rfl H_law_set_line hr tk (pd_cons (pd_ix rfl (pd_var 0) pd_int) pd_nil) (hk := by omega))))) pds_nil) (pds_one (pds_ret (pd_join rfl pd_str (pd_add rfl (pd_lst (pd_cons (pd_ix rfl (pd_var 0) pd_int) pd_nil)) (pd_of_l (pl_lc (own := [("part", 1)]) rfl nd (pd_itup rfl (pd_slice rfl (pd_var 0) (pd_psome pd_int) pd_pnone)) (blkOk_by (N := ["rule", "part"]) (sc := defScope s_law_rule_line) (by decide +kernel)) (fun _ _ _ _ _ => (pd_gname 1 nd rfl (by first | exact Or.inl rfl | exact Or.inr rfl))) (fun _ _ _ _ _ => pd_yes) (fun _ _ _ _ _ => (pd_callH rfl H_law_rule_line hr takes0 (pd_cons (pd_var 1) pd_nil) (hk := by omega))))))))))
/-! ### law_far_spans -/
abbrev s_law_far_spans : Stmt := top 30
noncomputable def d_law_far_spans : M Fl := (seqM (par2M 2 3 (lsM (dspL (pure []))) (vaM (callO 5 2 0 d_law_drip (consM (op2 ixD (lstM (consM (pure (.int 2)) (consM (op2 powD (pure (.int 10)) (pure (.int 29))) (pure [])))) (callO 5 2 0 d_law_drip (consM (pure (.int 2)) (pure [])))) (pure []))))) (seqM (forM (iR1 (consM (callO 5 2 0 d_law_drip (consM (op2 addD (getv 1) (pure (.int 1))) (pure []))) (pure []))) (setv 4) (seqM (letM 5 (vaM (op2 addD (getv 3) (op2 ixD (lstM (consM (pure (.int 0)) (consM (pure (.int 0)) (consM (pure (.int 1)) (consM (callO 5 2 0 d_law_drip (consM (op2 powD (pure (.int 10)) (pure (.int 28))) (pure []))) (pure [])))))) (callO 5 2 0 d_law_drip (consM (pure (.int 4)) (pure []))))))) (seqM (iteM (tst (op2 ltD (getv 5) (op2 powD (pure (.int 10)) (pure (.int 30))))) (dropM (owM 2 apD (consM (tupM (consM (getv 3) (consM (getv 5) (pure [])))) (pure [])))) (pure .nx)) (letM 3 (vaM (op2 addD (op2 addD (getv 5) (pure (.int 2))) (op2 ixD (lstM (consM (pure (.int 0)) (consM (pure (.int 1)) (consM (callO 5 2 0 d_law_drip (consM (op2 powD (pure (.int 10)) (pure (.int 28))) (pure []))) (pure []))))) (callO 5 2 0 d_law_drip (consM (pure (.int 3)) (pure [])))))))))) (seqM (iteM (Pd.andM (tst (op2 eqD (callO 5 2 0 d_law_drip (consM (pure (.int 4)) (pure []))) (pure (.int 0)))) (Pd.andM (tst (peek (op2 neD (getv 2) (lstM (pure []))))) (Pd.andM (tst (peek (op2 ltD (op2 ixD (ixv 2 (unD negD (pure (.int 1)))) (pure (.int 1))) (op2 subD (op2 powD (pure (.int 10)) (pure (.int 30))) (pure (.int 2)))))) (tst (peek (op2 ltD (lenv 2) (getv 1))))))) (dropM (owM 2 apD (consM (tupM (consM (op2 subD (op2 powD (pure (.int 10)) (pure (.int 30))) (pure (.int 1))) (consM (op2 subD (op2 powD (pure (.int 10)) (pure (.int 30))) (pure (.int 1))) (pure [])))) (pure [])))) (pure .nx)) (rovM 2))))
theorem sc_law_far_spans : FnScope ["flask", "most_here", "found", "at", "turn", "last"] ["flask", "most_here"] (defScope s_law_far_spans) := ⟨rfl, rfl, rfl, by decide +kernel, rfl, by decide +kernel, by decide +kernel⟩
theorem ok_law_far_spans {P : Program} {w : World} {K : PySem.W.Frag} {mg : Str → Option Value} {base : Heap} {fd : FuncData} (T : Txt w K mg) (H_law_drip : Hs (Cc K) P w mg base "_law_drip" (He.ga K "_law_drip") 1 ["flask", "sides"] 5 2 d_law_drip)
    (hm : mg "_law_far_spans" = some (.ref (He.ga K "_law_far_spans"))) (F : FunD K "_law_far_spans" "_law_far_spans" (defArgs s_law_far_spans) (defBody s_law_far_spans) (defScope s_law_far_spans) [] [] (He.ga K "_law_far_spans") fd) :
    Hs (Cc K) P w mg base "_law_far_spans" (He.ga K "_law_far_spans") 2 ["flask", "most_here"] 6 2 d_law_far_spans := by
    refine hs_of (C := Cc K) (N := ["flask", "most_here", "found", "at", "turn", "last"]) F sc_law_far_spans hm (fun _ _ _ _ _ _ us hl => match us, hl with | [_, _], _ => rfl) (fun _ _ _ _ _ _ us hl => match us, hl with | [_, _], _ => rfl) fun cdv A outer s H E hr => ?_
    have nd := sc_law_far_spans.nd
    have po := passes_of (X := cxOf (L2.CX P w) P w K mg base ["flask", "most_here", "found", "at", "turn", "last"] "_law_far_spans" (defScope s_law_far_spans) (He.ga K "_law_far_spans") cdv A outer s H E) rfl
    have tk := takes_of (X := cxOf (L2.CX P w) P w K mg base ["flask", "most_here", "found", "at", "turn", "last"] "_law_far_spans" (defScope s_law_far_spans) (He.ga K "_law_far_spans") cdv A outer s H E) rfl rfl rfl rfl
    exact (pds_cons (pds_par2 2 3 rfl nd (by decide) (px_ls (pl_lst pd_nil)) (px_va (pd_callOH 0 rfl H_law_drip hr tk (pd_cons (pd_ix rfl (pd_lst (pd_cons pd_int (pd_cons (pd_pow pd_int pd_int) pd_nil))) (pd_callOH 0 rfl H_law_drip hr tk (pd_cons pd_int pd_nil))) pd_nil)))) (pds_cons (pds_for po rfl (pd_irng1 rfl T.n_range (pd_cons (pd_callOH 0 rfl H_law_drip hr tk (pd_cons (pd_add rfl (pd_var 1) pd_int) pd_nil)) pd_nil)) (pd_gname 4 nd rfl (by first | exact Or.inl rfl | exact Or.inr rfl)) (pds_cons (pds_let 5 nd (px_va (pd_add rfl (pd_var 3) (pd_ix rfl (pd_lst (pd_cons pd_int (pd_cons pd_int (pd_cons pd_int (pd_cons (pd_callOH 0 rfl H_law_drip hr tk (pd_cons (pd_pow pd_int pd_int) pd_nil)) pd_nil))))) (pd_callOH 0 rfl H_law_drip hr tk (pd_cons pd_int pd_nil)))))) (pds_cons (pds_if (pd_tcmp op_lt ok_lt (pd_var 5) (pd_pow pd_int pd_int) (nomark _)) (pds_one (pds_expr (pd_append 2 rfl (pd_cons (pd_tup (pd_cons (pd_var 3) (pd_cons (pd_var 5) pd_nil))) pd_nil)))) pds_nil) (pds_one (pds_let 3 nd (px_va (pd_add rfl (pd_add rfl (pd_var 5) pd_int) (pd_ix rfl (pd_lst (pd_cons pd_int (pd_cons pd_int (pd_cons (pd_callOH 0 rfl H_law_drip hr tk (pd_cons (pd_pow pd_int pd_int) pd_nil)) pd_nil)))) (pd_callOH 0 rfl H_law_drip hr tk (pd_cons pd_int pd_nil)))))))))) (pds_cons (pds_if (PW.pt (pd_and (pd_tcmp (op_eqD (u64 hr)) ok_eq (pd_callOH 0 rfl H_law_drip hr tk (pd_cons pd_int pd_nil)) pd_int (nomark _)) (pd_and (pd_tpeek (pd_tcmp (op_neD (u64 hr)) ok_ne (pd_var 2) (pd_lst pd_nil) (nomark _))) (pd_and (pd_tpeek (pd_tcmp op_lt ok_lt (pd_ix rfl (pd_ixv 2 rfl (pd_neg pd_int)) pd_int) (pd_sub (pd_pow pd_int pd_int) pd_int) (nomark _))) (pd_and1 (pd_tpeek (pd_tcmp op_lt ok_lt (pd_lenv 2 rfl rfl T.n_len) (pd_var 1) (nomark _)))))))) (pds_one (pds_expr (pd_append 2 rfl (pd_cons (pd_tup (pd_cons (pd_sub (pd_pow pd_int pd_int) pd_int) (pd_cons (pd_sub (pd_pow pd_int pd_int) pd_int) pd_nil))) pd_nil)))) pds_nil) (pds_one (pds_rov 2)))))
/-! ### law_lane_line -/
abbrev s_law_lane_line : Stmt := top 31
noncomputable def d_law_lane_line : M Fl := (retM (m1M joinD (pure (.str " ")) (ltM (lcM (iL (getv 0)) (gtup (gcons (setv 1) (gcons (setv 2) gnil))) (pure true) (op2 addD (op2 ixD (lstM (consM (pure (.str "-")) (consM (pure (.str "+")) (pure [])))) (callM (one toInt) (consM (getv 2) (pure [])))) (callM (one reprI) (consM (getv 1) (pure [])))) [1, 2]))))
theorem sc_law_lane_line : FnScope ["lane", "column", "up"] ["lane"] (defScope s_law_lane_line) := ⟨rfl, rfl, rfl, by decide +kernel, rfl, by decide +kernel, by decide +kernel⟩
theorem ok_law_lane_line {P : Program} {w : World} {K : PySem.W.Frag} {mg : Str → Option Value} {base : Heap} {fd : FuncData} (T : Txt w K mg)
    (hm : mg "_law_lane_line" = some (.ref (He.ga K "_law_lane_line"))) (F : FunD K "_law_lane_line" "_law_lane_line" (defArgs s_law_lane_line) (defBody s_law_lane_line) (defScope s_law_lane_line) [] [] (He.ga K "_law_lane_line") fd) :
    Hs (Cc K) P w mg base "_law_lane_line" (He.ga K "_law_lane_line") 1 ["lane"] 3 1 d_law_lane_line := by
    refine hs_of (C := Cc K) (N := ["lane", "column", "up"]) F sc_law_lane_line hm (fun _ _ _ _ _ _ us hl => match us, hl with | [_], _ => rfl) (fun _ _ _ _ _ _ us hl => match us, hl with | [_], _ => rfl) fun cdv A outer s H E hr => ?_
    have nd := sc_law_lane_line.nd
    have po := passes_of (X := cxOf (L2.CX P w) P w K mg base ["lane", "column", "up"] "_law_lane_line" (defScope s_law_lane_line) (He.ga K "_law_lane_line") cdv A outer s H E) rfl
    have tk := takes_of (X := cxOf (L2.CX P w) P w K mg base ["lane", "column", "up"] "_law_lane_line" (defScope s_law_lane_line) (He.ga K "_law_lane_line") cdv A outer s H E) rfl rfl rfl rfl
    exact (pds_one (pds_ret (pd_join rfl pd_str (pd_of_l (pl_lc (own := [("column", 1), ("up", 2)]) rfl nd (pd_ilist rfl (pd_var 0)) (blkOk_by (N := ["lane", "column", "up"]) (sc := defScope s_law_lane_line) (by decide +kernel)) (fun _ _ _ _ _ => (pd_gtup rfl rfl (pd_gcons (pd_gname 1 nd rfl (by first | exact Or.inl rfl | exact Or.inr rfl)) (pd_gcons (pd_gname 2 nd rfl (by first | exact Or.inl rfl | exact Or.inr rfl)) pd_gnil)) (gcons_len' (gcons_len' gnil_len)))) (fun _ _ _ _ _ => pd_yes) (fun _ _ _ _ _ => (pd_add rfl (pd_ix rfl (pd_lst (pd_cons pd_str (pd_cons pd_str pd_nil))) (pd_callTy call_intA ok_toInt rfl T.n_int (by rfl) (pd_cons (pd_var 2) pd_nil))) (pd_callB SkE.call_repr_int ok_repr rfl T.n_repr (by rfl) (pd_cons (pd_var 1) pd_nil)))))))))
/-! ### law_lane_right -/
abbrev s_law_lane_right : Stmt := top 32
noncomputable def d_law_lane_right : M Fl := (seqM (par2M 1 2 (vaM (callM (one reprL) (consM (getv 0) (pure [])))) (vaM (callG 3 1 d_law_lane_line (consM (getv 0) (pure []))))) (seqM (iteM (Pd.orM (tst (op2 neD (lstM (consM (callG 3 1 d_write_order (consM (getv 0) (pure []))) (consM (callG 3 1 d_write_order (consM (getv 0) (pure []))) (pure [])))) (repM (dspL (consM (getv 2) (pure []))) (pure (.int 2))))) (tst (op2 neD (callM (one reprL) (consM (getv 0) (pure []))) (getv 1)))) (retM (pure (.bl false))) (pure .nx)) (demM 3 (consL (callL 9 1 d_read_order (consM (getv 2) (pure []))) (consL (callL 9 1 d_read_order (consM (getv 2) (pure []))) (pure []))) (seqM (dropM (itM 3 0 apD [.non])) (retM (peek (op2 eqD (callM (one reprL) (consM (lstM (consM (op2 ixD (getv 3) (pure (.int 1))) (consM (sliceM (op2 ixD (getv 3) (pure (.int 0))) (pure none) (partM (unD negD (pure (.int 1))))) (consM (callG 9 1 d_read_order (consM (getv 2) (pure []))) (pure []))))) (pure []))) (callM (one reprL) (consM (repM (dspL (consM (getv 0) (pure []))) (pure (.int 3))) (pure []))))))))))
theorem sc_law_lane_right : FnScope ["lane", "kept", "due", "told"] ["lane"] (defScope s_law_lane_right) := ⟨rfl, rfl, rfl, by decide +kernel, rfl, by decide +kernel, by decide +kernel⟩
theorem ok_law_lane_right {P : Program} {w : World} {K : PySem.W.Frag} {mg : Str → Option Value} {base : Heap} {fd : FuncData} (T : Txt w K mg) (Hread_order : Hs (Cc K) P w mg base "read_order" (He.ga K "read_order") 3 ["text"] 9 1 d_read_order) (Hwrite_order : Hs (Cc K) P w mg base "write_order" (He.ga K "write_order") 1 ["order"] 3 1 d_write_order) (H_law_lane_line : Hs (Cc K) P w mg base "_law_lane_line" (He.ga K "_law_lane_line") 1 ["lane"] 3 1 d_law_lane_line)
    (hm : mg "_law_lane_right" = some (.ref (He.ga K "_law_lane_right"))) (F : FunD K "_law_lane_right" "_law_lane_right" (defArgs s_law_lane_right) (defBody s_law_lane_right) (defScope s_law_lane_right) [] [] (He.ga K "_law_lane_right") fd) :
    HsG (Cc K) P w mg base "_law_lane_right" (He.ga K "_law_lane_right") 4 ["lane"] 4 1 d_law_lane_right := by
    refine hsG_of (C := Cc K) (N := ["lane", "kept", "due", "told"]) F sc_law_lane_right hm (fun _ _ _ _ _ _ us hl => match us, hl with | [_], _ => rfl) (fun _ _ _ _ _ _ us hl => match us, hl with | [_], _ => rfl) fun cdv A outer s H E hG => ?_
    have hr := hG.rm
    have nd := sc_law_lane_right.nd
    have po := passes_of (X := cxOf (L2.CX P w) P w K mg base ["lane", "kept", "due", "told"] "_law_lane_right" (defScope s_law_lane_right) (He.ga K "_law_lane_right") cdv A outer s H E) rfl
    have tk := takes_of (X := cxOf (L2.CX P w) P w K mg base ["lane", "kept", "due", "told"] "_law_lane_right" (defScope s_law_lane_right) (He.ga K "_law_lane_right") cdv A outer s H E) rfl rfl rfl rfl
    exact (pds_cons (pds_par2 1 2 rfl nd (by decide) (px_va (pd_callB (call_reprL hG.gd (u64 hr)) ok_reprL' rfl T.n_repr (by rfl) (pd_cons (pd_var 0) pd_nil))) (px_va (pd_callH rfl H_law_lane_line hr tk (pd_cons (pd_var 0) pd_nil)))) (pds_cons (pds_if (PW.pt (pd_or (pd_tcmp (op_neD (u64 hr)) ok_ne (pd_lst (pd_cons (pd_callH rfl Hwrite_order hr tk (pd_cons (pd_var 0) pd_nil)) (pd_cons (pd_callKH rfl Hwrite_order hr tk (pdk_cons (pd_var 0) pdk_nil)) pd_nil))) (pd_rep (pl_lst (pd_cons (pd_var 2) pd_nil)) pd_int) (nomark _)) (pd_or1 (pd_tcmp (op_neD (u64 hr)) ok_ne (pd_callB (call_reprL hG.gd (u64 hr)) ok_reprL' rfl T.n_repr (by rfl) (pd_cons (pd_var 0) pd_nil)) (pd_var 1) (nomark _))))) (pds_one (pds_ret pd_bl)) pds_nil) (pds_dem 3 nd (pls_cons (pl_callH rfl Hread_order hr tk (pd_cons (pd_var 2) pd_nil)) (pls_cons (pl_callKH rfl Hread_order hr tk (pdk_cons (pd_var 2) pdk_nil)) pls_nil)) (pds_cons (pds_expr (pd_itAppend 3 0 rfl rfl (pd_const1 pd_non))) (pds_one (pds_ret (pd_peek (pd_cmp (op_eqD (u64 hr)) ok_eq (pd_callB (call_reprL hG.gd (u64 hr)) ok_reprL' rfl T.n_repr (by rfl) (pd_cons (pd_lst (pd_cons (pd_ix rfl (pd_var 3) pd_int) (pd_cons (pd_slice rfl (pd_ix rfl (pd_var 3) pd_int) pd_pnone (pd_psome (pd_neg pd_int))) (pd_cons (pd_callH rfl Hread_order hr tk (pd_cons (pd_var 2) pd_nil)) pd_nil)))) pd_nil)) (pd_callB (call_reprL hG.gd (u64 hr)) ok_reprL' rfl T.n_repr (by rfl) (pd_cons (pd_rep (pl_lst (pd_cons (pd_var 0) pd_nil)) pd_int) pd_nil)) (nomark _)))))))))
/-! ### law_rule_right -/
abbrev s_law_rule_right : Stmt := top 33
noncomputable def d_law_rule_right : M Fl := (seqM (par2M 1 2 (vaM (callM (one reprL) (consM (getv 0) (pure [])))) (vaM (callG 2 1 (d_law_rule_line 25) (consM (getv 0) (pure []))))) (seqM (iteM (Pd.orM (tst (op2 neD (lstM (consM (callG 2 1 (d_write_condition 25) (consM (getv 0) (pure []))) (consM (callG 2 1 (d_write_condition 25) (consM (getv 0) (pure []))) (pure [])))) (repM (dspL (consM (getv 2) (pure []))) (pure (.int 2))))) (tst (op2 neD (callM (one reprL) (consM (getv 0) (pure []))) (getv 1)))) (retM (pure (.bl false))) (pure .nx)) (freshM 3 4 (callG 3 1 d_read_condition (consM (getv 2) (pure []))) (callG 3 1 d_read_condition (consM (getv 2) (pure []))) (tst (op2 neD (callM (one reprL) (consM (getv 3) (pure []))) (callM (one reprL) (consM (repM (dspL (consM (getv 0) (pure []))) (pure (.int 2))) (pure []))))) (retM (pure (.bl false))) (retM (op2 eqD (callM (one reprL) (consM (lstM (consM (tixM 3 1) (consM (callG 3 1 d_read_condition (consM (getv 2) (pure []))) (pure [])))) (pure []))) (callM (one reprL) (consM (repM (dspL (consM (getv 0) (pure []))) (pure (.int 2))) (pure []))))) 3 (d_law_parts 25))))
theorem sc_law_rule_right : FnScope ["rule", "kept", "due", "told", "part"] ["rule"] (defScope s_law_rule_right) := ⟨rfl, rfl, rfl, by decide +kernel, rfl, by decide +kernel, by decide +kernel⟩
theorem ok_law_rule_right {P : Program} {w : World} {K : PySem.W.Frag} {mg : Str → Option Value} {base : Heap} {fd : FuncData} (T : Txt w K mg) (Hread_condition : Hs (Cc K) P w mg base "read_condition" (He.ga K "read_condition") 31 ["text"] 3 1 d_read_condition) (H_law_parts : Hs (Cc K) P w mg base "_law_parts" (He.ga K "_law_parts") (25 + 1) ["rule"] 3 1 (d_law_parts 25)) (Hwrite_condition : Hs (Cc K) P w mg base "write_condition" (He.ga K "write_condition") (25 + 2) ["condition"] 2 1 (d_write_condition 25)) (H_law_rule_line : Hs (Cc K) P w mg base "_law_rule_line" (He.ga K "_law_rule_line") (25 + 2) ["rule"] 2 1 (d_law_rule_line 25))
    (hm : mg "_law_rule_right" = some (.ref (He.ga K "_law_rule_right"))) (F : FunD K "_law_rule_right" "_law_rule_right" (defArgs s_law_rule_right) (defBody s_law_rule_right) (defScope s_law_rule_right) [] [] (He.ga K "_law_rule_right") fd) :
    HsG (Cc K) P w mg base "_law_rule_right" (He.ga K "_law_rule_right") 32 ["rule"] 5 1 d_law_rule_right := by
    refine hsG_of (C := Cc K) (N := ["rule", "kept", "due", "told", "part"]) F sc_law_rule_right hm (fun _ _ _ _ _ _ us hl => match us, hl with | [_], _ => rfl) (fun _ _ _ _ _ _ us hl => match us, hl with | [_], _ => rfl) fun cdv A outer s H E hG => ?_
    have hr := hG.rm
    have nd := sc_law_rule_right.nd
    have po := passes_of (X := cxOf (L2.CX P w) P w K mg base ["rule", "kept", "due", "told", "part"] "_law_rule_right" (defScope s_law_rule_right) (He.ga K "_law_rule_right") cdv A outer s H E) rfl
    have tk := takes_of (X := cxOf (L2.CX P w) P w K mg base ["rule", "kept", "due", "told", "part"] "_law_rule_right" (defScope s_law_rule_right) (He.ga K "_law_rule_right") cdv A outer s H E) rfl rfl rfl rfl
    exact (pds_cons (pds_par2 1 2 rfl nd (by decide) (px_va (pd_callB (call_reprL hG.gd (u64 hr)) ok_reprL' rfl T.n_repr (by rfl) (pd_cons (pd_var 0) pd_nil))) (px_va (pd_callH rfl H_law_rule_line hr tk (pd_cons (pd_var 0) pd_nil)))) (pds_cons (pds_if (PW.pt (pd_or (pd_tcmp (op_neD (u64 hr)) ok_ne (pd_lst (pd_cons (pd_callH rfl Hwrite_condition hr tk (pd_cons (pd_var 0) pd_nil)) (pd_cons (pd_callKH rfl Hwrite_condition hr tk (pdk_cons (pd_var 0) pdk_nil)) pd_nil))) (pd_rep (pl_lst (pd_cons (pd_var 2) pd_nil)) pd_int) (nomark _)) (pd_or1 (pd_tcmp (op_neD (u64 hr)) ok_ne (pd_callB (call_reprL hG.gd (u64 hr)) ok_reprL' rfl T.n_repr (by rfl) (pd_cons (pd_var 0) pd_nil)) (pd_var 1) (nomark _))))) (pds_one (pds_ret pd_bl)) pds_nil) (pds_fresh 3 4 (by decide) rfl nd po rfl T.l_no (pd_callH rfl Hread_condition hr tk (pd_cons (pd_var 2) pd_nil)) (pd_callKH rfl Hread_condition hr tk (pdk_cons (pd_var 2) pdk_nil)) (pd_tcmp (op_neD (u64 hr)) ok_ne (pd_callB (call_reprL hG.gd (u64 hr)) ok_reprL' rfl T.n_repr (by rfl) (pd_cons (pd_var 3) pd_nil)) (pd_callB (call_reprL hG.gd (u64 hr)) ok_reprL' rfl T.n_repr (by rfl) (pd_cons (pd_rep (pl_lst (pd_cons (pd_var 0) pd_nil)) pd_int) pd_nil)) (nomark _)) (pds_one (pds_ret pd_bl)) H_law_parts hr (pds_one (pds_ret (pd_cmp (op_eqD (u64 hr)) ok_eq (pd_callB (call_reprL hG.gd (u64 hr)) ok_reprL' rfl T.n_repr (by rfl) (pd_cons (pd_lst (pd_cons (pd_tix 3 1 rfl) (pd_cons (pd_callH rfl Hread_condition hr tk (pd_cons (pd_var 2) pd_nil)) pd_nil))) pd_nil)) (pd_callB (call_reprL hG.gd (u64 hr)) ok_reprL' rfl T.n_repr (by rfl) (pd_cons (pd_rep (pl_lst (pd_cons (pd_var 0) pd_nil)) pd_int) pd_nil)) (nomark _)))))))
/-! ### law_any -/
abbrev s_law_any : Stmt := top 34
noncomputable def d_law_any : Nat → M Fl
  | 0 => no
  | n + 1 => (seqM (letM 2 (vaM (callO 5 2 0 d_law_drip (consM (pure (.int 5)) (pure []))))) (seqM (iteM (Pd.orM (tst (op2 ltD (getv 1) (pure (.int 2)))) (tst (op2 ltD (getv 2) (pure (.int 2))))) (retM (tupM (consM (pure (.str "in")) (consM (callO 5 2 0 d_law_drip (consM (pure (.int 8)) (pure []))) (consM (callO 6 2 0 d_law_far_spans (consM (pure (.int 3)) (pure []))) (pure [])))))) (pure .nx)) (seqM (iteM (tst (op2 eqD (getv 2) (pure (.int 2)))) (retM (tupM (consM (pure (.str "not")) (consM (callO 3 2 0 (d_law_any n) (consM (op2 subD (getv 1) (pure (.int 1))) (pure []))) (pure []))))) (pure .nx)) (retM (tupM (consM (op2 ixD (lstM (consM (pure (.str "or")) (consM (pure (.str "and")) (pure [])))) (op2 modD (callM (one toInt) (consM (getv 2) (pure []))) (pure (.int 2)))) (consM (callO 3 2 0 (d_law_any n) (consM (op2 subD (getv 1) (pure (.int 1))) (pure []))) (consM (callO 3 2 0 (d_law_any n) (consM (op2 subD (getv 1) (pure (.int 1))) (pure []))) (pure [])))))))))
theorem sc_law_any : FnScope ["flask", "deep", "way"] ["flask", "deep"] (defScope s_law_any) := ⟨rfl, rfl, rfl, by decide +kernel, rfl, by decide +kernel, by decide +kernel⟩
theorem ok_law_any {P : Program} {w : World} {K : PySem.W.Frag} {mg : Str → Option Value} {base : Heap} {fd : FuncData} (T : Txt w K mg) (H_law_far_spans : Hs (Cc K) P w mg base "_law_far_spans" (He.ga K "_law_far_spans") 2 ["flask", "most_here"] 6 2 d_law_far_spans) (H_law_drip : Hs (Cc K) P w mg base "_law_drip" (He.ga K "_law_drip") 1 ["flask", "sides"] 5 2 d_law_drip)
    (hm : mg "_law_any" = some (.ref (He.ga K "_law_any"))) (F : FunD K "_law_any" "_law_any" (defArgs s_law_any) (defBody s_law_any) (defScope s_law_any) [] [] (He.ga K "_law_any") fd) : ∀ n : Nat, Hs (Cc K) P w mg base "_law_any" (He.ga K "_law_any") (n + 3) ["flask", "deep"] 3 2 (d_law_any n)
  | 0 => hs_mono (k := 1) (by
    refine hs_of (C := Cc K) (N := ["flask", "deep", "way"]) F sc_law_any hm (fun _ _ _ _ _ _ us hl => match us, hl with | [_, _], _ => rfl) (fun _ _ _ _ _ _ us hl => match us, hl with | [_, _], _ => rfl) fun cdv A outer s H E hr => ?_
    exact pss_no) (by omega)
  | n + 1 => by
    have H_law_any : Hs (Cc K) P w mg base "_law_any" (He.ga K "_law_any") (n + 3) ["flask", "deep"] 3 2 (d_law_any n) := ok_law_any T H_law_far_spans H_law_drip hm F n
    refine hs_mono (k := (n + 3) + 1) ?_ (by omega)
    refine hs_of (C := Cc K) (N := ["flask", "deep", "way"]) F sc_law_any hm (fun _ _ _ _ _ _ us hl => match us, hl with | [_, _], _ => rfl) (fun _ _ _ _ _ _ us hl => match us, hl with | [_, _], _ => rfl) fun cdv A outer s H E hr => ?_
    have nd := sc_law_any.nd
    have po := passes_of (X := cxOf (L2.CX P w) P w K mg base ["flask", "deep", "way"] "_law_any" (defScope s_law_any) (He.ga K "_law_any") cdv A outer s H E) rfl
    have tk := takes_of (X := cxOf (L2.CX P w) P w K mg base ["flask", "deep", "way"] "_law_any" (defScope s_law_any) (He.ga K "_law_any") cdv A outer s H E) rfl rfl rfl rfl
    exact (pds_cons (pds_let 2 nd (px_va (pd_callOH 0 rfl H_law_drip hr tk (pd_cons pd_int pd_nil) (hk := by omega)))) (pds_cons (pds_if (PW.pt (pd_or (pd_tcmp op_lt ok_lt (pd_var 1) pd_int (nomark _)) (pd_or1 (pd_tcmp op_lt ok_lt (pd_var 2) pd_int (nomark _))))) (pds_one (pds_ret (pd_tup (pd_cons pd_str (pd_cons (pd_callOH 0 rfl H_law_drip hr tk (pd_cons pd_int pd_nil) (hk := by omega)) (pd_cons (pd_callOH 0 rfl H_law_far_spans hr tk (pd_cons pd_int pd_nil) (hk := by omega)) pd_nil)))))) pds_nil) (pds_cons (pds_if (pd_tcmp (op_eqD (u64 hr)) ok_eq (pd_var 2) pd_int (nomark _)) (pds_one (pds_ret (pd_tup (pd_cons pd_str (pd_cons (pd_callOH 0 rfl H_law_any hr tk (pd_cons (pd_sub (pd_var 1) pd_int) pd_nil) (hk := by omega)) pd_nil))))) pds_nil) (pds_one (pds_ret (pd_tup (pd_cons (pd_ix rfl (pd_lst (pd_cons pd_str (pd_cons pd_str pd_nil))) (pd_mod (pd_callTy call_intA ok_toInt rfl T.n_int (by rfl) (pd_cons (pd_var 2) pd_nil)) pd_int)) (pd_cons (pd_callOH 0 rfl H_law_any hr tk (pd_cons (pd_sub (pd_var 1) pd_int) pd_nil) (hk := by omega)) (pd_cons (pd_callOH 0 rfl H_law_any hr tk (pd_cons (pd_sub (pd_var 1) pd_int) pd_nil) (hk := by omega)) pd_nil)))))))))
/-! ### law_place -/
abbrev s_law_place : Stmt := top 35
noncomputable def d_law_place : M Fl := (tryP 1 "InvalidText" (retM (op2 eqD (callG 3 1 d_read_condition (consM (getv 0) (pure []))) (lstM (pure [])))))
theorem sc_law_place : FnScope ["line", "e"] ["line"] (defScope s_law_place) := ⟨rfl, rfl, rfl, by decide +kernel, rfl, by decide +kernel, by decide +kernel⟩
theorem ok_law_place {P : Program} {w : World} {K : PySem.W.Frag} {mg : Str → Option Value} {base : Heap} {fd : FuncData} (T : Txt w K mg) (Hread_condition : Hs (Cc K) P w mg base "read_condition" (He.ga K "read_condition") 31 ["text"] 3 1 d_read_condition)
    (hm : mg "_law_place" = some (.ref (He.ga K "_law_place"))) (F : FunD K "_law_place" "_law_place" (defArgs s_law_place) (defBody s_law_place) (defScope s_law_place) [] [] (He.ga K "_law_place") fd) :
    Hs (Cc K) P w mg base "_law_place" (He.ga K "_law_place") 32 ["line"] 2 1 d_law_place := by
    refine hs_of (C := Cc K) (N := ["line", "e"]) F sc_law_place hm (fun _ _ _ _ _ _ us hl => match us, hl with | [_], _ => rfl) (fun _ _ _ _ _ _ us hl => match us, hl with | [_], _ => rfl) fun cdv A outer s H E hr => ?_
    have nd := sc_law_place.nd
    have po := passes_of (X := cxOf (L2.CX P w) P w K mg base ["line", "e"] "_law_place" (defScope s_law_place) (He.ga K "_law_place") cdv A outer s H E) rfl
    have tk := takes_of (X := cxOf (L2.CX P w) P w K mg base ["line", "e"] "_law_place" (defScope s_law_place) (He.ga K "_law_place") cdv A outer s H E) rfl rfl rfl rfl
    exact (pds_one (pds_tryP 1 rfl T.x_InvalidText T.i_InvalidText rfl rfl nd ⟨rfl, by decide, .inl T.g_InvalidText⟩ tk (fun W pn xe tk po => (pds_one (pds_ret (pd_cmp (op_eqD (u64 hr)) ok_eq (pd_callH rfl Hread_condition hr tk (pd_cons (pd_var 0) pd_nil)) (pd_lst pd_nil) (nomark _)))))))
/-! ### law -/
abbrev s_law : Stmt := top 36
noncomputable def d_law : M Fl := (seqM (forM (iR1 (consM (op2 addD (pure (.int 5)) (op2 mulD (pure (.int 5)) (callM (two min2D) (consM (callM (one lenD) (consM (getv 0) (pure []))) (consM (pure (.int 3)) (pure [])))))) (pure []))) (setv 2) (seqM (letM 3 (vaM (repM (dspL (consM (pure (.int 1)) (pure []))) (op2 addD (pure (.int 1)) (callO 5 2 1 d_law_drip (consM (pure (.int 8)) (pure []))))))) (iteM (Pd.orM (Pd.notM (tst (callG 4 1 d_law_lane_right (consM (callO 4 2 1 d_law_lane (consM (getv 3) (pure []))) (pure []))))) (Pd.notM (tst (callG 5 1 d_law_rule_right (consM (callO 3 2 1 (d_law_any 5) (consM (pure (.int 4)) (pure []))) (pure [])))))) (retM (pure (.bl false))) (pure .nx)))) (seqM (par3M 4 5 6 (vaM (tupM (consM (pure (.str "in")) (consM (pure (.int 7)) (consM (lstM (consM (tupM (consM (pure (.int 3)) (consM (pure (.int 4)) (pure [])))) (pure []))) (pure [])))))) (vaM (tupM (consM (pure (.str "in")) (consM (pure (.int 0)) (consM (lstM (pure [])) (pure [])))))) (vaM (tupM (consM (pure (.str "in")) (consM (pure (.int 0)) (consM (lstM (pure [])) (pure []))))))) (seqM (forM (iR1 (consM (pure (.int 19)) (pure []))) (setv 7) (letM 4 (vaM (tupM (consM (pure (.str "not")) (consM (getv 4) (pure []))))))) (seqM (forM (iR1 (consM (pure (.int 11)) (pure []))) (setv 7) (par2M 5 6 (vaM (tupM (consM (pure (.str "and")) (consM (getv 5) (consM (tupM (consM (pure (.str "in")) (consM (pure (.int 1)) (consM (lstM (consM (tupM (consM (pure (.int 0)) (consM (pure (.int 0)) (pure [])))) (pure []))) (pure []))))) (pure [])))))) (vaM (tupM (consM (pure (.str "or")) (consM (tupM (consM (pure (.str "in")) (consM (pure (.int 1)) (consM (lstM (consM (tupM (consM (pure (.int 0)) (consM (pure (.int 0)) (pure [])))) (pure []))) (pure []))))) (consM (getv 6) (pure [])))))))) (seqM (iteM (Pd.orM (Pd.notM (tst (callG 5 1 d_law_rule_right (consM (getv 4) (pure []))))) (Pd.orM (Pd.notM (tst (callG 5 1 d_law_rule_right (consM (getv 5) (pure []))))) (Pd.notM (tst (callG 5 1 d_law_rule_right (consM (getv 6) (pure []))))))) (retM (pure (.bl false))) (pure .nx)) (seqM (letM 8 (vaM (lstM (consM (callG 2 1 d_law_place (consM (op2 addD (pure (.str "not ")) (callG 2 1 (d_law_rule_line 25) (consM (getv 4) (pure [])))) (pure []))) (consM (callG 2 1 d_law_place (consM (op2 addD (pure (.str "and 1:0 ")) (callG 2 1 (d_law_rule_line 25) (consM (getv 6) (pure [])))) (pure []))) (pure [])))))) (seqM (letM 8 (vaM (op2 addD (getv 8) (lstM (consM (callG 2 1 d_law_place (consM (op2 addD (op2 addD (pure (.str "or ")) (callG 2 1 (d_law_rule_line 25) (consM (getv 5) (pure [])))) (pure (.str " 1:0"))) (pure []))) (consM (callG 2 1 d_law_place (consM (op2 srepD (pure (.str "not ")) (pure (.int 20))) (pure []))) (pure []))))))) (seqM (letM 9 (vaM (tupM (consM (pure (.str "and")) (consM (tupM (consM (pure (.str "in")) (consM (pure (.int 0)) (consM (lstM (consM (tupM (consM (pure (.int 0)) (consM (pure (.int 1)) (pure [])))) (consM (tupM (consM (pure (.int 5)) (consM (pure (.int 6)) (pure [])))) (pure [])))) (pure []))))) (consM (tupM (consM (pure (.str "not")) (consM (tupM (consM (pure (.str "in")) (consM (pure (.int 2)) (consM (lstM (pure [])) (pure []))))) (pure [])))) (pure []))))))) (retM (andV (op2 eqD (getv 8) (lstM (consM (pure (.int 20)) (consM (pure (.int 24)) (consM (pure (.int 24)) (consM (pure (.int 20)) (pure []))))))) (op2 eqD (callG 3 1 d_read_condition (consM (pure (.str "and 0:0-1,5-6 not 2:-")) (pure []))) (getv 9))))))))))))
theorem sc_law : FnScope ["script", "flask", "lap", "wide", "nots", "left", "right", "turn", "told", "plain"] ["script"] (defScope s_law) := ⟨rfl, rfl, rfl, by decide +kernel, rfl, by decide +kernel, by decide +kernel⟩
theorem ok_law {P : Program} {w : World} {K : PySem.W.Frag} {mg : Str → Option Value} {base : Heap} {fA : Addr} {fd : FuncData} (T : Txt w K mg) (H_law_flask : Hs (Cc K) P w mg base "_law_flask" (He.ga K "_law_flask") 1 ["script"] 3 1 d_law_flask) (Hread_condition : Hs (Cc K) P w mg base "read_condition" (He.ga K "read_condition") 31 ["text"] 3 1 d_read_condition) (H_law_place : Hs (Cc K) P w mg base "_law_place" (He.ga K "_law_place") 32 ["line"] 2 1 d_law_place) (H_law_rule_line : Hs (Cc K) P w mg base "_law_rule_line" (He.ga K "_law_rule_line") (25 + 2) ["rule"] 2 1 (d_law_rule_line 25)) (H_law_rule_right : HsG (Cc K) P w mg base "_law_rule_right" (He.ga K "_law_rule_right") 32 ["rule"] 5 1 d_law_rule_right) (H_law_any : Hs (Cc K) P w mg base "_law_any" (He.ga K "_law_any") (5 + 3) ["flask", "deep"] 3 2 (d_law_any 5)) (H_law_lane_right : HsG (Cc K) P w mg base "_law_lane_right" (He.ga K "_law_lane_right") 4 ["lane"] 4 1 d_law_lane_right) (H_law_lane : Hs (Cc K) P w mg base "_law_lane" (He.ga K "_law_lane") 2 ["flask", "wide"] 4 2 d_law_lane) (H_law_drip : Hs (Cc K) P w mg base "_law_drip" (He.ga K "_law_drip") 1 ["flask", "sides"] 5 2 d_law_drip)
    (F : FunD K "law" "law" (defArgs s_law) (defBody s_law) (defScope s_law) [] [] fA fd) :
    FnG P w (Cc K).K mg base CX0 34 fA fd ["script"] (spLawW (Cc K) ["script", "flask", "lap", "wide", "nots", "left", "right", "turn", "told", "plain"] 3 1 1 d_law_flask (consM (getv 0) (pure [])) fun _ => d_law) := by
  refine fn_lawWG (C := Cc K) rfl F sc_law fun cdv A outer s H E hG => ?_
  have hr := hG.rm
  have nd := sc_law.nd
  have po := passes_of (X := cxOf CX0 P w K mg base ["script", "flask", "lap", "wide", "nots", "left", "right", "turn", "told", "plain"] "law" (defScope s_law) fA cdv A outer s H E) rfl
  exact pds_letWH 1 rfl nd H_law_flask hr takes0 (pd_cons (pd_var 0) pd_nil) fun _ => (pds_cons (pds_for po rfl (pd_irng1 rfl T.n_range (pd_cons (pd_add rfl pd_int (pd_mul pd_int (pd_callB (call_min2 rfl) ok_min2 rfl T.n_min (by rfl) (pd_cons (pd_callB call_len ok_len rfl T.n_len (by rfl) (pd_cons (pd_var 0) pd_nil)) (pd_cons pd_int pd_nil))))) pd_nil)) (pd_gname 2 nd rfl (by first | exact Or.inl rfl | exact Or.inr rfl)) (pds_cons (pds_let 3 nd (px_va (pd_rep (pl_lst (pd_cons pd_int pd_nil)) (pd_add rfl pd_int (pd_callOH 1 rfl H_law_drip hr takes0 (pd_cons pd_int pd_nil)))))) (pds_one (pds_if (PW.pt (pd_or (pd_not (pd_test (pd_callHG rfl H_law_lane_right hG takes0 (pd_cons (pd_callOH 1 rfl H_law_lane hr takes0 (pd_cons (pd_var 3) pd_nil)) pd_nil)))) (pd_or1 (pd_not (pd_test (pd_callHG rfl H_law_rule_right hG takes0 (pd_cons (pd_callOH 1 rfl H_law_any hr takes0 (pd_cons pd_int pd_nil)) pd_nil))))))) (pds_one (pds_ret pd_bl)) pds_nil)))) (pds_cons (pds_par3 4 5 6 rfl nd (by decide) (by decide) (by decide) (px_va (pd_tup (pd_cons pd_str (pd_cons pd_int (pd_cons (pd_lst (pd_cons (pd_tup (pd_cons pd_int (pd_cons pd_int pd_nil))) pd_nil)) pd_nil))))) (px_va (pd_tup (pd_cons pd_str (pd_cons pd_int (pd_cons (pd_lst pd_nil) pd_nil))))) (px_va (pd_tup (pd_cons pd_str (pd_cons pd_int (pd_cons (pd_lst pd_nil) pd_nil)))))) (pds_cons (pds_for po rfl (pd_irng1 rfl T.n_range (pd_cons pd_int pd_nil)) (pd_gname 7 nd rfl (by first | exact Or.inl rfl | exact Or.inr rfl)) (pds_one (pds_let 4 nd (px_va (pd_tup (pd_cons pd_str (pd_cons (pd_var 4) pd_nil))))))) (pds_cons (pds_for po rfl (pd_irng1 rfl T.n_range (pd_cons pd_int pd_nil)) (pd_gname 7 nd rfl (by first | exact Or.inl rfl | exact Or.inr rfl)) (pds_one (pds_par2 5 6 rfl nd (by decide) (px_va (pd_tup (pd_cons pd_str (pd_cons (pd_var 5) (pd_cons (pd_tup (pd_cons pd_str (pd_cons pd_int (pd_cons (pd_lst (pd_cons (pd_tup (pd_cons pd_int (pd_cons pd_int pd_nil))) pd_nil)) pd_nil)))) pd_nil))))) (px_va (pd_tup (pd_cons pd_str (pd_cons (pd_tup (pd_cons pd_str (pd_cons pd_int (pd_cons (pd_lst (pd_cons (pd_tup (pd_cons pd_int (pd_cons pd_int pd_nil))) pd_nil)) pd_nil)))) (pd_cons (pd_var 6) pd_nil)))))))) (pds_cons (pds_if (PW.pt (pd_or (pd_not (pd_test (pd_callHG rfl H_law_rule_right hG takes0 (pd_cons (pd_var 4) pd_nil)))) (pd_or (pd_not (pd_test (pd_callHG rfl H_law_rule_right hG takes0 (pd_cons (pd_var 5) pd_nil)))) (pd_or1 (pd_not (pd_test (pd_callHG rfl H_law_rule_right hG takes0 (pd_cons (pd_var 6) pd_nil)))))))) (pds_one (pds_ret pd_bl)) pds_nil) (pds_cons (pds_let 8 nd (px_va (pd_lst (pd_cons (pd_callH rfl H_law_place hr takes0 (pd_cons (pd_add rfl pd_str (pd_callH rfl H_law_rule_line hr takes0 (pd_cons (pd_var 4) pd_nil))) pd_nil)) (pd_cons (pd_callH rfl H_law_place hr takes0 (pd_cons (pd_add rfl pd_str (pd_callH rfl H_law_rule_line hr takes0 (pd_cons (pd_var 6) pd_nil))) pd_nil)) pd_nil))))) (pds_cons (pds_let 8 nd (px_va (pd_add rfl (pd_var 8) (pd_lst (pd_cons (pd_callH rfl H_law_place hr takes0 (pd_cons (pd_add rfl (pd_add rfl pd_str (pd_callH rfl H_law_rule_line hr takes0 (pd_cons (pd_var 5) pd_nil))) pd_str) pd_nil)) (pd_cons (pd_callH rfl H_law_place hr takes0 (pd_cons (pd_srep pd_str pd_int) pd_nil)) pd_nil)))))) (pds_cons (pds_let 9 nd (px_va (pd_tup (pd_cons pd_str (pd_cons (pd_tup (pd_cons pd_str (pd_cons pd_int (pd_cons (pd_lst (pd_cons (pd_tup (pd_cons pd_int (pd_cons pd_int pd_nil))) (pd_cons (pd_tup (pd_cons pd_int (pd_cons pd_int pd_nil))) pd_nil))) pd_nil)))) (pd_cons (pd_tup (pd_cons pd_str (pd_cons (pd_tup (pd_cons pd_str (pd_cons pd_int (pd_cons (pd_lst pd_nil) pd_nil)))) pd_nil))) pd_nil)))))) (pds_one (pds_ret (pd_vand (pd_cmp (op_eqD (u64 hr)) ok_eq (pd_var 8) (pd_lst (pd_cons pd_int (pd_cons pd_int (pd_cons pd_int (pd_cons pd_int pd_nil))))) (nomark _)) (pd_vone (pd_cmp (op_eqD (u64 hr)) ok_eq (pd_callH rfl Hread_condition hr takes0 (pd_cons pd_str pd_nil)) (pd_var 9) (nomark _))))))))))))))

abbrev s_initConditionReader : Stmt := inCls (top 21) 0
def dfs : List He.DefD := [⟨("InvalidText", some "__init__"), "__init__", "InvalidText.__init__", defArgs s_init, defBody s_init, defScope s_init, [], []⟩,
  ⟨("ConditionReader", some "__init__"), "__init__", "ConditionReader.__init__", defArgs s_initConditionReader, defBody s_initConditionReader, defScope s_initConditionReader, [], []⟩,
  ⟨("figures_in", none), "figures_in", "figures_in", defArgs s_figures_in, defBody s_figures_in, defScope s_figures_in, [], []⟩,
  ⟨("stretch_in", none), "stretch_in", "stretch_in", defArgs s_stretch_in, defBody s_stretch_in, defScope s_stretch_in, [], []⟩,
  ⟨("write_set", none), "write_set", "write_set", defArgs s_write_set, defBody s_write_set, defScope s_write_set, [], []⟩,
  ⟨("read_set", none), "read_set", "read_set", defArgs s_read_set, defBody s_read_set, defScope s_read_set, [], []⟩,
  ⟨("write_order", none), "write_order", "write_order", defArgs s_write_order, defBody s_write_order, defScope s_write_order, [], []⟩,
  ⟨("read_order", none), "read_order", "read_order", defArgs s_read_order, defBody s_read_order, defScope s_read_order, [], []⟩,
  ⟨("write_condition", none), "write_condition", "write_condition", defArgs s_write_condition, defBody s_write_condition, defScope s_write_condition, [], []⟩,
  ⟨("ConditionReader", some "read_simple"), "read_simple", "ConditionReader.read_simple", defArgs s_read_simple, defBody s_read_simple, defScope s_read_simple, [], []⟩,
  ⟨("ConditionReader", some "read_part"), "read_part", "ConditionReader.read_part", defArgs s_read_part, defBody s_read_part, defScope s_read_part, [], []⟩,
  ⟨("read_condition", none), "read_condition", "read_condition", defArgs s_read_condition, defBody s_read_condition, defScope s_read_condition, [], []⟩,
  ⟨("_law_flask", none), "_law_flask", "_law_flask", defArgs s_law_flask, defBody s_law_flask, defScope s_law_flask, [], []⟩,
  ⟨("_law_drip", none), "_law_drip", "_law_drip", defArgs s_law_drip, defBody s_law_drip, defScope s_law_drip, [], []⟩,
  ⟨("_law_parts", none), "_law_parts", "_law_parts", defArgs s_law_parts, defBody s_law_parts, defScope s_law_parts, [], []⟩,
  ⟨("_law_lane", none), "_law_lane", "_law_lane", defArgs s_law_lane, defBody s_law_lane, defScope s_law_lane, [], []⟩,
  ⟨("_law_set_line", none), "_law_set_line", "_law_set_line", defArgs s_law_set_line, defBody s_law_set_line, defScope s_law_set_line, [], []⟩,
  ⟨("_law_rule_line", none), "_law_rule_line", "_law_rule_line", defArgs s_law_rule_line, defBody s_law_rule_line, defScope s_law_rule_line, [], []⟩,
  ⟨("_law_far_spans", none), "_law_far_spans", "_law_far_spans", defArgs s_law_far_spans, defBody s_law_far_spans, defScope s_law_far_spans, [], []⟩,
  ⟨("_law_lane_line", none), "_law_lane_line", "_law_lane_line", defArgs s_law_lane_line, defBody s_law_lane_line, defScope s_law_lane_line, [], []⟩,
  ⟨("_law_lane_right", none), "_law_lane_right", "_law_lane_right", defArgs s_law_lane_right, defBody s_law_lane_right, defScope s_law_lane_right, [], []⟩,
  ⟨("_law_rule_right", none), "_law_rule_right", "_law_rule_right", defArgs s_law_rule_right, defBody s_law_rule_right, defScope s_law_rule_right, [], []⟩,
  ⟨("_law_any", none), "_law_any", "_law_any", defArgs s_law_any, defBody s_law_any, defScope s_law_any, [], []⟩,
  ⟨("_law_place", none), "_law_place", "_law_place", defArgs s_law_place, defBody s_law_place, defScope s_law_place, [], []⟩,
  ⟨("law", none), "law", "law", defArgs s_law, defBody s_law, defScope s_law, [], []⟩]
theorem sc_init : FnScope ["self", "place"] ["self", "place"] (defScope s_init) := ⟨rfl, rfl, rfl, by decide +kernel, rfl, by decide +kernel, by decide +kernel⟩
theorem ok_init {P : Program} {w : World} {K : PySem.W.Frag} {mg : Str → Option Value} {base : Heap} {fd : FuncData} (T : Txt w K mg) (F : FunD K "__init__" "InvalidText.__init__" (defArgs s_init) (defBody s_init) (defScope s_init) [] [] (fI K) fd) :
    FnOk P w K mg base (L2.CX P w) 1 (fI K) fd ["self", "place"] (spPlace K) :=
  ok_place F sc_init T.g_ScanError T.u_ScanError fun cdv A outer s H E => pss_cons (ps_expr (pe_sup T.g_ScanError T.u_ScanError (pa_cons (pe_var (i := 0) rfl (Or.inl rfl)) (pa_cons pe_str pa_nil)))) (pss_one (ps_ost (pe_var (i := 0) rfl (Or.inl rfl)) (pe_var (i := 1) rfl (Or.inl rfl))))
theorem okh_init {P : Program} {w : World} {K : PySem.W.Frag} {mg : Str → Option Value} {base : Heap} {fd : FuncData} (T : Txt w K mg) (F : FunD K "__init__" "InvalidText.__init__" (defArgs s_init) (defBody s_init) (defScope s_init) [] [] (fI K) fd) :
    L2H.FnH P w K mg base (L2.CX P w) 1 (fI K) fd ["self", "place"] (spPlace K) :=
  okH_place F sc_init T.g_ScanError T.u_ScanError fun cdv A outer s H E p => pss_cons (ps_expr (pe_sup T.g_ScanError T.u_ScanError (pa_cons (pe_var (i := 0) rfl (Or.inl rfl)) (pa_cons pe_str pa_nil)))) (pss_one (ps_ost (pe_var (i := 0) rfl (Or.inl rfl)) (pe_var (i := 1) rfl (Or.inl rfl))))
theorem sc_initConditionReader : FnScope ["self", "words"] ["self", "words"] (defScope s_initConditionReader) := ⟨rfl, rfl, rfl, by decide +kernel, rfl, by decide +kernel, by decide +kernel⟩
theorem okC_ConditionReader {P : Program} {w : World} {K : PySem.W.Frag} {mg : Str → Option Value} {base : Heap} {fd : FuncData} (T : Txt w K mg) (F : FunD K "__init__" "ConditionReader.__init__" (defArgs s_initConditionReader) (defBody s_initConditionReader) (defScope s_initConditionReader) [] [] (fConditionReader K) fd) :
    FnOk P w K mg base (L2.CX P w) 1 (fConditionReader K) fd ["self", "words"] (spNew (Cc K) "ConditionReader" (He.ga K "ConditionReader") 1 fun us => us ++ [.int 0, .int 0]) :=
  ok_init3 (C := Cc K) F sc_initConditionReader (flds_ConditionReader K) (by decide) (by decide) (by decide) T.o_ConditionReader.ok T.a_ConditionReader_words_to_read T.a_ConditionReader_next_place T.a_ConditionReader_sets_read fun cdv A outer s H E => pss_cons (ps_fld (pe_var (i := 0) rfl (Or.inl rfl)) (pe_var (i := 1) rfl (Or.inl rfl)) (by rfl)) (pss_cons (ps_fld (pe_var (i := 0) rfl (Or.inl rfl)) pe_int (by rfl)) (pss_one (ps_fld (pe_var (i := 0) rfl (Or.inl rfl)) pe_int (by rfl))))
def tabs : List He.Tab := [(fun K => He.ga K "CONDITION_PARTS", ["not", "and", "or"]), (fun K => He.ga K "TEXT_SIGNS", ["+", "-"])]
theorem txt_of {w : World} {K : PySem.W.Frag} {h : Heap} {mg : Str → Option Value} (X : K.In h) (G : h.Ns mainGlobals mg) (c : He.SaysD fa dfs K) (ct : He.SaysT fa dfs tabs w K) (e : fct K = true) : Txt w K mg := by
  unfold fct at e
  simp only [Bool.and_eq_true, List.all_eq_true, decide_eq_true_eq] at e
  obtain ⟨⟨⟨hL, hDCONDITION_PARTS⟩, hDTEXT_SIGNS⟩, hP⟩ := e
  exact ⟨(He.free_ok X G (c.fact 0 (f := .free "abs") rfl)),
    (He.free_ok X G (c.fact 1 (f := .free "all") rfl)),
    (He.free_ok X G (c.fact 2 (f := .free "enumerate") rfl)),
    (He.free_ok X G (c.fact 3 (f := .free "int") rfl)),
    (He.free_ok X G (c.fact 4 (f := .free "len") rfl)),
    (He.free_ok X G (c.fact 5 (f := .free "list") rfl)),
    (He.free_ok X G (c.fact 6 (f := .free "max") rfl)),
    (He.free_ok X G (c.fact 7 (f := .free "min") rfl)),
    (He.free_ok X G (c.fact 8 (f := .free "range") rfl)),
    (He.free_ok X G (c.fact 9 (f := .free "repr") rfl)),
    (He.free_ok X G (c.fact 10 (f := .free "str") rfl)),
    (He.glo_ok X G (c.fact 11 (f := .glo "CONDITION_PARTS") rfl)),
    (He.glo_ok X G (c.fact 12 (f := .glo "ConditionReader") rfl)),
    (He.glo_ok X G (c.fact 13 (f := .glo "InvalidText") rfl)),
    (He.glo_ok X G (c.fact 14 (f := .glo "ScanError") rfl)),
    (He.glo_ok X G (c.fact 15 (f := .glo "TEXT_SIGNS") rfl)),
    (expB_ok hP.1),
    (supB_ok hP.2),
    ((c.fact 52 (f := .keep "InvalidText") rfl)),
    (noLB_ok hL),
    (dct_ok (C := Cc K) (He.SaysT.tab (t := (fun K => He.ga K "CONDITION_PARTS", ["not", "and", "or"])) ct 0 rfl) hDCONDITION_PARTS),
    (dct_ok (C := Cc K) (He.SaysT.tab (t := (fun K => He.ga K "TEXT_SIGNS", ["+", "-"])) ct 1 rfl) hDTEXT_SIGNS),
    (⟨cls_ConditionReader K, He.cls_ok (c.fact 45 (f := .cls "ConditionReader") rfl), by rw [flds_ConditionReader]; decide, by rw [flds_ConditionReader]; decide⟩),
    (He.mkr_ok (c.fact 46 (f := .mkr "ConditionReader") rfl)),
    (He.noat_ok (c.fact 47 (f := .noat "ConditionReader" "words_to_read") rfl)),
    (He.noat_ok (c.fact 48 (f := .noat "ConditionReader" "next_place") rfl)),
    (He.noat_ok (c.fact 49 (f := .noat "ConditionReader" "sets_read") rfl)),
    (He.str_ok X G (c.fact 37 (f := .str "EMPTY_SET_TEXT" "-") rfl)),
    (He.int_ok X G (c.fact 38 (f := .int "MOST_TEXT_FIGURES" (60)) rfl)),
    (He.int_ok X G (c.fact 39 (f := .int "MOST_TEXT_LEVELS" (20)) rfl)),
    (He.int_ok X G (c.fact 40 (f := .int "MOST_TEXT_SETS" (12)) rfl)),
    (He.int_ok X G (c.fact 41 (f := .int "MOST_TEXT_STRETCHES" (12)) rfl)),
    (He.str_ok X G (c.fact 42 (f := .str "TEXT_COLUMNS" "01234567") rfl)),
    (He.str_ok X G (c.fact 43 (f := .str "TEXT_FIGURES" "0123456789") rfl)),
    (He.int_ok X G (c.fact 44 (f := .int "TEXT_VALUES" (1000000000000000000000000000000)) rfl))⟩
--PLAIN
theorem e_cond : d_read_condition = dCond := by
  have e : ∀ n, d_read_part n = dPart n := by
    intro n
    induction n with
    | zero => rfl
    | succ n ih =>
      unfold d_read_part dPart
      rw [ih]
      rfl
  unfold d_read_condition dCond
  rw [e]
theorem e_rline : ∀ n, d_law_rule_line n = dRline n
  | 0 => rfl
  | n + 1 => by
    unfold d_law_rule_line dRline
    rw [e_rline n]
    rfl
theorem e_wcond : ∀ n, d_write_condition n = dWcond n
  | 0 => rfl
  | n + 1 => by
    unfold d_write_condition dWcond
    rw [e_wcond n]
    rfl
theorem e_parts : ∀ n, d_law_parts n = dParts n
  | 0 => rfl
  | n + 1 => by
    unfold d_law_parts dParts
    rw [e_parts n]
theorem e_any : ∀ n, d_law_any n = dAny n
  | 0 => rfl
  | n + 1 => by
    unfold d_law_any dAny
    rw [e_any n]
    rfl
theorem e_rr : d_law_rule_right = dRuleRight := by
  unfold d_law_rule_right dRuleRight
  rw [e_rline, e_wcond, e_parts, e_cond]
theorem e_pl : d_law_place = dCplace := by
  unfold d_law_place dCplace
  rw [e_cond]
def nots : Nat → Rule
  | 0 => .inn 7 [(3, 4)]
  | k + 1 => .nt (nots k)
def lefts : Nat → Rule
  | 0 => .inn 0 []
  | k + 1 => .an (lefts k) (.inn 1 [(0, 0)])
def rights : Nat → Rule
  | 0 => .inn 0 []
  | k + 1 => .orr (.inn 1 [(0, 0)]) (rights k)
theorem good_nots : ∀ k, goodR (nots k)
  | 0 => ⟨by decide, ⟨by decide, by decide, (fun l e => nomatch e), trivial⟩, by decide⟩
  | k + 1 => good_nots k
theorem good_one : goodR (.inn 1 [(0, 0)]) := ⟨by decide, ⟨by decide, by decide, (fun l e => nomatch e), trivial⟩, by decide⟩
theorem good_lefts : ∀ k, goodR (lefts k)
  | 0 => ⟨by decide, trivial, by decide⟩
  | k + 1 => ⟨good_lefts k, good_one⟩
theorem good_rights : ∀ k, goodR (rights k)
  | 0 => ⟨by decide, trivial, by decide⟩
  | k + 1 => ⟨good_one, good_rights k⟩
theorem fine_nots : fineR (nots 19) := ⟨good_nots 19, by decide +kernel, by decide +kernel, by decide +kernel⟩
theorem fine_lefts : fineR (lefts 11) := ⟨good_lefts 11, by decide +kernel, by decide +kernel, by decide +kernel⟩
theorem fine_rights : fineR (rights 11) := ⟨good_rights 11, by decide +kernel, by decide +kernel, by decide +kernel⟩
theorem any_fine {r : Rule} (h : AnyR 3 r) : fineR r := ⟨h.g, by have := h.d; omega, by have := h.s; omega, by have := h.n; omega⟩
theorem s_not : ("not " : Str) = TS [110, 111, 116, 32] := by decide +kernel
theorem s_and : ("and 1:0 " : Str) = TS [97, 110, 100, 32, 49, 58, 48, 32] := by decide +kernel
theorem s_or : ("or " : Str) = TS [111, 114, 32] := by decide +kernel
theorem s_10 : (" 1:0" : Str) = TS [32, 49, 58, 48] := by decide +kernel
theorem s_end : ("and 0:0-1,5-6 not 2:-" : Str) = TS [97, 110, 100, 32, 48, 58, 48, 45, 49, 44, 53, 45, 54, 32, 110, 111, 116, 32, 50, 58, 45] := by decide +kernel
theorem okS {l : List Nat} (h : l.all (fun c => decide (c < 256)) = true) : okc l := fun c hc => by
  have := of_decide_eq_true (List.all_eq_true.mp h c hc)
  omega
theorem rr_wp {i : Nat} {r : Rule} (h : fineR r) {ρ : Ev} {Q : Bool → Ev → Prop} {E : Str → List D → Ev → Prop} (hi : ρ[i]? = some (.va (ruleD r))) (hQ : Q true ρ) : wp (tst (callG 5 1 dRuleRight (consM (getv i) (pure [])))) Q E ρ := by
  rw [wp_tst, wp_callG, wp_cons, wp_getv hi, wp_pure]
  exact wp_callF rfl (rule_right h fun ρ' => ⟨_, .inl rfl, hQ⟩)
theorem rl_wp {i : Nat} {r : Rule} (h : fineR r) {ρ : Ev} {Q : D → Ev → Prop} {E : Str → List D → Ev → Prop} (hi : ρ[i]? = some (.va (ruleD r))) (hQ : Q (.str (TS (ruleL r))) ρ) : wp (callG 2 1 (dRline 25) (consM (getv i) (pure []))) Q E ρ := by
  rw [wp_callG, wp_cons, wp_getv hi, wp_pure]
  exact wp_callF rfl (rline_wp 25 h.g (by have := h.d; omega) (by have := h.n; omega) fun ρ' => ⟨_, .inl rfl, hQ⟩)
theorem law_plain {K : PySem.W.Frag} {H : Hp} {a : Addr} {ns : List Int} (hl : ns.length ≤ 63) (hS : SqL (Cc K).K H a (ns.map V.int)) : (spLawW (Cc K) ["script", "flask", "lap", "wide", "nots", "left", "right", "turn", "told", "plain"] 3 1 1 d_law_flask (consM (getv 0) (pure [])) fun _ => d_law) [.ref a] H (fun v _ => v = .bl true) fun _ _ _ => False := by
  obtain ⟨k, hk, hb⟩ := flask_way (ns := ns)
  refine lawW_of (ds := [scr ns]) (ρ1 := [.va (scr ns), .un, .un, .un, .un, .un, .un, .un, .un, .un]) hS (by rfl) (by exact hk) (by simp) fun t ht => ?_
  obtain ⟨p, hB⟩ := hb t ht
  have key : wp d_law (fun r _ => r = .rt (.bl true)) (fun _ _ _ => False) [.va (scr ns), .ow t, .un, .un, .un, .un, .un, .un, .un, .un] := by
    unfold d_law
    rw [e_rr, e_pl, e_any, e_rline, e_cond]
    rw [wp_seq, wp_forM, wp_bind, wp_cons, wp_op2, wp_pure, wp_op2, wp_pure, wp_callM, wp_cons, wp_callM, wp_cons, wp_getv rfl, wp_pure]
    rw [show one lenD [scr ns] = some (.int (ns.length : Int)) by
      show some (D.int ((ns.map D.int).length : Int)) = _
      rw [List.length_map], wp_some, wp_cons, wp_pure, wp_pure]
    obtain ⟨m, hm, hm0, hm3⟩ : ∃ m : Nat, two min2D [.int (ns.length : Int), .int 3] = some (.int (m : Int)) ∧ 0 ≤ m ∧ m ≤ 3 := by
      show ∃ m : Nat, min2D (.int (ns.length : Int)) (.int 3) = some (.int (m : Int)) ∧ _
      unfold min2D
      simp only []
      by_cases c : (3 : Int) < (ns.length : Int)
      · exact ⟨3, by simp [c], by decide, by decide⟩
      · exact ⟨ns.length, by simp [c], Nat.zero_le _, by omega⟩
    rw [hm, wp_some, wp_mul]
    refine ⟨bMul_of (a := 4) (b := 4) (by decide) (by omega) (by decide) (by decide) (by decide), ?_⟩
    rw [wp_add, wp_pure, rng1_of (by omega) (by omega), wp_some]
    refine wp_for (I := fun l ρ => ∃ (t' : T) (j : Nat) (y2 y3 : Slot), l.length + j = (5 + 5 * (m : Int)).toNat ∧ Flask p (2000 * j) t' ∧ ρ = [.va (scr ns), .ow t', y2, y3, .un, .un, .un, .un, .un, .un]) ⟨t, 0, .un, .un, by unfold rngL; rw [List.length_map, List.length_range]; rfl, hB, rfl⟩ ?_ ?_
    · rintro ρ ⟨t', j, y2, y3, hj, hf, rfl⟩
      simp only []
      rw [wp_seq, wp_par3, wp_vaM]
      refine wp_of (b := ruleD (nots 0)) (ρ' := [.va (scr ns), .ow t', y2, y3, .un, .un, .un, .un, .un, .un]) (by kernel_rfl) ?_
      rw [wp_vaM]
      refine wp_of (b := ruleD (lefts 0)) (ρ' := [.va (scr ns), .ow t', y2, y3, .un, .un, .un, .un, .un, .un]) (by kernel_rfl) ?_
      rw [wp_vaM]
      refine wp_of (b := ruleD (rights 0)) (ρ' := [.va (scr ns), .ow t', y2, y3, .un, .un, .un, .un, .un, .un]) (by kernel_rfl) ?_
      refine ⟨by simp, by simp, by simp, ?_⟩
      simp only [List.set_cons_succ, List.set_cons_zero]
      rw [wp_seq, wp_forM, wp_bind, wp_cons, wp_pure, wp_pure, show rng1 [.int 19] = some (rngL 0 19) from rng1_of (by decide) (by decide), wp_some]
      refine wp_for (I := fun l ρ => ∃ (j : Nat) (y7 : Slot), l.length + j = 19 ∧ ρ = [.va (scr ns), .ow t', y2, y3, .va (ruleD (nots j)), .va (ruleD (lefts 0)), .va (ruleD (rights 0)), y7, .un, .un]) ⟨0, .un, by unfold rngL; rw [List.length_map, List.length_range], rfl⟩ ?_ ?_
      case refine_2 =>
        rintro d l ρ ⟨j, y7, hj, rfl⟩
        rw [List.length_cons] at hj
        rw [wp_setv]
        refine ⟨by simp, ?_⟩
        simp only [List.set_cons_succ, List.set_cons_zero]
        rw [wp_letM, wp_vaM, wp_tupM, wp_cons, wp_pure, wp_cons, wp_getv rfl, wp_pure]
        refine ⟨by show (2 : Nat) ≤ _; unfold sizeLine; decide, by simp, ?_⟩
        simp only [List.set_cons_succ, List.set_cons_zero]
        exact ⟨j + 1, _, by omega, rfl⟩
      rintro ρ ⟨j, y7, hj, rfl⟩
      rw [List.length_nil, Nat.zero_add] at hj
      subst hj
      simp only []
      rw [wp_seq, wp_forM, wp_bind, wp_cons, wp_pure, wp_pure, show rng1 [.int 11] = some (rngL 0 11) from rng1_of (by decide) (by decide), wp_some]
      refine wp_for (I := fun l ρ => ∃ (j : Nat) (y7 : Slot), l.length + j = 11 ∧ ρ = [.va (scr ns), .ow t', y2, y3, .va (ruleD (nots 19)), .va (ruleD (lefts j)), .va (ruleD (rights j)), y7, .un, .un]) ⟨0, y7, by unfold rngL; rw [List.length_map, List.length_range], rfl⟩ ?_ ?_
      case refine_2 =>
        rintro d l ρ ⟨j, y7, hj, rfl⟩
        rw [List.length_cons] at hj
        rw [wp_setv]
        refine ⟨by simp, ?_⟩
        simp only [List.set_cons_succ, List.set_cons_zero]
        have c10 : ∀ {ρ : Ev}, (tupM (consM (pure (.str "in")) (consM (pure (.int 1)) (consM (lstM (consM (tupM (consM (pure (.int 0)) (consM (pure (.int 0)) (pure [])))) (pure []))) (pure []))))) ρ = .ok (ruleD (.inn 1 [(0, 0)])) ρ := fun {ρ} => by kernel_rfl
        rw [wp_par2, wp_vaM, wp_tupM, wp_cons, wp_pure, wp_cons, wp_getv rfl, wp_cons]
        refine wp_of c10 ?_
        rw [wp_pure]
        refine ⟨by show (3 : Nat) ≤ _; unfold sizeLine; decide, ?_⟩
        rw [wp_vaM, wp_tupM, wp_cons, wp_pure, wp_cons]
        refine wp_of c10 ?_
        rw [wp_cons, wp_getv rfl, wp_pure]
        refine ⟨by show (3 : Nat) ≤ _; unfold sizeLine; decide, by simp, by simp, ?_⟩
        simp only [List.set_cons_succ, List.set_cons_zero]
        exact ⟨j + 1, _, by omega, rfl⟩
      rintro ρ ⟨j, y7, hj, rfl⟩
      rw [List.length_nil, Nat.zero_add] at hj
      subst hj
      simp only []
      rw [wp_seq, wp_iteM, wp_orM, wp_notM]
      refine rr_wp fine_nots rfl ?_
      simp only [Bool.not_true, Bool.false_eq_true, if_false]
      rw [wp_orM, wp_notM]
      refine rr_wp fine_lefts rfl ?_
      simp only [Bool.not_true, Bool.false_eq_true, if_false]
      rw [wp_notM]
      refine rr_wp fine_rights rfl ?_
      simp only [Bool.not_true, Bool.false_eq_true, if_false]
      rw [wp_pure]
      simp only []
      have n1 := ruleL_len (good_nots 19)
      have n2 := ruleL_len (good_lefts 11)
      have n3 := ruleL_len (good_rights 11)
      have m1 := fine_nots.n
      have m2 := fine_lefts.n
      have m3 := fine_rights.n
      rw [wp_seq, wp_letM, wp_vaM, wp_lstM, wp_cons, wp_callG, wp_cons, wp_op2, wp_pure]
      refine rl_wp fine_nots rfl ?_
      rw [s_not, addD_S (by simp only [List.length_cons, List.length_nil]; unfold sizeLine; omega), wp_some, wp_pure]
      refine wp_callF rfl (cplace_wp (k := 20) (okc_app.mpr ⟨okS rfl, ruleL_okc (good_nots 19)⟩) (by rw [List.length_append]; simp only [List.length_cons, List.length_nil]; omega) (by kernel_rfl) fun ρ' => ⟨_, .inl rfl, ?_⟩)
      rw [wp_cons, wp_callG, wp_cons, wp_op2, wp_pure]
      refine rl_wp fine_rights rfl ?_
      rw [s_and, addD_S (by simp only [List.length_cons, List.length_nil]; unfold sizeLine; omega), wp_some, wp_pure]
      refine wp_callF rfl (cplace_wp (k := 24) (okc_app.mpr ⟨okS rfl, ruleL_okc (good_rights 11)⟩) (by rw [List.length_append]; simp only [List.length_cons, List.length_nil]; omega) (by kernel_rfl) fun ρ' => ⟨_, .inl rfl, ?_⟩)
      rw [wp_pure]
      refine ⟨by show (2 : Nat) ≤ _; unfold sizeLine; decide, by simp, ?_⟩
      simp only [List.set_cons_succ, List.set_cons_zero]
      rw [wp_seq, wp_letM, wp_vaM, wp_op2, wp_getv rfl, wp_lstM, wp_cons, wp_callG, wp_cons, wp_op2, wp_op2, wp_pure]
      refine rl_wp fine_lefts rfl ?_
      rw [s_or, addD_S (by simp only [List.length_cons, List.length_nil]; unfold sizeLine; omega), wp_some, wp_pure, s_10, addD_S (by rw [List.length_append]; simp only [List.length_cons, List.length_nil]; unfold sizeLine; omega), wp_some, wp_pure]
      refine wp_callF rfl (cplace_wp (k := 24) (okc_app.mpr ⟨okc_app.mpr ⟨okS rfl, ruleL_okc (good_lefts 11)⟩, okS rfl⟩) (by rw [List.length_append, List.length_append]; simp only [List.length_cons, List.length_nil]; omega) (by kernel_rfl) fun ρ' => ⟨_, .inl rfl, ?_⟩)
      rw [wp_cons, wp_callG, wp_cons, wp_op2, wp_pure, wp_pure]
      rw [show srepD (.str (TS [110, 111, 116, 32])) (.int 20) = some (.str (TS (List.replicate 20 [110, 111, 116, 32]).flatten)) by
        unfold srepD
        simp only []
        rw [if_pos ⟨by decide, by decide +kernel, by decide +kernel⟩, show repS (TS [110, 111, 116, 32]) 20 = TS (List.replicate 20 [110, 111, 116, 32]).flatten by decide +kernel], wp_some, wp_pure]
      refine wp_callF rfl (cplace_wp (k := 20) (okS rfl) (by decide) (by kernel_rfl) fun ρ' => ⟨_, .inl rfl, ?_⟩)
      rw [wp_pure]
      refine ⟨by show (2 : Nat) ≤ _; unfold sizeLine; decide, ?_⟩
      rw [show addD (.lst [.int ((20 : Nat) : Int), .int ((24 : Nat) : Int)]) (.lst [.int ((24 : Nat) : Int), .int ((20 : Nat) : Int)]) = some (.lst [.int 20, .int 24, .int 24, .int 20]) by kernel_rfl, wp_some]
      refine ⟨by simp, ?_⟩
      simp only [List.set_cons_succ, List.set_cons_zero]
      rw [wp_seq, wp_letM, wp_vaM]
      refine wp_of (b := ruleD (.an (.inn 0 [(0, 1), (5, 6)]) (.nt (.inn 2 [])))) (ρ' := [.va (scr ns), .ow t', y2, y3, .va (ruleD (nots 19)), .va (ruleD (lefts 11)), .va (ruleD (rights 11)), y7, .va (.lst [.int 20, .int 24, .int 24, .int 20]), .un]) (by kernel_rfl) ?_
      refine ⟨by simp, ?_⟩
      simp only [List.set_cons_succ, List.set_cons_zero]
      rw [wp_retM, wp_andV, wp_op2, wp_getv rfl]
      refine wp_of (b := .lst [.int 20, .int 24, .int 24, .int 20]) (ρ' := [.va (scr ns), .ow t', y2, y3, .va (ruleD (nots 19)), .va (ruleD (lefts 11)), .va (ruleD (rights 11)), y7, .va (.lst [.int 20, .int 24, .int 24, .int 20]), .va (ruleD (.an (.inn 0 [(0, 1), (5, 6)]) (.nt (.inn 2 []))))]) (by kernel_rfl) ?_
      rw [show eqD (.lst [.int 20, .int 24, .int 24, .int 20]) (.lst [.int 20, .int 24, .int 24, .int 20]) = some (.bl true) by kernel_rfl, wp_some]
      simp only []
      rw [wp_op2, wp_callG, wp_cons, wp_pure, wp_pure, s_end]
      refine wp_callF rfl (cond_wp (okS rfl) (by unfold sizeLine; decide) ?_)
      rw [show rdCond [97, 110, 100, 32, 48, 58, 48, 45, 49, 44, 53, 45, 54, 32, 110, 111, 116, 32, 50, 58, 45] = .ok (.an (.inn 0 [(0, 1), (5, 6)]) (.nt (.inn 2 []))) by kernel_rfl]
      refine fun ρ' => ⟨_, .inl rfl, ?_⟩
      rw [wp_getv rfl, show eqD (ruleD (.an (.inn 0 [(0, 1), (5, 6)]) (.nt (.inn 2 [])))) (ruleD (.an (.inn 0 [(0, 1), (5, 6)]) (.nt (.inn 2 [])))) = some (.bl true) by kernel_rfl, wp_some]
    · rintro d l ρ ⟨t', j, y2, y3, hj, hf, rfl⟩
      rw [List.length_cons] at hj
      rw [wp_setv]
      refine ⟨by simp, ?_⟩
      simp only [List.set_cons_succ, List.set_cons_zero]
      rw [wp_seq, wp_letM, wp_vaM, wp_rep, wp_dsp, wp_cons, wp_pure, wp_pure]
      refine ⟨by show (1 : Nat) ≤ _; unfold sizeLine; decide, ?_⟩
      rw [wp_op2, wp_pure]
      refine wp_dripC rfl hf (by omega) (by decide) (by decide +kernel) fun t1 d1 hb1 h10 h11 => ?_
      simp only [List.set_cons_succ, List.set_cons_zero]
      obtain ⟨c, rfl⟩ := Int.eq_ofNat_of_zero_le h10
      rw [wp_add, show (1 : Int) + (c : Int) = ((c + 1 : Nat) : Int) by omega, wp_repGo (by simp; omega) (by omega)]
      refine ⟨by simp, ?_⟩
      simp only [List.set_cons_succ, List.set_cons_zero]
      rw [wp_iteM, wp_orM, wp_notM, wp_tst, wp_callG, wp_cons, wp_callO rfl, wp_cons, wp_getv rfl, wp_pure]
      refine wp_callFD (P := fun t' d => Flask p (2000 * j + 1 + 20) t' ∧ ∃ l, d = laneD l ∧ goodO l) rfl rfl (wp_weak (lane_wp (m := c + 1) hb1 (by omega) (by simp) (by omega) (by omega)) fun r ρ' ⟨t', l, h1, h2, h3, h4⟩ => ⟨t', _, h1, ⟨h2, l, rfl, h4⟩, .inl h3⟩) (fun t' d k => hb1.same k.1) ?_
      rintro t2 d2 ⟨hb2, l2, rfl, g2⟩
      simp only [List.set_cons_succ, List.set_cons_zero]
      rw [wp_pure]
      refine wp_callF rfl (lane_right g2 fun ρ' => ⟨_, .inl rfl, ?_⟩)
      simp only [Bool.not_true, Bool.false_eq_true, if_false]
      rw [wp_notM, wp_tst, wp_callG, wp_cons, wp_callO rfl, wp_cons, wp_pure, wp_pure]
      refine wp_callFD rfl rfl (any_wp 3 (n := 5) (by decide) hb2 (by have : Pd.cnt 3 = 1670 := rfl; omega)) (fun t' d k => hb2.same k.1) ?_
      rintro t3 d3 ⟨hb3, r3, rfl, g3⟩
      simp only [List.set_cons_succ, List.set_cons_zero]
      rw [wp_pure]
      refine wp_callF rfl (rule_right (any_fine g3) fun ρ' => ⟨_, .inl rfl, ?_⟩)
      simp only [Bool.not_true, Bool.false_eq_true, if_false]
      rw [wp_pure]
      exact ⟨t3, j + 1, _, _, by omega, hb3.mono (by have : Pd.cnt 3 = 1670 := rfl; omega), rfl⟩
  obtain ⟨r, ρ', e, rfl⟩ := wp_ok key
  exact ⟨ρ', e⟩

--PLAINEND
def loose : List Str := (["ScanError", "InvalidText", "TEXT_FIGURES", "MOST_TEXT_FIGURES", "TEXT_VALUES", "MOST_TEXT_STRETCHES", "TEXT_COLUMNS", "MOST_TEXT_LEVELS", "MOST_TEXT_SETS", "EMPTY_SET_TEXT", "CONDITION_PARTS", "TEXT_SIGNS", "figures_in", "stretch_in", "write_set", "read_set", "write_order", "read_order", "write_condition", "ConditionReader", "read_condition", "_law_flask", "_law_drip", "_law_parts", "_law_lane", "_law_set_line", "_law_rule_line", "_law_far_spans", "_law_lane_line", "_law_lane_right"] : List Str) ++ (["_law_rule_right", "_law_any", "_law_place"] : List Str)
abbrev R : PySem.W.OpenRow := PySem.W.OpenLaw.row PySem.Challenge.rw_scanranges_k82_orders_and_conditions_wri
abbrev hk : PySem.W.Hook := Pd.hookY 4 fa dfs tabs fct
def ob (s : PySem.W.SharedT) : He.AlT × Bool := Pd.obsY 4 fa dfs tabs fct (HandSHeadRun.getT s)
theorem ob_eq (s : PySem.W.SharedT) : ob s = hk.obs s.abs := Pd.obsY_eq (HandSHeadRun.getT_eq s)
theorem run2 (b : Bool) (w : World) : HandSHeadRun.RunEq R (PySem.W.view R.prog [36]) hk ob 30000 loose (w.withFollow "special-get-raises" b) := by
  intro os
  cases b <;> kernel_rfl
theorem run (w : World) : HandSHeadRun.RunEq R (PySem.W.view R.prog [36]) hk ob 30000 loose w := by
  have h := run2 (w.params.followText "special-get-raises") w
  rwa [World.withFollow_self] at h
theorem ends {P : Program} {w : World} {K : PySem.W.Frag} {h : Heap} {mg : Str → Option Value} {f : Addr} (X : K.In h) (G : h.Ns mainGlobals mg) (hfa : mg ("law" : Str) = some (.ref f)) (c : He.SaysD fa dfs K) (ct : He.SaysT fa dfs tabs w K) (e : fct K = true) :
    ∃ (fd : FuncData) (sp : Sp), (∀ (s : Shared) (v : Value), BindsTo s fd ⟨[v], []⟩ [("script", v)]) ∧
      (∀ (H : Hp) (a : Addr) (ns : List Int), ns.length ≤ 63 → Only H → SqL K H a (ns.map V.int) → sp [.ref a] H (fun v _ => v = .bl true) fun _ _ _ => False) ∧ ∀ base : Heap, K.In base → base.Ns mainGlobals mg → FnG P w K mg base CX0 34 f fd ["script"] sp := by
  have T := txt_of X G c ct e
  obtain ⟨fdI, FI⟩ := c.def_ 0 rfl
  obtain ⟨fdCConditionReader, FCConditionReader⟩ := c.def_ 1 rfl
  obtain ⟨fdfigures_in, Ffigures_in⟩ := c.def_ 2 rfl
  obtain ⟨fdstretch_in, Fstretch_in⟩ := c.def_ 3 rfl
  obtain ⟨fdwrite_set, Fwrite_set⟩ := c.def_ 4 rfl
  obtain ⟨fdread_set, Fread_set⟩ := c.def_ 5 rfl
  obtain ⟨fdwrite_order, Fwrite_order⟩ := c.def_ 6 rfl
  obtain ⟨fdread_order, Fread_order⟩ := c.def_ 7 rfl
  obtain ⟨fdwrite_condition, Fwrite_condition⟩ := c.def_ 8 rfl
  obtain ⟨fdread_simple, Fread_simple⟩ := c.def_ 9 rfl
  obtain ⟨fdread_part, Fread_part⟩ := c.def_ 10 rfl
  obtain ⟨fdread_condition, Fread_condition⟩ := c.def_ 11 rfl
  obtain ⟨fdlaw_flask, Flaw_flask⟩ := c.def_ 12 rfl
  obtain ⟨fdlaw_drip, Flaw_drip⟩ := c.def_ 13 rfl
  obtain ⟨fdlaw_parts, Flaw_parts⟩ := c.def_ 14 rfl
  obtain ⟨fdlaw_lane, Flaw_lane⟩ := c.def_ 15 rfl
  obtain ⟨fdlaw_set_line, Flaw_set_line⟩ := c.def_ 16 rfl
  obtain ⟨fdlaw_rule_line, Flaw_rule_line⟩ := c.def_ 17 rfl
  obtain ⟨fdlaw_far_spans, Flaw_far_spans⟩ := c.def_ 18 rfl
  obtain ⟨fdlaw_lane_line, Flaw_lane_line⟩ := c.def_ 19 rfl
  obtain ⟨fdlaw_lane_right, Flaw_lane_right⟩ := c.def_ 20 rfl
  obtain ⟨fdlaw_rule_right, Flaw_rule_right⟩ := c.def_ 21 rfl
  obtain ⟨fdlaw_any, Flaw_any⟩ := c.def_ 22 rfl
  obtain ⟨fdlaw_place, Flaw_place⟩ := c.def_ 23 rfl
  obtain ⟨fdlaw, Flaw⟩ := c.def_ 24 rfl
  have HIb : Binds K fdI ["self", "place"] [] := FI.bindsN fun _ _ _ _ _ _ us hl => match us, hl with | [_, _], _ => rfl
  have HIk : ∀ (s : Shared) (u : Value) (us : List Value), K.In s.heap → us.length + 1 = (["self", "place"] : List Str).length → BindsTo s fdI ⟨[u], (["self", "place"] : List Str).tail.zip us⟩ ((["self", "place"] : List Str).zip (u :: us)) := by
    obtain ⟨oc, od, dV, kV, doc, pm, an, cdv, ct, osl, rfl, lk, hcd, hD, hK⟩ := FI.ex
    rcases hD with ⟨_, rfl⟩ | ⟨e, _⟩
    · exact fun s u us _ hl => match us, hl with | [_], _ => .of_eq rfl
    · exact absurd rfl e
  have HCbConditionReader : Binds K fdCConditionReader ["self", "words"] [] := FCConditionReader.bindsN fun _ _ _ _ _ _ us hl => match us, hl with | [_, _], _ => rfl
  have mfigures_in := He.glo_ok X G (c.fact 16 (f := .glo "figures_in") rfl)
  have mstretch_in := He.glo_ok X G (c.fact 17 (f := .glo "stretch_in") rfl)
  have mwrite_set := He.glo_ok X G (c.fact 18 (f := .glo "write_set") rfl)
  have mread_set := He.glo_ok X G (c.fact 19 (f := .glo "read_set") rfl)
  have mwrite_order := He.glo_ok X G (c.fact 20 (f := .glo "write_order") rfl)
  have mread_order := He.glo_ok X G (c.fact 21 (f := .glo "read_order") rfl)
  have mwrite_condition := He.glo_ok X G (c.fact 22 (f := .glo "write_condition") rfl)
  have mread_condition := He.glo_ok X G (c.fact 23 (f := .glo "read_condition") rfl)
  have mlaw_flask := He.glo_ok X G (c.fact 24 (f := .glo "_law_flask") rfl)
  have mlaw_drip := He.glo_ok X G (c.fact 25 (f := .glo "_law_drip") rfl)
  have mlaw_parts := He.glo_ok X G (c.fact 26 (f := .glo "_law_parts") rfl)
  have mlaw_lane := He.glo_ok X G (c.fact 27 (f := .glo "_law_lane") rfl)
  have mlaw_set_line := He.glo_ok X G (c.fact 28 (f := .glo "_law_set_line") rfl)
  have mlaw_rule_line := He.glo_ok X G (c.fact 29 (f := .glo "_law_rule_line") rfl)
  have mlaw_far_spans := He.glo_ok X G (c.fact 30 (f := .glo "_law_far_spans") rfl)
  have mlaw_lane_line := He.glo_ok X G (c.fact 31 (f := .glo "_law_lane_line") rfl)
  have mlaw_lane_right := He.glo_ok X G (c.fact 32 (f := .glo "_law_lane_right") rfl)
  have mlaw_rule_right := He.glo_ok X G (c.fact 33 (f := .glo "_law_rule_right") rfl)
  have mlaw_any := He.glo_ok X G (c.fact 34 (f := .glo "_law_any") rfl)
  have mlaw_place := He.glo_ok X G (c.fact 35 (f := .glo "_law_place") rfl)
  have el := hfa.symm.trans (He.glo_ok X G (c.fact 36 (f := .glo "law") rfl))
  cases el
  refine ⟨fdlaw, (spLawW (Cc K) ["script", "flask", "lap", "wide", "nots", "left", "right", "turn", "told", "plain"] 3 1 1 d_law_flask (consM (getv 0) (pure [])) fun _ => d_law), fun s v => FunD.bindsA (ps := ["script"]) Flaw (fun _ _ _ _ _ _ us hl => match us, hl with | [_], _ => rfl) s [v] rfl, ?sp, fun base hb hg => ?fn⟩
  case fn =>
    have HCConditionReader := okC_ConditionReader (P := P) (w := w) (base := base) T FCConditionReader
    have HIh := okh_init (P := P) (w := w) (base := base) T FI
    have HI : FnOk P w K mg base (L2.CX P w) 1 (fI K) fdI ["self", "place"] (spPlace K) := ok_init T FI
    have Hfigures_in := ok_figures_in (P := P) (w := w) (base := base) T mfigures_in Ffigures_in
    have Hstretch_in := ok_stretch_in (P := P) (w := w) (base := base) T Hfigures_in mstretch_in Fstretch_in
    have Hwrite_set := ok_write_set (P := P) (w := w) (base := base) T mwrite_set Fwrite_set
    have Hread_set := ok_read_set (P := P) (w := w) (base := base) T Hstretch_in HI HIb mread_set Fread_set
    have HNread_set := okN_read_set (P := P) (w := w) (base := base) T Hstretch_in HI HIb mread_set Fread_set
    have Hwrite_order := ok_write_order (P := P) (w := w) (base := base) T mwrite_order Fwrite_order
    have Hread_order := ok_read_order (P := P) (w := w) (base := base) T HI HIb mread_order Fread_order
    have Hwrite_condition := ok_write_condition (P := P) (w := w) (base := base) T Hwrite_set mwrite_condition Fwrite_condition 25
    have Hread_simple := ok_read_simple (P := P) (w := w) (base := base) T HNread_set HI HIh HIb (He.meth_ok (c.fact 50 (f := .meth "ConditionReader" "read_simple") rfl)) Fread_simple
    have Hread_part := ok_read_part (P := P) (w := w) (base := base) T Hread_simple HI HIb (He.meth_ok (c.fact 51 (f := .meth "ConditionReader" "read_part") rfl)) Fread_part 25
    have Hread_condition := ok_read_condition (P := P) (w := w) (base := base) T Hread_part HCConditionReader HCbConditionReader HI HIb mread_condition Fread_condition
    have H_law_flask := ok_law_flask (P := P) (w := w) (base := base) T mlaw_flask Flaw_flask
    have H_law_drip := ok_law_drip (P := P) (w := w) (base := base) T mlaw_drip Flaw_drip
    have H_law_parts := ok_law_parts (P := P) (w := w) (base := base) T mlaw_parts Flaw_parts 25
    have H_law_lane := ok_law_lane (P := P) (w := w) (base := base) T H_law_drip mlaw_lane Flaw_lane
    have H_law_set_line := ok_law_set_line (P := P) (w := w) (base := base) T mlaw_set_line Flaw_set_line
    have H_law_rule_line := ok_law_rule_line (P := P) (w := w) (base := base) T H_law_set_line mlaw_rule_line Flaw_rule_line 25
    have H_law_far_spans := ok_law_far_spans (P := P) (w := w) (base := base) T H_law_drip mlaw_far_spans Flaw_far_spans
    have H_law_lane_line := ok_law_lane_line (P := P) (w := w) (base := base) T mlaw_lane_line Flaw_lane_line
    have H_law_lane_right := ok_law_lane_right (P := P) (w := w) (base := base) T Hread_order Hwrite_order H_law_lane_line mlaw_lane_right Flaw_lane_right
    have H_law_rule_right := ok_law_rule_right (P := P) (w := w) (base := base) T Hread_condition H_law_parts Hwrite_condition H_law_rule_line mlaw_rule_right Flaw_rule_right
    have H_law_any := ok_law_any (P := P) (w := w) (base := base) T H_law_far_spans H_law_drip mlaw_any Flaw_any 5
    have H_law_place := ok_law_place (P := P) (w := w) (base := base) T Hread_condition mlaw_place Flaw_place
    exact ok_law T H_law_flask Hread_condition H_law_place H_law_rule_line H_law_rule_right H_law_any H_law_lane_right H_law_lane H_law_drip Flaw
  case sp =>
    intro H a ns hl hO hS
    exact law_plain hl hS
end K82
open PySem PySem.W PySem.Calls PyProof.Rows
theorem PySem.Challenge.cw_scanranges_k82_orders_and_conditions_wri_holds : PySem.Challenge.rw_scanranges_k82_orders_and_conditions_wri.Holds := by
  w_on; o_law
  refine HandSHeadRun.head_any (r := OpenLaw.row PySem.Challenge.rw_scanranges_k82_orders_and_conditions_wri) (q := view (OpenLaw.row PySem.Challenge.rw_scanranges_k82_orders_and_conditions_wri).prog [36]) (H := K82.hk) (ob := K82.ob) (M := 30000) (loose := K82.loose) (d := HandSHeadRun.topDef (OpenLaw.row PySem.Challenge.rw_scanranges_k82_orders_and_conditions_wri).prog 36) (kwd := []) K82.ob_eq
    (by kernel_rfl) (fun s => by kernel_rfl) K82.run (by kernel_rfl) (by kernel_rfl) (by kernel_rfl) (by rfl) (by first | assumption | decide +kernel) (by decide +kernel) ⟨rfl, rfl, rfl, rfl, rfl, by decide +kernel⟩ ?hw ?hc
  case hw => w_witness2
  case hc =>
    refine Pd.walk_ofG (l := PySem.Challenge.rw_scanranges_k82_orders_and_conditions_wri) (n := 63) (k := 34) (x := "script") (CX := L2.CX0) rfl (by decide) (by kernel_rfl) ⟨rfl, by decide, by decide⟩ ?F (fun _ _ _ _ z => z)
    intro w mg fa h Y G hmg0
    obtain ⟨K, KX, c, ce⟩ := Y
    have hmg : mg ("law" : PySem.Str) = some (.ref fa) := by
      have e : (HandSHeadRun.topDef (OpenLaw.row PySem.Challenge.rw_scanranges_k82_orders_and_conditions_wri).prog 36).name = ("law" : PySem.Str) := by kernel_rfl
      rw [← e]
      exact hmg0
    obtain ⟨fd, sp, hb, hS, hF⟩ := K82.ends (P := (PySem.Challenge.rw_scanranges_k82_orders_and_conditions_wri).prog) (w := w) KX G hmg c.d c ce
    exact ⟨K, fd, sp, KX, hb, hS, hF⟩


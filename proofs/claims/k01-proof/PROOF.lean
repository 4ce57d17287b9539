import PyProof.Rows.All
import Wide.All
import OpenK.AllK
import Wide.FinOn
import HandS.ForMost
import HandS.Star
import HandS.TupMul
import HandS.TupAny
import HandS.Style
import HandS.IsInst
import HandS.More
import HandS.WideBits
import HandS.Exc
import HandS.Defaults
import HandS.WordsExc
import PySem.Challenge.RW_rollrings_k01_least_polynomials_of_order
import HandS.ExcInit
import HandS.ExcSuper
import HandS.ExcIs
import HandS.ExcField
import HandS.Lambda
import HandS.LawCells
import KE.KExcSuper
import HandS.Head0
import HandS.Head1
import HandS.Head2
import HandS.HeadEnd
import HandS.HeadHook1
import HandS.HeadHook2
import HandS.HeadHook3
import HandS.HeadHook4
import HandS.EndTab
import HandS.HeadWalk
set_option Elab.async false
set_option linter.all false
set_option maxRecDepth 100000
set_option maxHeartbeats 0
/-! Sm1: values, small heaps, what they say of the layer's heap; readings by running -/
namespace Sm
open PySem PySem.Spec PyProof.Rows L2

/-- a value with its tuples within; ref n: the n-th list of the small heap; emp: an empty dict; mt: an empty list that stands apart; frz: a list of ints that nobody changes -/
inductive W where
  | non | bl (b : Bool) | int (i : Int) | str (x : Str) | tup (ws : List W) | ref (n : Nat) | emp | mt | frz (zs : List Int)
  deriving Inhabited
abbrev Sl := List (Option W)
/-- the small heap: its lists by number, in a tree -/
inductive Tr where
  | nil | nd (v : Option (List W)) (l r : Tr)
noncomputable def Tr.val (t : Tr) : Option (List W) := Tr.rec (motive := fun _ => Option (List W)) none (fun v _ _ _ _ => v) t
noncomputable def Tr.lf (t : Tr) : Tr := Tr.rec (motive := fun _ => Tr) .nil (fun _ l _ _ _ => l) t
noncomputable def Tr.rg (t : Tr) : Tr := Tr.rec (motive := fun _ => Tr) .nil (fun _ _ r _ _ => r) t
noncomputable def Tr.get (t : Tr) : Nat → Option (List W) := Tr.rec (motive := fun _ => Nat → Option (List W)) (fun _ => none) (fun v _ _ gl gr n => Nat.rec (motive := fun _ => Option (List W)) v (fun k _ => Bool.rec (motive := fun _ => Option (List W)) (gr (Nat.div k 2)) (gl (Nat.div k 2)) (Nat.beq (Nat.mod k 2) 0)) n) t
noncomputable def Tr.put (ws : List W) (f : Nat) : Tr → Nat → Tr := Nat.rec (motive := fun _ => Tr → Nat → Tr) (fun t _ => t) (fun _ p t n => Nat.rec (motive := fun _ => Tr) (.nd (some ws) t.lf t.rg) (fun k _ => Bool.rec (motive := fun _ => Tr) (.nd t.val t.lf (p t.rg (Nat.div k 2))) (.nd t.val (p t.lf (Nat.div k 2)) t.rg) (Nat.beq (Nat.mod k 2) 0)) n) f
theorem Tr.get_succ (t : Tr) (k : Nat) : t.get (k + 1) = match Nat.beq (Nat.mod k 2) 0 with | true => t.lf.get (Nat.div k 2) | false => t.rg.get (Nat.div k 2) := by
  cases t with
  | nil => cases h : Nat.beq (Nat.mod k 2) 0 <;> rfl
  | nd v l r =>
    show Bool.rec (motive := fun _ => Option (List W)) (r.get (Nat.div k 2)) (l.get (Nat.div k 2)) (Nat.beq (Nat.mod k 2) 0) = _
    cases h : Nat.beq (Nat.mod k 2) 0 <;> rfl
theorem Tr.put_succ (ws : List W) (f : Nat) (t : Tr) (k : Nat) : Tr.put ws (f + 1) t (k + 1) = match Nat.beq (Nat.mod k 2) 0 with | true => .nd t.val (Tr.put ws f t.lf (Nat.div k 2)) t.rg | false => .nd t.val t.lf (Tr.put ws f t.rg (Nat.div k 2)) := by
  show Bool.rec (motive := fun _ => Tr) (.nd t.val t.lf (Tr.put ws f t.rg (Nat.div k 2))) (.nd t.val (Tr.put ws f t.lf (Nat.div k 2)) t.rg) (Nat.beq (Nat.mod k 2) 0) = _
  cases h : Nat.beq (Nat.mod k 2) 0 <;> rfl
theorem Tr.get_put (ws : List W) : ∀ (f : Nat) (t : Tr) (n m : Nat), n < f → (Tr.put ws f t n).get m = if m = n then some ws else t.get m
  | 0, _, _, _, h => absurd h (Nat.not_lt_zero _)
  | f + 1, t, 0, 0, _ => rfl
  | f + 1, t, 0, m + 1, _ => by
    rw [if_neg (Nat.succ_ne_zero m), Tr.get_succ, Tr.get_succ]
    rfl
  | f + 1, t, n + 1, 0, _ => by
    rw [if_neg (Nat.succ_ne_zero n).symm, Tr.put_succ]
    have e : ∀ t : Tr, t.get 0 = t.val := by intro t; cases t <;> rfl
    rw [e, e]
    cases Nat.beq (Nat.mod n 2) 0 <;> rfl
  | f + 1, t, n + 1, m + 1, h => by
    have hd : Nat.div n 2 < f := Nat.lt_of_le_of_lt (Nat.div_le_self n 2) (by omega)
    have hn : n = 2 * (Nat.div n 2) + Nat.mod n 2 := (Nat.div_add_mod n 2).symm
    have hm : m = 2 * (Nat.div m 2) + Nat.mod m 2 := (Nat.div_add_mod m 2).symm
    have hn2 : Nat.mod n 2 < 2 := Nat.mod_lt n (by decide)
    have hm2 : Nat.mod m 2 < 2 := Nat.mod_lt m (by decide)
    rw [Tr.put_succ, Tr.get_succ, Tr.get_succ]
    cases en : Nat.beq (Nat.mod n 2) 0 <;> cases em : Nat.beq (Nat.mod m 2) 0
    · have hn0 : Nat.mod n 2 ≠ 0 := fun z => by rw [z] at en; exact absurd en (by decide)
      have hm0 : Nat.mod m 2 ≠ 0 := fun z => by rw [z] at em; exact absurd em (by decide)
      show (Tr.put ws f t.rg (Nat.div n 2)).get (Nat.div m 2) = _
      rw [Tr.get_put ws f _ _ _ hd]
      by_cases e : Nat.div m 2 = Nat.div n 2
      · rw [if_pos e, if_pos (by omega)]
      · rw [if_neg e, if_neg (fun z => e (by rw [Nat.succ.inj z]))]
    · have hn0 : Nat.mod n 2 ≠ 0 := fun z => by rw [z] at en; exact absurd en (by decide)
      have hm0 := Nat.eq_of_beq_eq_true em
      show t.lf.get (Nat.div m 2) = _
      rw [if_neg (fun z => hn0 (by rw [← Nat.succ.inj z]; exact hm0))]
    · have hn0 := Nat.eq_of_beq_eq_true en
      have hm0 : Nat.mod m 2 ≠ 0 := fun z => by rw [z] at em; exact absurd em (by decide)
      show t.rg.get (Nat.div m 2) = _
      rw [if_neg (fun z => hm0 (by rw [Nat.succ.inj z]; exact hn0))]
    · have hn0 := Nat.eq_of_beq_eq_true en
      have hm0 := Nat.eq_of_beq_eq_true em
      show (Tr.put ws f t.lf (Nat.div n 2)).get (Nat.div m 2) = _
      rw [Tr.get_put ws f _ _ _ hd]
      by_cases e : Nat.div m 2 = Nat.div n 2
      · rw [if_pos e, if_pos (by omega)]
      · rw [if_neg e, if_neg (fun z => e (by rw [Nat.succ.inj z]))]
structure Ch where
  length : Nat
  tr : Tr
noncomputable def Ch.get (c : Ch) (n : Nat) : Option (List W) := c.tr.get n
noncomputable def Ch.set (c : Ch) (n : Nat) (ws : List W) : Ch := ⟨c.length, Tr.put ws (n + 1) c.tr n⟩
noncomputable def Ch.push (c : Ch) (ws : List W) : Ch := ⟨c.length + 1, Tr.put ws (c.length + 1) c.tr c.length⟩
noncomputable def Ch.nil : Ch := ⟨0, .nil⟩
theorem Ch.get_set (c : Ch) (n : Nat) (ws : List W) (m : Nat) : (c.set n ws).get m = if m = n then some ws else c.get m := Tr.get_put ws (n + 1) c.tr n m (Nat.lt_succ_self n)
theorem Ch.get_push (c : Ch) (ws : List W) (m : Nat) : (c.push ws).get m = if m = c.length then some ws else c.get m := Tr.get_put ws (c.length + 1) c.tr c.length m (Nat.lt_succ_self _)
/-! lists, as the kernel runs them quickly -/
noncomputable def lenK (l : List W) : Nat := List.rec (motive := fun _ => Nat) 0 (fun _ _ ih => Nat.succ ih) l
theorem lenK_eq : ∀ l : List W, lenK l = l.length
  | [] => rfl
  | _ :: l => congrArg Nat.succ (lenK_eq l)
noncomputable def appK (l r : List W) : List W := List.rec (motive := fun _ => List W) r (fun a _ ih => a :: ih) l
theorem appK_eq (r : List W) : ∀ l : List W, appK l r = l ++ r
  | [] => rfl
  | a :: l => congrArg (a :: ·) (appK_eq r l)
noncomputable def getK {α : Type} (l : List α) : Nat → Option α := List.rec (motive := fun _ => Nat → Option α) (fun _ => none) (fun a _ ih n => Nat.rec (motive := fun _ => Option α) (some a) (fun k _ => ih k) n) l
theorem getK_eq {α : Type} : ∀ (l : List α) (n : Nat), getK l n = l[n]?
  | [], _ => rfl
  | _ :: _, 0 => rfl
  | _ :: l, n + 1 => (getK_eq l n).trans (List.getElem?_cons_succ).symm
noncomputable def setK {α : Type} (w : α) (l : List α) : Nat → List α := List.rec (motive := fun _ => Nat → List α) (fun _ => []) (fun a tl ih n => Nat.rec (motive := fun _ => List α) (w :: tl) (fun k _ => a :: ih k) n) l
theorem setK_eq {α : Type} (w : α) : ∀ (l : List α) (n : Nat), setK w l n = l.set n w
  | [], _ => rfl
  | _ :: _, 0 => rfl
  | a :: l, n + 1 => congrArg (a :: ·) (setK_eq w l n)
noncomputable def repK (l : List W) (n : Nat) : List W := Nat.rec (motive := fun _ => List W) [] (fun _ ih => appK l ih) n
theorem repK_eq (l : List W) : ∀ n : Nat, repK l n = (List.replicate n l).flatten
  | 0 => rfl
  | n + 1 => by
    rw [List.replicate_succ, List.flatten_cons, ← repK_eq l n, ← appK_eq]
    rfl
inductive R (α : Type) where
  | ok (a : α) (c : Ch) | no
inductive RS where
  | nx (ω : Sl) (c : Ch) | rt (w : W) (c : Ch) | bk (ω : Sl) (c : Ch) | ct (ω : Sl) (c : Ch) | no
abbrev Ev := Sl → Ch → R W
abbrev EvB := Sl → Ch → R Bool
abbrev EvA := Sl → Ch → R (List W)
abbrev EvS := Sl → Ch → RS
noncomputable def R.bind {α β : Type} (r : R α) (k : α → Ch → R β) : R β := match r with
  | .ok a c => k a c
  | .no => .no
noncomputable def R.run {α : Type} (r : R α) (k : α → Ch → RS) : RS := match r with
  | .ok a c => k a c
  | .no => .no

/-- a list that nobody changes here -/
def FrzAt (K : PySem.W.Frag) (ρ : List Addr) (H : Hp) (a : Addr) (vs : List V) : Prop := (H a = some (.lst vs) ∧ a ∉ ρ) ∨ (∃ o, H a = some (.frz o (.lst vs))) ∨
  ∃ (o : Obj) (its : Array Value) (n : Nat), K.lookup a = some o ∧ o.cls = .type "list" ∧ o.dict = none ∧ o.data = .seq its n ∧ its.size ≤ sizeLine ∧ Vals vs its.toList
theorem FrzAt.sqL {K : PySem.W.Frag} {ρ : List Addr} {H : Hp} {a : Addr} {vs : List V} (h : FrzAt K ρ H a vs) : SqL K H a vs := by
  rcases h with h | h | h
  · exact .inl (.inl h.1)
  · exact .inl (.inr h)
  · exact .inr h
theorem FrzAt.sub {K : PySem.W.Frag} {ρ ρ' : List Addr} {H : Hp} {a : Addr} {vs : List V} (h : FrzAt K ρ H a vs) (hs : ∀ x, x ∈ ρ' → x ∈ ρ) : FrzAt K ρ' H a vs := by
  rcases h with h | h | h
  · exact .inl ⟨h.1, fun z => h.2 (hs _ z)⟩
  · exact .inr (.inl h)
  · exact .inr (.inr h)
mutual
inductive Rp (K : PySem.W.Frag) (ρ : List Addr) (H : Hp) : W → V → Prop
  | non : Rp K ρ H .non .non
  | bl (b : Bool) : Rp K ρ H (.bl b) (.bl b)
  | int (i : Int) : Rp K ρ H (.int i) (.int i)
  | str (x : Str) : Rp K ρ H (.str x) (.str x)
  | tup {ws : List W} {vs : List V} {a : Addr} : SqT K H a vs → RpL K ρ H ws vs → Rp K ρ H (.tup ws) (.ref a)
  | ref {n : Nat} {a : Addr} : ρ[n]? = some a → Rp K ρ H (.ref n) (.ref a)
  | emp {a : Addr} : H a = some (.dK []) → Rp K ρ H .emp (.ref a)
  | mt {a : Addr} : H a = some (.lst []) → a ∉ ρ → Rp K ρ H .mt (.ref a)
  | frz {a : Addr} {zs : List Int} : FrzAt K ρ H a (zs.map V.int) → Rp K ρ H (.frz zs) (.ref a)
inductive RpL (K : PySem.W.Frag) (ρ : List Addr) (H : Hp) : List W → List V → Prop
  | nil : RpL K ρ H [] []
  | cons {w : W} {ws : List W} {v : V} {vs : List V} : Rp K ρ H w v → RpL K ρ H ws vs → RpL K ρ H (w :: ws) (v :: vs)
end
inductive RelS (K : PySem.W.Frag) (ρ : List Addr) (H : Hp) : Sl → L2.St → Prop
  | nil : RelS K ρ H [] []
  | free {ω : Sl} {x : Option V} {σ : L2.St} : RelS K ρ H ω σ → RelS K ρ H (none :: ω) (x :: σ)
  | cons {w : W} {ω : Sl} {v : V} {σ : L2.St} : Rp K ρ H w v → RelS K ρ H ω σ → RelS K ρ H (some w :: ω) (some v :: σ)
structure RelH (K : PySem.W.Frag) (ρ : List Addr) (H : Hp) (c : Ch) : Prop where
  len : ρ.length = c.length
  nd : ρ.Nodup
  mem : ∀ a, a ∈ ρ → ∃ vs, H a = some (.lst vs)
  at_ : ∀ (n : Nat) (ws : List W), (c.get n) = some ws → ∃ a vs, ρ[n]? = some a ∧ H a = some (.lst vs) ∧ RpL K ρ H ws vs
/-- what a run leaves: the addresses more, all else as it was -/
structure Post (ρ : List Addr) (H : Hp) (ρ' : List Addr) (H' : Hp) : Prop where
  more : ∃ m, ρ' = ρ ++ m ∧ ∀ a ∈ m, H a = none
  keep : ∀ a o, H a = some o → a ∉ ρ → H' a = some o
  dom : ∀ a, H' a = none → H a = none
theorem Post.refl {ρ : List Addr} {H : Hp} : Post ρ H ρ H := ⟨⟨[], by simp, by simp⟩, fun _ _ h _ => h, fun _ h => h⟩
theorem Post.trans {ρ ρ1 ρ2 : List Addr} {H H1 H2 : Hp} (p : Post ρ H ρ1 H1) (q : Post ρ1 H1 ρ2 H2) : Post ρ H ρ2 H2 := by
  obtain ⟨m, rfl, hm⟩ := p.more
  obtain ⟨m', rfl, hm'⟩ := q.more
  refine ⟨⟨m ++ m', by rw [List.append_assoc], fun a ha => ?_⟩, fun a o h hn => ?_, fun a h => p.dom a (q.dom a h)⟩
  · rcases List.mem_append.mp ha with z | z
    · exact hm a z
    · exact p.dom a (hm' a z)
  · refine q.keep a o (p.keep a o h hn) fun z => ?_
    rcases List.mem_append.mp z with z | z
    · exact hn z
    · rw [hm a z] at h
      cases h
theorem Post.get {ρ ρ' : List Addr} {H H' : Hp} (p : Post ρ H ρ' H') {n : Nat} {a : Addr} (h : ρ[n]? = some a) : ρ'[n]? = some a := by
  obtain ⟨m, rfl, _⟩ := p.more
  exact (List.getElem?_append_left (List.getElem?_eq_some_iff.mp h).1).trans h
section
variable {K : PySem.W.Frag} {ρ ρ' : List Addr} {H H' : Hp} {c : Ch}
theorem RelH.sqT (r : RelH K ρ H c) (p : Post ρ H ρ' H') {a : Addr} {vs : List V} (h : SqT K H a vs) : SqT K H' a vs := by
  rcases h with (h | ⟨o, h⟩) | h
  · exact .inl (.inl (p.keep _ _ h fun z => by
      obtain ⟨us, e⟩ := r.mem _ z
      rw [h] at e
      cases e))
  · exact .inl (.inr ⟨o, p.keep _ _ h fun z => by
      obtain ⟨us, e⟩ := r.mem _ z
      rw [h] at e
      cases e⟩)
  · exact .inr h
theorem not_more (p : Post ρ H ρ' H') {a : Addr} {o : HO} (h : H a = some o) (hn : a ∉ ρ) : a ∉ ρ' := by
  obtain ⟨m, e, hm⟩ := p.more
  rw [e]
  intro z
  rcases List.mem_append.mp z with z | z
  · exact hn z
  · rw [hm _ z] at h
    cases h
theorem FrzAt.post (r : RelH K ρ H c) (p : Post ρ H ρ' H') {a : Addr} {vs : List V} (h : FrzAt K ρ H a vs) : FrzAt K ρ' H' a vs := by
  rcases h with h | ⟨o, h⟩ | h
  · exact .inl ⟨p.keep _ _ h.1 h.2, not_more p h.1 h.2⟩
  · exact .inr (.inl ⟨o, p.keep _ _ h fun z => by
      obtain ⟨us, e⟩ := r.mem _ z
      rw [h] at e
      cases e⟩)
  · exact .inr (.inr h)
mutual
theorem Rp.mono (r : RelH K ρ H c) (p : Post ρ H ρ' H') : ∀ {w : W} {v : V}, Rp K ρ H w v → Rp K ρ' H' w v
  | _, _, .non => .non
  | _, _, .bl b => .bl b
  | _, _, .int i => .int i
  | _, _, .str x => .str x
  | _, _, .tup s l => .tup (r.sqT p s) (RpL.mono r p l)
  | _, _, .ref h => .ref (p.get h)
  | _, _, .emp h => .emp (p.keep _ _ h fun z => by
    obtain ⟨us, e⟩ := r.mem _ z
    rw [h] at e
    cases e)
  | _, _, .frz h => .frz (h.post r p)
  | _, _, .mt h hn => .mt (p.keep _ _ h hn) (by
    obtain ⟨m, e, hm⟩ := p.more
    rw [e]
    intro z
    rcases List.mem_append.mp z with z | z
    · exact hn z
    · rw [hm _ z] at h
      cases h)
theorem RpL.mono (r : RelH K ρ H c) (p : Post ρ H ρ' H') : ∀ {ws : List W} {vs : List V}, RpL K ρ H ws vs → RpL K ρ' H' ws vs
  | _, _, .nil => .nil
  | _, _, .cons h t => .cons (Rp.mono r p h) (RpL.mono r p t)
end
theorem RelS.mono (r : RelH K ρ H c) (p : Post ρ H ρ' H') : ∀ {ω : Sl} {σ : L2.St}, RelS K ρ H ω σ → RelS K ρ' H' ω σ
  | _, _, .nil => .nil
  | _, _, .free t => .free (RelS.mono r p t)
  | _, _, .cons h t => .cons (h.mono r p) (RelS.mono r p t)
theorem RelS.get : ∀ {ω : Sl} {σ : L2.St} {i : Nat} {w : W}, RelS K ρ H ω σ → ω[i]? = some (some w) → ∃ v, σ[i]? = some (some v) ∧ Rp K ρ H w v
  | _, _, _, _, .nil, h => by simp at h
  | _, _, 0, _, .free _, h => by simp at h
  | _, _, 0, _, .cons r _, h => by
    simp at h
    subst h
    exact ⟨_, rfl, r⟩
  | _, _, i + 1, _, .free t, h => by
    obtain ⟨v, e, r⟩ := RelS.get (i := i) t (by simpa using h)
    exact ⟨v, by simpa using e, r⟩
  | _, _, i + 1, _, .cons _ t, h => by
    obtain ⟨v, e, r⟩ := RelS.get (i := i) t (by simpa using h)
    exact ⟨v, by simpa using e, r⟩
theorem RelS.set {w : W} {v : V} (q : Rp K ρ H w v) : ∀ {ω : Sl} {σ : L2.St} (i : Nat), RelS K ρ H ω σ → RelS K ρ H (ω.set i (some w)) (σ.set i (some v))
  | _, _, _, .nil => .nil
  | _, _, 0, .free t => .cons q t
  | _, _, 0, .cons _ t => .cons q t
  | _, _, i + 1, .free t => .free (RelS.set q i t)
  | _, _, i + 1, .cons r t => .cons r (RelS.set q i t)
theorem RelS.unset : ∀ {ω : Sl} {σ : L2.St} (i : Nat) (x : Option V), RelS K ρ H ω σ → RelS K ρ H (ω.set i none) (σ.set i x)
  | _, _, _, _, .nil => .nil
  | _, _, 0, _, .free t => .free t
  | _, _, 0, _, .cons _ t => .free t
  | _, _, i + 1, x, .free t => .free (RelS.unset i x t)
  | _, _, i + 1, x, .cons r t => .cons r (RelS.unset i x t)
theorem RelS.setK {w : W} {v : V} (q : Rp K ρ H w v) {ω : Sl} {σ : L2.St} (i : Nat) (r : RelS K ρ H ω σ) : RelS K ρ H (Sm.setK (some w) ω i) (σ.set i (some v)) := by
  rw [setK_eq]
  exact r.set q i
theorem RelS.unsetK {ω : Sl} {σ : L2.St} (i : Nat) (x : Option V) (r : RelS K ρ H ω σ) : RelS K ρ H (Sm.setK none ω i) (σ.set i x) := by
  rw [setK_eq]
  exact r.unset i x
theorem RpL.length : ∀ {ws : List W} {vs : List V}, RpL K ρ H ws vs → ws.length = vs.length
  | _, _, .nil => rfl
  | _, _, .cons _ t => congrArg (· + 1) (RpL.length t)
theorem RpL.get : ∀ {ws : List W} {vs : List V} {i : Nat} {w : W}, RpL K ρ H ws vs → ws[i]? = some w → ∃ v, vs[i]? = some v ∧ Rp K ρ H w v
  | _, _, _, _, .nil, h => by simp at h
  | _, _, 0, _, .cons r _, h => by
    simp at h
    subst h
    exact ⟨_, rfl, r⟩
  | _, _, i + 1, _, .cons _ t, h => by
    obtain ⟨v, e, r⟩ := RpL.get (i := i) t (by simpa using h)
    exact ⟨v, by simpa using e, r⟩
theorem RpL.append : ∀ {ws us : List W} {vs zs : List V}, RpL K ρ H ws vs → RpL K ρ H us zs → RpL K ρ H (ws ++ us) (vs ++ zs)
  | _, _, _, _, .nil, s => s
  | _, _, _, _, .cons r t, s => .cons r (RpL.append t s)
theorem RpL.set {w : W} {v : V} (q : Rp K ρ H w v) : ∀ {ws : List W} {vs : List V} (i : Nat), RpL K ρ H ws vs → RpL K ρ H (ws.set i w) (vs.set i v)
  | _, _, _, .nil => .nil
  | _, _, 0, .cons _ t => .cons q t
  | _, _, i + 1, .cons r t => .cons r (RpL.set q i t)
theorem RpL.take : ∀ {ws : List W} {vs : List V} (n : Nat), RpL K ρ H ws vs → RpL K ρ H (ws.take n) (vs.take n)
  | _, _, 0, _ => .nil
  | _, _, _ + 1, .nil => .nil
  | _, _, n + 1, .cons r t => .cons r (RpL.take n t)
theorem RpL.drop : ∀ {ws : List W} {vs : List V} (n : Nat), RpL K ρ H ws vs → RpL K ρ H (ws.drop n) (vs.drop n)
  | _, _, 0, r => r
  | _, _, _ + 1, .nil => .nil
  | _, _, n + 1, .cons _ t => RpL.drop n t
theorem RpL.rep {ws : List W} {vs : List V} (r : RpL K ρ H ws vs) : ∀ n : Nat, RpL K ρ H (List.replicate n ws).flatten (List.replicate n vs).flatten
  | 0 => .nil
  | n + 1 => by
    rw [List.replicate_succ, List.replicate_succ, List.flatten_cons, List.flatten_cons]
    exact r.append (RpL.rep r n)
/-- one address more -/
theorem post_new {p : Addr} {o : HO} (h : H p = none) : Post ρ H (ρ ++ [p]) (upd H p o) :=
  ⟨⟨[p], rfl, fun a ha => by rw [List.mem_singleton.mp ha]; exact h⟩, fun a u e _ => by rw [upd_ne (ne_of_none e h)]; exact e, fun a e => by
    by_cases ha : a = p
    · rw [ha]
      exact h
    · rwa [upd_ne ha] at e⟩
/-- a new object that the small heap does not hold -/
theorem post_out {p : Addr} {o : HO} (h : H p = none) : Post ρ H ρ (upd H p o) :=
  ⟨⟨[], by simp, by simp⟩, fun a u e _ => by rw [upd_ne (ne_of_none e h)]; exact e, fun a e => by
    by_cases ha : a = p
    · rw [ha]
      exact h
    · rwa [upd_ne ha] at e⟩
theorem post_set {p : Addr} {o u : HO} (h : H p = some u) (hp : p ∈ ρ) : Post ρ H ρ (upd H p o) :=
  ⟨⟨[], by simp, by simp⟩, fun a u e hn => by rw [upd_ne (fun z => hn (by rw [z]; exact hp))]; exact e, fun a e => by
    by_cases ha : a = p
    · rw [ha, upd_same] at e
      cases e
    · rwa [upd_ne ha] at e⟩
theorem RelH.out (r : RelH K ρ H c) {p : Addr} {o : HO} (h : H p = none) : RelH K ρ (upd H p o) c :=
  ⟨r.len, r.nd, fun a ha => by
    obtain ⟨vs, e⟩ := r.mem a ha
    exact ⟨vs, by rw [upd_ne (ne_of_none e h)]; exact e⟩, fun n ws e => by
    obtain ⟨a, vs, e1, e2, e3⟩ := r.at_ n ws e
    exact ⟨a, vs, e1, by rw [upd_ne (ne_of_none e2 h)]; exact e2, e3.mono r (post_out h)⟩⟩
theorem RelH.new (r : RelH K ρ H c) {p : Addr} {ws : List W} {vs : List V} (h : H p = none) (q : RpL K ρ H ws vs) : RelH K (ρ ++ [p]) (upd H p (.lst vs)) (c.push ws) := by
  have po : Post ρ H (ρ ++ [p]) (upd H p (.lst vs)) := post_new h
  refine ⟨by simp [r.len, Ch.push], ?_, fun a ha => ?_, fun n us e => ?_⟩
  · refine List.nodup_append.mpr ⟨r.nd, by simp, fun a ha b hb => ?_⟩
    rw [List.mem_singleton.mp hb]
    intro z
    obtain ⟨xs, e⟩ := r.mem _ ha
    rw [z, h] at e
    cases e
  · rcases List.mem_append.mp ha with z | z
    · obtain ⟨xs, e⟩ := r.mem _ z
      exact ⟨xs, by rw [upd_ne (ne_of_none e h)]; exact e⟩
    · rw [List.mem_singleton.mp z]
      exact ⟨vs, upd_same⟩
  · rw [Ch.get_push] at e
    by_cases hn : n = c.length
    · rw [if_pos hn] at e
      cases e
      exact ⟨p, vs, by rw [hn, ← r.len, List.getElem?_append_right (Nat.le_refl _)]; simp, upd_same, q.mono r po⟩
    · rw [if_neg hn] at e
      obtain ⟨a, xs, e1, e2, e3⟩ := r.at_ n us e
      exact ⟨a, xs, po.get e1, by rw [upd_ne (ne_of_none e2 h)]; exact e2, e3.mono r po⟩
theorem RelH.inj (r : RelH K ρ H c) {n m : Nat} {a : Addr} (h1 : ρ[n]? = some a) (h2 : ρ[m]? = some a) : n = m := by
  have l1 := (List.getElem?_eq_some_iff.mp h1).1
  exact (List.getElem?_inj l1 r.nd).mp (h1.trans h2.symm)
theorem RelH.put (r : RelH K ρ H c) {n : Nat} {a : Addr} {ws : List W} {vs : List V} (h : ρ[n]? = some a) (q : RpL K ρ H ws vs) : RelH K ρ (upd H a (.lst vs)) (c.set n ws) := by
  have hm : a ∈ ρ := List.mem_of_getElem? h
  obtain ⟨us, eu⟩ := r.mem _ hm
  have po : Post ρ H ρ (upd H a (.lst vs)) := post_set eu hm
  refine ⟨r.len, r.nd, fun b hb => ?_, fun m xs e => ?_⟩
  · by_cases z : b = a
    · rw [z]
      exact ⟨vs, upd_same⟩
    · rw [upd_ne z]
      exact r.mem _ hb
  rw [Ch.get_set] at e
  by_cases hn : m = n
  · rw [if_pos hn] at e
    cases e
    exact ⟨a, vs, by rw [hn]; exact h, upd_same, q.mono r po⟩
  · rw [if_neg hn] at e
    obtain ⟨b, zs, e1, e2, e3⟩ := r.at_ m xs e
    exact ⟨b, zs, e1, by rw [upd_ne (fun (z : b = a) => hn (r.inj (by rw [← z]; exact e1) h))]; exact e2, e3.mono r po⟩
theorem RelH.lst (r : RelH K ρ H c) {n : Nat} {ws : List W} {v : V} (h : Rp K ρ H (.ref n) v) (e : (c.get n) = some ws) : ∃ a vs, v = .ref a ∧ ρ[n]? = some a ∧ H a = some (.lst vs) ∧ RpL K ρ H ws vs := by
  cases h with
  | ref h =>
    obtain ⟨b, vs, e1, e2, e3⟩ := r.at_ n ws e
    rw [h] at e1
    cases e1
    exact ⟨_, vs, rfl, h, e2, e3⟩
end
end Sm
/-! Sm2: readings by running; names, constants, operators, comparisons, tests, displays -/
namespace Sm
open PySem PySem.Spec PyProof.Rows L2

abbrev Rel (α β : Type) := List Addr → Hp → α → β → Prop
noncomputable def Got {α β : Type} (K : PySem.W.Frag) (rel : Rel α β) (r : R α) (ρ : List Addr) (H : Hp) (Q : β → Hp → Prop) : Prop := match r with
  | .ok a c => ∀ b H' ρ', Post ρ H ρ' H' → RelH K ρ' H' c → rel ρ' H' a b → Q b H'
  | .no => False
noncomputable def GotS (K : PySem.W.Frag) (r : RS) (ρ : List Addr) (H : Hp) (D : Ends) : Prop := match r with
  | .nx ω c => ∀ σ H' ρ', Post ρ H ρ' H' → RelH K ρ' H' c → RelS K ρ' H' ω σ → D.nx σ H'
  | .rt w c => ∀ v H' ρ', Post ρ H ρ' H' → RelH K ρ' H' c → Rp K ρ' H' w v → D.rt v H'
  | .bk ω c => ∀ σ H' ρ', Post ρ H ρ' H' → RelH K ρ' H' c → RelS K ρ' H' ω σ → D.bk σ H'
  | .ct ω c => ∀ σ H' ρ', Post ρ H ρ' H' → RelH K ρ' H' c → RelS K ρ' H' ω σ → D.ct σ H'
  | .no => False
abbrev relB : Rel Bool Bool := fun _ _ a b => a = b
noncomputable def tG {α β : Type} (K : PySem.W.Frag) (rel : Rel α β) (e : Sl → Ch → R α) : L2.St → Hp → (β → Hp → Prop) → Prop := fun σ H Q => ∃ ρ ω c, RelH K ρ H c ∧ RelS K ρ H ω σ ∧ Got K rel (e ω c) ρ H Q
abbrev tV (K : PySem.W.Frag) (e : Ev) : TE := tG K (Rp K) e
abbrev tW (K : PySem.W.Frag) (e : EvB) : TT := tG K relB e
abbrev tU (K : PySem.W.Frag) (e : EvA) : TA := tG K (RpL K) e
noncomputable def tX (K : PySem.W.Frag) (s : EvS) : TS := fun D σ H => ∃ ρ ω c, RelH K ρ H c ∧ RelS K ρ H ω σ ∧ GotS K (s ω c) ρ H D
section
variable {α β γ δ : Type} {K : PySem.W.Frag} {ρ ρ1 : List Addr} {H H1 : Hp} {c : Ch}
theorem Got.bind {rel : Rel γ δ} {r : R α} {k : α → Ch → R γ} {Q : δ → Hp → Prop} (h : Got K rel (r.bind k) ρ H Q) : ∃ a c1, r = .ok a c1 ∧ Got K rel (k a c1) ρ H Q := by
  cases r with
  | ok a c1 => exact ⟨a, c1, rfl, h⟩
  | no => exact h.elim
theorem GotS.run {r : R α} {k : α → Ch → RS} {D : Ends} (h : GotS K (r.run k) ρ H D) : ∃ a c1, r = .ok a c1 ∧ GotS K (k a c1) ρ H D := by
  cases r with
  | ok a c1 => exact ⟨a, c1, rfl, h⟩
  | no => exact h.elim
theorem Got.after {rel : Rel α β} {r : R α} {Q : β → Hp → Prop} (h : Got K rel r ρ H Q) (p : Post ρ H ρ1 H1) : Got K rel r ρ1 H1 Q := by
  cases r with
  | ok a c1 => exact fun b H' ρ' q => h b H' ρ' (p.trans q)
  | no => exact h.elim
theorem GotS.after {r : RS} {D : Ends} (h : GotS K r ρ H D) (p : Post ρ H ρ1 H1) : GotS K r ρ1 H1 D := by
  cases r with
  | nx ω c => exact fun b H' ρ' q => h b H' ρ' (p.trans q)
  | rt w c => exact fun b H' ρ' q => h b H' ρ' (p.trans q)
  | bk ω c => exact fun b H' ρ' q => h b H' ρ' (p.trans q)
  | ct ω c => exact fun b H' ρ' q => h b H' ρ' (p.trans q)
  | no => exact h.elim
theorem tG_in {rel : Rel α β} {e : Sl → Ch → R α} {ω : Sl} {σ : L2.St} {a : α} {c1 : Ch} {Q : β → Hp → Prop} (hr : RelH K ρ H c) (hs : RelS K ρ H ω σ) (he : e ω c = .ok a c1)
    (k : ∀ b H1 ρ1, Post ρ H ρ1 H1 → RelH K ρ1 H1 c1 → RelS K ρ1 H1 ω σ → rel ρ1 H1 a b → Q b H1) : tG K rel e σ H Q := by
  refine ⟨ρ, ω, c, hr, hs, ?_⟩
  rw [he]
  exact fun b H' ρ' p r q => k b H' ρ' p r (hs.mono hr p) q
theorem tG_imp {rel : Rel α β} {e : Sl → Ch → R α} {σ : L2.St} {Q Q' : β → Hp → Prop} (h : tG K rel e σ H Q) (i : ∀ b H, Q b H → Q' b H) : tG K rel e σ H Q' := by
  obtain ⟨ρ, ω, c, hr, hs, g⟩ := h
  refine ⟨ρ, ω, c, hr, hs, ?_⟩
  cases he : e ω c with
  | ok a c1 =>
    rw [he] at g
    exact fun b H' ρ' p r q => i _ _ (g b H' ρ' p r q)
  | no =>
    rw [he] at g
    exact g.elim
end
theorem pe_imp {X : Cx} {e : Expr} {t t' : TE} (h : PE X e t) (i : ∀ σ H Q, t' σ H Q → t σ H Q) : PE X e t' := ⟨fun pins s σ H Q I q => h.run pins s σ H Q I (i σ H Q q)⟩
theorem pt_imp {X : Cx} {e : Expr} {t t' : TT} (h : PT X e t) (i : ∀ σ H Q, t' σ H Q → t σ H Q) : PT X e t' := ⟨fun pins s σ H Q I q => h.run pins s σ H Q I (i σ H Q q)⟩
theorem pw_imp {X : Cx} {e : Expr} {t t' : TT} (h : PW X e t) (i : ∀ σ H Q, t' σ H Q → t σ H Q) : PW X e t' := ⟨fun w pins s σ H Q I q => h.run w pins s σ H Q I (i σ H Q q)⟩
theorem pa_imp {X : Cx} {e : List Expr} {t t' : TA} (h : PA X e t) (i : ∀ σ H Q, t' σ H Q → t σ H Q) : PA X e t' := ⟨fun p pins s σ H Q I q => h.run p pins s σ H Q I (i σ H Q q)⟩
theorem ps_imp {X : Cx} {e : Stmt} {t t' : TS} (h : PS X e t) (i : ∀ D σ H, t' D σ H → t D σ H) : PS X e t' := ⟨fun pins s σ H Q I q => h.run pins s σ H Q I (i Q σ H q)⟩
theorem pss_imp {X : Cx} {e : List Stmt} {t t' : TS} (h : PSs X e t) (i : ∀ D σ H, t' D σ H → t D σ H) : PSs X e t' := ⟨fun pins s σ H Q I q => h.run pins s σ H Q I (i Q σ H q)⟩
theorem pg_imp {X : Cx} {e : Expr} {t t' : TG} (h : PG X e t) (i : ∀ v σ H Q, t' v σ H Q → t v σ H Q) : PG X e t' := ⟨fun pins s σ H v u Q I r q => h.run pins s σ H v u Q I r (i v σ H Q q)⟩
theorem pi_imp {X : Cx} {tg e : Expr} {t t' : TI} (h : PI X tg e t) (i : ∀ σ H R, t' σ H R → t σ H R) : PI X tg e t' := ⟨fun pins s σ H R I q => h.run pins s σ H R I (i σ H R q)⟩
noncomputable def rOr (r r' : R2) : R2 := fun x y H Q => r x y H Q ∨ r' x y H Q
theorem opr_or {X : Cx} {f : Value → Value → Sem Value} {r r' : R2} (h : OpR X f r) (h' : OpR X f r') : OpR X f (rOr r r') := fun pins s σ H x y v u Q I rx ry q => by
  rcases q with q | q
  · exact h pins s σ H x y v u Q I rx ry q
  · exact h' pins s σ H x y v u Q I rx ry q

/-! ### names, constants -/
noncomputable def eVar (i : Nat) : Ev := fun ω c => match getK ω i with
  | some (some w) => .ok w c
  | _ => .no
noncomputable def eC (w : W) : Ev := fun _ c => .ok w c
section
variable {X : Cx} {pos : Pos}
theorem q_var {i : Nat} {x : Str} (h : PE X (.Name x pos) (tVar i)) : PE X (.Name x pos) (tV X.K (eVar i)) := pe_imp h fun σ H Q g => by
  obtain ⟨ρ, ω, c, hr, hs, g⟩ := g
  unfold eVar at g
  rw [getK_eq] at g
  cases e : ω[i]? with
  | none => rw [e] at g; exact g.elim
  | some o =>
    rw [e] at g
    cases o with
    | none => exact g.elim
    | some w =>
      obtain ⟨v, hv, r⟩ := hs.get e
      exact ⟨v, hv, g v H ρ Post.refl hr r⟩
theorem q_v (i : Nat) {x : Str} (hN : X.N[i]? = some x := by rfl) (hv : Vis X.env.scope x := by first | exact Or.inl rfl | exact Or.inr (Or.inl rfl) | exact Or.inr (Or.inr rfl)) (hd : (x == ("__debug__" : Str)) = false := by decide)
    (hcd : (x == ("__classdict__" : Str)) = false := by decide) : PE X (.Name x pos) (tV X.K (eVar i)) := q_var (pe_var hN hv hd hcd)
theorem q_tC {e : Expr} {w : W} {v : V} (h : PE X e (tC v)) (r : ∀ ρ H, Rp X.K ρ H w v) : PE X e (tV X.K (eC w)) := pe_imp h fun σ H Q ⟨ρ, ω, c, hr, hs, g⟩ => g v H ρ Post.refl hr (r ρ H)
theorem q_int {i j} : PE X (.Constant (.int i) j pos) (tV X.K (eC (.int i))) := q_tC pe_int fun _ _ => .int i
theorem q_bl {i j} : PE X (.Constant (.bool i) j pos) (tV X.K (eC (.bl i))) := q_tC pe_bl fun _ _ => .bl i
theorem q_non {j} : PE X (.Constant .none j pos) (tV X.K (eC .non)) := q_tC pe_non fun _ _ => .non
theorem q_str {i j} : PE X (.Constant (.str i) j pos) (tV X.K (eC (.str i))) := q_tC pe_str fun _ _ => .str i
/-- a module's constant -/
theorem q_glob {x : Str} {w : W} {v : V} {u : Value} (hg : Gl X x) (hm : X.mg x = some u) (r : RelV v u) (h : ∀ ρ H, Rp X.K ρ H w v) (hd : (x == ("__debug__" : Str)) = false := by decide) : PE X (.Name x pos) (tV X.K (eC w)) := q_tC (pe_glob hg hm r hd) h
end

/-! ### operators -/
abbrev F2 := W → W → Ch → R W
noncomputable def eBin (f : F2) (a b : Ev) : Ev := fun ω c => (a ω c).bind fun x c1 => (b ω c1).bind fun y c2 => f x y c2
noncomputable def Ok2 (K : PySem.W.Frag) (r : R2) (f : F2) : Prop := ∀ (ρ : List Addr) (H : Hp) (c : Ch) (x y : W) (v u : V) (Q : VK), RelH K ρ H c → Rp K ρ H x v → Rp K ρ H y u → Got K (Rp K) (f x y c) ρ H Q → r v u H Q
theorem ok_or {K : PySem.W.Frag} {r r' : R2} {f g : F2} (h : Ok2 K r f) (h' : Ok2 K r' g) : Ok2 K (rOr r r') (fun x y c => match f x y c with | .ok w c' => .ok w c' | .no => g x y c) := by
  intro ρ H c x y v u Q hr rx ry q
  cases e : f x y c with
  | ok w c' =>
    simp only [e] at q
    exact .inl (h ρ H c x y v u Q hr rx ry (by rw [e]; exact q))
  | no =>
    simp only [e] at q
    exact .inr (h' ρ H c x y v u Q hr rx ry q)
section
variable {X : Cx} {pos : Pos} {a b d : Expr} {ea eb ed : Ev} {r r' : R2} {f f' : F2}
theorem tV_op (ok : Ok2 X.K r f) {σ : L2.St} {H : Hp} {Q : VK} (h : tV X.K (eBin f ea eb) σ H Q) : tOp r (tV X.K ea) (tV X.K eb) σ H Q := by
  obtain ⟨ρ, ω, c, hr, hs, g⟩ := h
  obtain ⟨x, c1, e1, g⟩ := Got.bind g
  refine tG_in hr hs e1 fun v H1 ρ1 p1 hr1 hs1 rx => ?_
  obtain ⟨y, c2, e2, g⟩ := Got.bind g
  refine tG_in hr1 hs1 e2 fun u H2 ρ2 p2 hr2 hs2 ry => ?_
  exact ok ρ2 H2 c2 x y v u Q hr2 (rx.mono hr1 p2) ry (g.after (p1.trans p2))
theorem q_bin {op : Operator} (ho : OpR X (binaryOp op) r) (ok : Ok2 X.K r f) (ha : PE X a (tV X.K ea)) (hb : PE X b (tV X.K eb)) : PE X (.BinOp a op b pos) (tV X.K (eBin f ea eb)) :=
  pe_imp (pe_op ho ha hb) fun _ _ _ h => tV_op ok h
theorem q_cmp {op : CmpOp} (ho : OpR X (compareOp op) r) (ok : Ok2 X.K r f) (ha : PE X a (tV X.K ea)) (hb : PE X b (tV X.K eb)) (hm : behindInMarks op b = false) : PE X (.Compare a [op] [b] pos) (tV X.K (eBin f ea eb)) :=
  pe_imp (pe_cmpR ho ha hb hm) fun _ _ _ h => tV_op ok h
/-- a value that must be a truth value -/
noncomputable def toB (e : Ev) : EvB := fun ω c => (e ω c).bind fun x c1 => match x with
  | .bl b => .ok b c1
  | _ => .no
theorem tW_toB {K : PySem.W.Frag} {e : Ev} {σ : L2.St} {H : Hp} {Q : Bool → Hp → Prop} (h : tW K (toB e) σ H Q) : tV K e σ H fun x H' => ∃ k, x = .bl k ∧ Q k H' := by
  obtain ⟨ρ, ω, c, hr, hs, g⟩ := h
  obtain ⟨x, c1, e1, g⟩ := Got.bind g
  refine tG_in hr hs e1 fun v H1 ρ1 p1 hr1 hs1 rx => ?_
  cases rx with
  | bl k => exact ⟨k, rfl, g.after p1 k H1 ρ1 Post.refl hr1 rfl⟩
  | _ => exact g.elim
theorem u_cmp {op : CmpOp} (ho : OpR X (compareOp op) r) (ok : Ok2 X.K r f) (ha : PE X a (tV X.K ea)) (hb : PE X b (tV X.K eb)) (hm : behindInMarks op b = false) : PT X (.Compare a [op] [b] pos) (tW X.K (toB (eBin f ea eb))) :=
  pt_imp (pt_cmpR ho ha hb hm) fun _ _ _ h => tV_op ok (tW_toB h)
/-- a op b op' d -/
noncomputable def eChain (f f' : F2) (a b d : Ev) : Ev := fun ω c => (a ω c).bind fun x c1 => (b ω c1).bind fun y c2 => (f x y c2).bind fun z c3 => match z with
  | .bl true => (d ω c3).bind fun w c4 => f' y w c4
  | .bl false => .ok (.bl false) c3
  | _ => .no
theorem tV_chain (ok : Ok2 X.K r f) (ok' : Ok2 X.K r' f') {σ : L2.St} {H : Hp} {Q : VK} (h : tV X.K (eChain f f' ea eb ed) σ H Q) : tChain r r' (tV X.K ea) (tV X.K eb) (tV X.K ed) σ H Q := by
  obtain ⟨ρ, ω, c, hr, hs, g⟩ := h
  obtain ⟨x, c1, e1, g⟩ := Got.bind g
  refine tG_in hr hs e1 fun v H1 ρ1 p1 hr1 hs1 rx => ?_
  obtain ⟨y, c2, e2, g⟩ := Got.bind g
  refine tG_in hr1 hs1 e2 fun u H2 ρ2 p2 hr2 hs2 ry => ?_
  obtain ⟨z, c3, e3, g⟩ := Got.bind g
  refine ok ρ2 H2 c2 x y v u _ hr2 (rx.mono hr1 p2) ry ?_
  rw [e3]
  intro vz H3 ρ3 p3 hr3 rz
  cases rz with
  | bl k =>
    refine ⟨k, rfl, ?_⟩
    have p13 := (p1.trans p2).trans p3
    cases k with
    | false => exact g (.bl false) H3 ρ3 p13 hr3 (.bl false)
    | true =>
      obtain ⟨t, c4, e4, g⟩ := Got.bind g
      refine tG_in hr3 (hs2.mono hr2 p3) e4 fun vt H4 ρ4 p4 hr4 hs4 rt => ?_
      exact ok' ρ4 H4 c4 y t u vt Q hr4 ((ry.mono hr2 p3).mono hr3 p4) rt (g.after (p13.trans p4))
  | _ => exact g.elim
theorem q_chain {op op' : CmpOp} (ho : OpR X (compareOp op) r) (ho' : OpR X (compareOp op') r') (ok : Ok2 X.K r f) (ok' : Ok2 X.K r' f') (ha : PE X a (tV X.K ea)) (hb : PE X b (tV X.K eb)) (hd : PE X d (tV X.K ed))
    (hm : lastMarks [op, op'] [b, d] = false := by with_unfolding_all rfl) : PE X (.Compare a [op, op'] [b, d] pos) (tV X.K (eChain f f' ea eb ed)) := pe_imp (pe_chain ho ho' ha hb hd hm) fun _ _ _ h => tV_chain ok ok' h
theorem u_chain {op op' : CmpOp} (ho : OpR X (compareOp op) r) (ho' : OpR X (compareOp op') r') (ok : Ok2 X.K r f) (ok' : Ok2 X.K r' f') (ha : PE X a (tV X.K ea)) (hb : PE X b (tV X.K eb)) (hd : PE X d (tV X.K ed))
    (hm : lastMarks [op, op'] [b, d] = false := by with_unfolding_all rfl) : PT X (.Compare a [op, op'] [b, d] pos) (tW X.K (toB (eChain f f' ea eb ed))) := pt_imp (pt_chain ho ho' ha hb hd hm) fun _ _ _ h => tV_chain ok ok' (tW_toB h)
end

/-! ### truth, and, or, not, if -/
noncomputable def truW (w : W) (c : Ch) : R Bool := match w with
  | .non => .ok false c
  | .bl b => .ok b c
  | .int i => .ok (i != 0) c
  | .tup ws => .ok (!ws.isEmpty) c
  | .ref n => match (c.get n) with
    | some ws => .ok (!ws.isEmpty) c
    | none => .no
  | .emp => .ok false c
  | .mt => .ok false c
  | _ => .no
noncomputable def bTru (e : Ev) : EvB := fun ω c => (e ω c).bind truW
noncomputable def bAnd (a b : EvB) : EvB := fun ω c => (a ω c).bind fun x c1 => match x with
  | true => b ω c1
  | false => .ok false c1
noncomputable def bOr (a b : EvB) : EvB := fun ω c => (a ω c).bind fun x c1 => match x with
  | true => .ok true c1
  | false => b ω c1
noncomputable def bNot (a : EvB) : EvB := fun ω c => (a ω c).bind fun x c1 => .ok (!x) c1
noncomputable def eAnd (a b : Ev) : Ev := fun ω c => (a ω c).bind fun x c1 => match x with
  | .bl true => b ω c1
  | .bl false => .ok (.bl false) c1
  | _ => .no
noncomputable def eOr (a b : Ev) : Ev := fun ω c => (a ω c).bind fun x c1 => match x with
  | .bl true => .ok (.bl true) c1
  | .bl false => b ω c1
  | _ => .no
noncomputable def eNot (a : Ev) : Ev := fun ω c => (a ω c).bind fun x c1 => match x with
  | .bl b => .ok (.bl (!b)) c1
  | _ => .no
noncomputable def eIf (t : EvB) (a b : Ev) : Ev := fun ω c => (t ω c).bind fun x c1 => match x with
  | true => a ω c1
  | false => b ω c1
theorem isEmpty_rp {K : PySem.W.Frag} {ρ : List Addr} {H : Hp} {ws : List W} {vs : List V} (r : RpL K ρ H ws vs) : (!vs.isEmpty) = !ws.isEmpty := by
  cases r <;> rfl
section
variable {X : Cx} {pos : Pos} {a b d : Expr} {rest : List Expr} {ea eb ed : Ev} {ta tb : EvB}
theorem u_tru (ha : PE X a (tV X.K ea)) (he : ∀ whole, isTrue a X.env whole = (do let v ← whole; standAt a.pos; holding [v] (truthy v)) := by intro _; rfl) : PT X a (tW X.K (bTru ea)) := pt_imp (pt_truth ha he) fun σ H Q h => by
  obtain ⟨ρ, ω, c, hr, hs, g⟩ := h
  obtain ⟨x, c1, e1, g⟩ := Got.bind g
  refine tG_in hr hs e1 fun v H1 ρ1 p1 hr1 hs1 rx => ?_
  cases rx with
  | non => exact ⟨false, rfl, g false H1 ρ1 p1 hr1 rfl⟩
  | bl k => exact ⟨k, rfl, g k H1 ρ1 p1 hr1 rfl⟩
  | int i => exact ⟨_, rfl, g _ H1 ρ1 p1 hr1 rfl⟩
  | str x => exact g.elim
  | emp ha => exact ⟨false, .inr (.inr ⟨[], ha, rfl⟩), g false H1 ρ1 p1 hr1 rfl⟩
  | frz ha => exact g.elim
  | mt ha _ => exact ⟨false, .inl ⟨[], .of ha, rfl⟩, g false H1 ρ1 p1 hr1 rfl⟩
  | @tup ws vs ad hs' hl => exact ⟨!vs.isEmpty, .inr (.inl ⟨vs, hs', rfl⟩), g _ H1 ρ1 p1 hr1 (isEmpty_rp hl).symm⟩
  | @ref n ad hn =>
    have g : Got X.K relB (match (c1.get n) with | some ws => R.ok (!ws.isEmpty) c1 | none => .no) ρ H Q := g
    cases e : (c1.get n) with
    | none => rw [e] at g; exact g.elim
    | some ws =>
      rw [e] at g
      obtain ⟨b, vs, e0, e1, e2, e3⟩ := hr1.lst (.ref hn) e
      cases e0
      exact ⟨!vs.isEmpty, .inl ⟨vs, .of e2, rfl⟩, g _ H1 ρ1 p1 hr1 (isEmpty_rp e3).symm⟩
theorem tW_and {σ : L2.St} {H : Hp} {Q : Bool → Hp → Prop} (h : tW X.K (bAnd ta tb) σ H Q) : tAnd (tW X.K ta) (tW X.K tb) σ H Q := by
  obtain ⟨ρ, ω, c, hr, hs, g⟩ := h
  obtain ⟨x, c1, e1, g⟩ := Got.bind g
  refine tG_in hr hs e1 fun k H1 ρ1 p1 hr1 hs1 rx => ?_
  have rx : x = k := rx
  subst rx
  cases x with
  | true => exact ⟨ρ1, ω, c1, hr1, hs1, g.after p1⟩
  | false => exact g false H1 ρ1 p1 hr1 rfl
theorem tW_or {σ : L2.St} {H : Hp} {Q : Bool → Hp → Prop} (h : tW X.K (bOr ta tb) σ H Q) : tOr (tW X.K ta) (tW X.K tb) σ H Q := by
  obtain ⟨ρ, ω, c, hr, hs, g⟩ := h
  obtain ⟨x, c1, e1, g⟩ := Got.bind g
  refine tG_in hr hs e1 fun k H1 ρ1 p1 hr1 hs1 rx => ?_
  have rx : x = k := rx
  subst rx
  cases x with
  | true => exact g true H1 ρ1 p1 hr1 rfl
  | false => exact ⟨ρ1, ω, c1, hr1, hs1, g.after p1⟩
theorem w_and1 (ha : PT X a (tW X.K ta)) : PW X (.BoolOp .And [a] pos) (tW X.K ta) := pw_and1 ha
theorem w_or1 (ha : PT X a (tW X.K ta)) : PW X (.BoolOp .Or [a] pos) (tW X.K ta) := pw_or1 ha
theorem w_and (ha : PT X a (tW X.K ta)) (hb : PW X (.BoolOp .And (b :: rest) pos) (tW X.K tb)) : PW X (.BoolOp .And (a :: b :: rest) pos) (tW X.K (bAnd ta tb)) := pw_imp (pw_and ha hb) fun _ _ _ h => tW_and h
theorem w_or (ha : PT X a (tW X.K ta)) (hb : PW X (.BoolOp .Or (b :: rest) pos) (tW X.K tb)) : PW X (.BoolOp .Or (a :: b :: rest) pos) (tW X.K (bOr ta tb)) := pw_imp (pw_or ha hb) fun _ _ _ h => tW_or h
theorem u_not (ha : PT X a (tW X.K ta)) : PT X (.UnaryOp .Not a pos) (tW X.K (bNot ta)) := pt_imp (pt_not ha) fun σ H Q h => by
  obtain ⟨ρ, ω, c, hr, hs, g⟩ := h
  obtain ⟨x, c1, e1, g⟩ := Got.bind g
  refine tG_in hr hs e1 fun k H1 ρ1 p1 hr1 hs1 rx => ?_
  have rx : x = k := rx
  subst rx
  exact g _ H1 ρ1 p1 hr1 rfl
theorem q_one {op} (ha : PE X a (tV X.K ea)) : PE X (.BoolOp op [a] pos) (tV X.K ea) := pe_one ha
theorem q_and (ha : PE X a (tV X.K ea)) (hb : PE X (.BoolOp .And (b :: rest) pos) (tV X.K eb)) : PE X (.BoolOp .And (a :: b :: rest) pos) (tV X.K (eAnd ea eb)) := pe_imp (pe_and ha hb) fun σ H Q h => by
  obtain ⟨ρ, ω, c, hr, hs, g⟩ := h
  obtain ⟨x, c1, e1, g⟩ := Got.bind g
  refine tG_in hr hs e1 fun v H1 ρ1 p1 hr1 hs1 rx => ?_
  cases rx with
  | bl k =>
    refine ⟨k, rfl, ?_⟩
    cases k with
    | true => exact ⟨ρ1, ω, c1, hr1, hs1, g.after p1⟩
    | false => exact g (.bl false) H1 ρ1 p1 hr1 (.bl false)
  | _ => exact g.elim
theorem q_or (ha : PE X a (tV X.K ea)) (hb : PE X (.BoolOp .Or (b :: rest) pos) (tV X.K eb)) : PE X (.BoolOp .Or (a :: b :: rest) pos) (tV X.K (eOr ea eb)) := pe_imp (pe_or ha hb) fun σ H Q h => by
  obtain ⟨ρ, ω, c, hr, hs, g⟩ := h
  obtain ⟨x, c1, e1, g⟩ := Got.bind g
  refine tG_in hr hs e1 fun v H1 ρ1 p1 hr1 hs1 rx => ?_
  cases rx with
  | bl k =>
    refine ⟨k, rfl, ?_⟩
    cases k with
    | true => exact g (.bl true) H1 ρ1 p1 hr1 (.bl true)
    | false => exact ⟨ρ1, ω, c1, hr1, hs1, g.after p1⟩
  | _ => exact g.elim
theorem q_not (ha : PE X a (tV X.K ea)) : PE X (.UnaryOp .Not a pos) (tV X.K (eNot ea)) := pe_imp (pe_not ha) fun σ H Q h => by
  obtain ⟨ρ, ω, c, hr, hs, g⟩ := h
  obtain ⟨x, c1, e1, g⟩ := Got.bind g
  refine tG_in hr hs e1 fun v H1 ρ1 p1 hr1 hs1 rx => ?_
  cases rx with
  | bl k => exact ⟨k, rfl, g (.bl (!k)) H1 ρ1 p1 hr1 (.bl _)⟩
  | _ => exact g.elim
theorem q_if (ht : PT X d (tW X.K ta)) (ha : PE X a (tV X.K ea)) (hb : PE X b (tV X.K eb)) : PE X (.IfExp d a b pos) (tV X.K (eIf ta ea eb)) := pe_imp (pe_ifExp ht ha hb) fun σ H Q h => by
  obtain ⟨ρ, ω, c, hr, hs, g⟩ := h
  obtain ⟨x, c1, e1, g⟩ := Got.bind g
  refine tG_in hr hs e1 fun k H1 ρ1 p1 hr1 hs1 rx => ?_
  have rx : x = k := rx
  subst rx
  cases x with
  | true => exact ⟨ρ1, ω, c1, hr1, hs1, g.after p1⟩
  | false => exact ⟨ρ1, ω, c1, hr1, hs1, g.after p1⟩
end

/-! ### argument lists, displays -/
noncomputable def aNil : EvA := fun _ c => .ok [] c
noncomputable def aCons (a : Ev) (r : EvA) : EvA := fun ω c => (a ω c).bind fun x c1 => (r ω c1).bind fun xs c2 => .ok (x :: xs) c2
noncomputable def itemsW (w : W) (c : Ch) : Option (List W) := match w with
  | .tup ws => some ws
  | .ref n => (c.get n)
  | .frz zs => some (zs.map W.int)
  | _ => none
noncomputable def aStar (a : Ev) (r : EvA) : EvA := fun ω c => (a ω c).bind fun x c1 => match itemsW x c1 with
  | some ys => (r ω c1).bind fun xs c2 => .ok (ys ++ xs) c2
  | none => .no
noncomputable def few (ws : List W) : Bool := Nat.ble (lenK ws) 100000
noncomputable def eTup (a : EvA) : Ev := fun ω c => (a ω c).bind fun xs c1 => match few xs with
  | true => .ok (.tup xs) c1
  | false => .no
noncomputable def newL (xs : List W) (c : Ch) : R W := match few xs with
  | true => .ok (.ref c.length) (c.push xs)
  | false => .no
noncomputable def eLst (a : EvA) : Ev := fun ω c => (a ω c).bind newL
theorem few_le {ws : List W} (h : few ws = true) : ws.length ≤ sizeLine := by
  rw [← lenK_eq]
  exact Nat.le_trans (Nat.le_of_ble_eq_true h) (by decide)
theorem newL_got {K : PySem.W.Frag} {ρ ρ1 : List Addr} {H H1 : Hp} {c : Ch} {ws : List W} {vs : List V} {Q : VK} (hr : RelH K ρ1 H1 c) (p1 : Post ρ H ρ1 H1) (r : RpL K ρ1 H1 ws vs) (g : Got K (Rp K) (newL ws c) ρ H Q) :
    vs.length ≤ sizeLine ∧ ∀ p, H1 p = none → Q (.ref p) (upd H1 p (.lst vs)) := by
  unfold newL at g
  cases e : few ws with
  | false => rw [e] at g; exact g.elim
  | true =>
    rw [e] at g
    refine ⟨by rw [← r.length]; exact few_le e, fun p hp => g (.ref p) _ (ρ1 ++ [p]) (p1.trans (post_new hp)) (hr.new hp r) (.ref ?_)⟩
    rw [← hr.len, List.getElem?_append_right (Nat.le_refl _)]
    simp
section
variable {X : Cx} {pos : Pos} {e : Expr} {es : List Expr} {ea : Ev} {ra : EvA}
theorem a_nil : PA X [] (tU X.K aNil) := pa_imp pa_nil fun σ H Q ⟨ρ, ω, c, hr, hs, g⟩ => g [] H ρ Post.refl hr .nil
theorem a_cons (ha : PE X e (tV X.K ea)) (hr : PA X es (tU X.K ra)) (hs : starEach (e :: es) X.env = (false, eval e X.env) :: starEach es X.env := by rfl) : PA X (e :: es) (tU X.K (aCons ea ra)) := pa_imp (pa_cons ha hr hs) fun σ H Q h => by
  obtain ⟨ρ, ω, c, hr, hs, g⟩ := h
  obtain ⟨x, c1, e1, g⟩ := Got.bind g
  refine tG_in hr hs e1 fun v H1 ρ1 p1 hr1 hs1 rx => ?_
  obtain ⟨xs, c2, e2, g⟩ := Got.bind g
  refine tG_in hr1 hs1 e2 fun vs H2 ρ2 p2 hr2 hs2 rxs => ?_
  exact g (v :: vs) H2 ρ2 (p1.trans p2) hr2 (.cons (rx.mono hr1 p2) rxs)
theorem rpl_ints {K : PySem.W.Frag} {ρ : List Addr} {H : Hp} : ∀ zs : List Int, RpL K ρ H (zs.map W.int) (zs.map V.int)
  | [] => .nil
  | z :: zs => .cons (.int z) (rpl_ints zs)
theorem itemsW_ok {K : PySem.W.Frag} {ρ : List Addr} {H : Hp} {c : Ch} {w : W} {v : V} {ws : List W} (hr : RelH K ρ H c) (r : Rp K ρ H w v) (h : itemsW w c = some ws) : ∃ a vs, v = .ref a ∧ (SqT K H a vs ∨ SqL K H a vs) ∧ RpL K ρ H ws vs := by
  cases r with
  | tup s l =>
    cases h
    exact ⟨_, _, rfl, .inl s, l⟩
  | ref hn =>
    obtain ⟨a, vs, e0, e1, e2, e3⟩ := hr.lst (.ref hn) h
    exact ⟨a, vs, e0, .inr (.of e2), e3⟩
  | frz ha =>
    cases h
    exact ⟨_, _, rfl, .inr ha.sqL, rpl_ints _⟩
  | _ => cases h
theorem a_star {p : Pos} (ha : PE X e (tV X.K ea)) (hr : PA X es (tU X.K ra)) (hs : starEach (.Starred e p :: es) X.env = (true, eval e X.env) :: starEach es X.env := by rfl) : PA X (.Starred e p :: es) (tU X.K (aStar ea ra)) := pa_imp (StX.pa_star ha hr hs) fun σ H Q h => by
  obtain ⟨ρ, ω, c, hr, hs, g⟩ := h
  obtain ⟨x, c1, e1, g⟩ := Got.bind g
  refine tG_in hr hs e1 fun v H1 ρ1 p1 hr1 hs1 rx => ?_
  cases e : itemsW x c1 with
  | none => rw [e] at g; exact g.elim
  | some ys =>
    rw [e] at g
    obtain ⟨xs, c2, e2, g⟩ := Got.bind g
    obtain ⟨a, vs, rfl, hq, rys⟩ := itemsW_ok hr1 rx e
    refine ⟨a, vs, rfl, hq, tG_in hr1 hs1 e2 fun us H2 ρ2 p2 hr2 hs2 rxs => ?_⟩
    exact g (vs ++ us) H2 ρ2 (p1.trans p2) hr2 ((rys.mono hr1 p2).append rxs)
theorem q_tup {x1} (h : PA X es (tU X.K ra)) : PE X (.Tuple es x1 pos) (tV X.K (eTup ra)) := pe_imp (pe_tup h) fun σ H Q h => by
  obtain ⟨ρ, ω, c, hr, hs, g⟩ := h
  obtain ⟨xs, c1, e1, g⟩ := Got.bind g
  refine tG_in hr hs e1 fun vs H1 ρ1 p1 hr1 hs1 rx => ?_
  cases e : few xs with
  | false => rw [e] at g; exact g.elim
  | true =>
    rw [e] at g
    refine ⟨by rw [← rx.length]; exact few_le e, fun p hp => g (.ref p) _ ρ1 (p1.trans (post_out hp)) (hr1.out hp) (.tup (.of upd_same) (rx.mono hr1 (post_out hp)))⟩
theorem q_lst (h : PA X es (tU X.K ra)) : PE X (.List es pos) (tV X.K (eLst ra)) := pe_imp (pe_lst h) fun σ H Q h => by
  obtain ⟨ρ, ω, c, hr, hs, g⟩ := h
  obtain ⟨xs, c1, e1, g⟩ := Got.bind g
  exact tG_in hr hs e1 fun vs H1 ρ1 p1 hr1 hs1 rx => newL_got hr1 p1 rx g
end
end Sm
/-! Sm3: what the operators, subscripts, built-ins do to small values -/
namespace Sm
open PySem PySem.Spec PyProof.Rows L2

/-! ### ints -/
noncomputable def fI (g : Int → Int → W) : F2 := fun x y c => match x, y with
  | .int i, .int j => .ok (g i j) c
  | _, _ => .no
noncomputable def fIC (C : Int → Int → Bool) (g : Int → Int → W) : F2 := fun x y c => match x, y with
  | .int i, .int j => match C i j with
    | true => .ok (g i j) c
    | false => .no
  | _, _ => .no
section
variable {K : PySem.W.Frag}
theorem ok_I {g : Int → Int → W} {gv : Int → Int → V} (hg : ∀ ρ H i j, Rp K ρ H (g i j) (gv i j)) : Ok2 K (rI0 gv) (fI g) := by
  intro ρ H c x y v u Q hr rx ry h
  cases rx with
  | int i =>
    cases ry with
    | int j => exact ⟨i, j, rfl, rfl, h _ H ρ Post.refl hr (hg ρ H i j)⟩
    | _ => exact h.elim
  | _ => exact h.elim
theorem ok_IC {C : Int → Int → Bool} {CP : Int → Int → Prop} {g : Int → Int → W} {gv : Int → Int → V} (hC : ∀ i j, C i j = true → CP i j) (hg : ∀ ρ H i j, Rp K ρ H (g i j) (gv i j)) : Ok2 K (rI CP gv) (fIC C g) := by
  intro ρ H c x y v u Q hr rx ry h
  cases rx with
  | int i =>
    cases ry with
    | int j =>
      have h : Got K (Rp K) (match C i j with | true => R.ok (g i j) c | false => .no) ρ H Q := h
      cases e : C i j with
      | false => rw [e] at h; exact h.elim
      | true =>
        rw [e] at h
        exact ⟨i, j, rfl, rfl, hC i j e, h _ H ρ Post.refl hr (hg ρ H i j)⟩
    | _ => exact h.elim
  | _ => exact h.elim
end
noncomputable def ilt (i j : Int) : Bool := match i, j with
  | .ofNat a, .ofNat b => Nat.blt a b
  | .negSucc _, .ofNat _ => true
  | .ofNat _, .negSucc _ => false
  | .negSucc a, .negSucc b => Nat.blt b a
noncomputable def ile (i j : Int) : Bool := !ilt j i
noncomputable def ieq (i j : Int) : Bool := match i, j with
  | .ofNat a, .ofNat b => Nat.beq a b
  | .negSucc a, .negSucc b => Nat.beq a b
  | _, _ => false
theorem ilt_eq (i j : Int) : ilt i j = decide (i < j) := by
  rw [Bool.eq_iff_iff, decide_eq_true_iff]
  cases i with
  | ofNat a =>
    cases j with
    | ofNat b =>
      show Nat.blt a b = true ↔ (a : Int) < (b : Int)
      rw [Nat.blt_eq]
      omega
    | negSucc b => simp [ilt]; omega
  | negSucc a =>
    cases j with
    | ofNat b => simp [ilt]; omega
    | negSucc b =>
      show Nat.blt b a = true ↔ Int.negSucc a < Int.negSucc b
      rw [Nat.blt_eq]
      omega
theorem ile_eq (i j : Int) : ile i j = decide (i ≤ j) := by
  unfold ile
  rw [ilt_eq, Bool.eq_iff_iff]
  simp
theorem ieq_eq (i j : Int) : ieq i j = decide (i = j) := by
  rw [Bool.eq_iff_iff, decide_eq_true_iff]
  cases i with
  | ofNat a =>
    cases j with
    | ofNat b =>
      show Nat.beq a b = true ↔ (a : Int) = (b : Int)
      rw [Nat.beq_eq]
      omega
    | negSucc b => simp [ieq]
  | negSucc a =>
    cases j with
    | ofNat b => simp [ieq]
    | negSucc b =>
      show Nat.beq a b = true ↔ Int.negSucc a = Int.negSucc b
      rw [Nat.beq_eq]
      omega
noncomputable def fAddI : F2 := fI fun i j => .int (i + j)
noncomputable def fSub : F2 := fI fun i j => .int (i - j)
noncomputable def mulC (i j : Int) : Bool := Nat.blt i.natAbs 18446744073709551616 || Nat.blt j.natAbs 18446744073709551616
noncomputable def fMulI : F2 := fIC mulC fun i j => .int (i * j)
noncomputable def fDiv : F2 := fIC (fun i j => ilt 0 j && ilt j 1073741824) fun i j => .int (i / j)
noncomputable def fMod : F2 := fIC (fun i j => ilt 0 j) fun i j => .int (i % j)
noncomputable def fLt : F2 := fI fun i j => .bl (ilt i j)
noncomputable def fLe : F2 := fI fun i j => .bl (ile i j)
noncomputable def fGt : F2 := fI fun i j => .bl (ilt j i)
noncomputable def fGe : F2 := fI fun i j => .bl (ile j i)
section
variable {K : PySem.W.Frag}
theorem ok_addI : Ok2 K (rI0 fun i j => .int (i + j)) fAddI := ok_I fun _ _ _ _ => .int _
theorem ok_sub : Ok2 K (rI0 fun i j => .int (i - j)) fSub := ok_I fun _ _ _ _ => .int _
theorem ok_mulI : Ok2 K (rI CMul fun i j => .int (i * j)) fMulI := ok_IC (fun i j h => by
  unfold mulC at h
  rcases Bool.or_eq_true_iff.mp h with h | h
  · have h : i.natAbs < 18446744073709551616 := by simpa [Nat.blt_eq] using h
    exact .inl ⟨by omega, by omega⟩
  · have h : j.natAbs < 18446744073709551616 := by simpa [Nat.blt_eq] using h
    exact .inr ⟨by omega, by omega⟩) fun _ _ _ _ => .int _
theorem ok_div : Ok2 K (rI CDiv fun i j => .int (i / j)) fDiv := ok_IC (fun i j h => by
  obtain ⟨h1, h2⟩ := Bool.and_eq_true_iff.mp h
  rw [ilt_eq] at h1 h2
  exact ⟨of_decide_eq_true h1, of_decide_eq_true h2⟩) fun _ _ _ _ => .int _
theorem ok_mod : Ok2 K (rI (fun _ j => 0 < j) fun i j => .int (i % j)) fMod := ok_IC (fun i j h => by
  rw [ilt_eq] at h
  exact of_decide_eq_true h) fun _ _ _ _ => .int _
noncomputable def fPow : F2 := fIC (fun i j => (ile 0 j && ile j 1000000) && Nat.blt i.natAbs 18446744073709551616) fun i j => .int (i ^ j.toNat)
theorem ok_pow : Ok2 K (rI CPow fun i j => .int (i ^ j.toNat)) fPow := ok_IC (fun i j h => by
  obtain ⟨h1, h2⟩ := Bool.and_eq_true_iff.mp h
  obtain ⟨h0, h1⟩ := Bool.and_eq_true_iff.mp h1
  rw [ile_eq] at h0 h1
  rw [Nat.blt_eq] at h2
  exact ⟨of_decide_eq_true h0, of_decide_eq_true h1, h2⟩) fun _ _ _ _ => .int _
theorem ok_lt : Ok2 K (rI0 fun i j => .bl (decide (i < j))) fLt := ok_I fun _ _ i j => by rw [ilt_eq]; exact .bl _
theorem ok_le : Ok2 K (rI0 fun i j => .bl (decide (i ≤ j))) fLe := ok_I fun _ _ i j => by rw [ile_eq]; exact .bl _
theorem ok_gt : Ok2 K (rI0 fun i j => .bl (decide (j < i))) fGt := ok_I fun _ _ i j => by rw [ilt_eq]; exact .bl _
theorem ok_ge : Ok2 K (rI0 fun i j => .bl (decide (j ≤ i))) fGe := ok_I fun _ _ i j => by rw [ile_eq]; exact .bl _
end

/-! ### lists and tuples: +, * -/
noncomputable def fCat : F2 := fun x y c => match x, y with
  | .ref m, .ref n => match (c.get m), (c.get n) with
    | some xs, some ys => newL (appK xs ys) c
    | _, _ => .no
  | _, _ => .no
noncomputable def fCatT : F2 := fun x y c => match x, y with
  | .tup xs, .tup ys => match few (xs ++ ys) with
    | true => .ok (.tup (xs ++ ys)) c
    | false => .no
  | _, _ => .no
noncomputable def fRep : F2 := fun x y c => match x, y with
  | .ref m, .int k => match (c.get m) with
    | some xs => match ile k 100000 && ile (-100000) k with
      | true => newL (repK xs k.toNat) c
      | false => .no
    | none => .no
  | _, _ => .no
noncomputable def fRepT : F2 := fun x y c => match x, y with
  | .tup (w :: ws), .int k => match ile 2 k && ile k 1000 && Nat.ble (w :: ws).length 1000 with
    | true => .ok (.tup (List.replicate k.toNat (w :: ws)).flatten) c
    | false => .no
  | _, _ => .no
section
variable {K : PySem.W.Frag}
theorem ok_cat : Ok2 K rCat fCat := by
  intro ρ H c x y v u Q hr rx ry h
  cases rx with
  | @ref m a hm =>
    cases ry with
    | @ref n b hn =>
      have h : Got K (Rp K) (match (c.get m), (c.get n) with | some xs, some ys => newL (appK xs ys) c | _, _ => .no) ρ H Q := h
      simp only [appK_eq] at h
      cases e1 : (c.get m) with
      | none => rw [e1] at h; exact h.elim
      | some xs =>
        cases e2 : (c.get n) with
        | none => rw [e1, e2] at h; exact h.elim
        | some ys =>
          rw [e1, e2] at h
          obtain ⟨_, vs, z, _, ha, rv⟩ := hr.lst (.ref hm) e1
          cases z
          obtain ⟨_, us, z, _, hb, ru⟩ := hr.lst (.ref hn) e2
          cases z
          obtain ⟨hz, q⟩ := newL_got hr Post.refl (rv.append ru) h
          rw [List.length_append] at hz
          exact ⟨a, b, vs, us, rfl, rfl, ha, hb, hz, q⟩
    | _ => exact h.elim
  | _ => exact h.elim
theorem ok_catT : Ok2 K (rCatA K) fCatT := by
  intro ρ H c x y v u Q hr rx ry h
  cases rx with
  | @tup xs vs a hs hl =>
    cases ry with
    | @tup ys us b hs' hl' =>
      have h : Got K (Rp K) (match few (xs ++ ys) with | true => R.ok (.tup (xs ++ ys)) c | false => .no) ρ H Q := h
      cases e : few (xs ++ ys) with
      | false => rw [e] at h; exact h.elim
      | true =>
        rw [e] at h
        have hz := few_le e
        rw [List.length_append, hl.length, hl'.length] at hz
        refine ⟨a, b, vs, us, rfl, rfl, hs, hs', hz, fun e0 => ?_, fun _ e1 => ?_, fun _ _ p hp => h (.ref p) _ ρ (post_out hp) (hr.out hp) (.tup (.of upd_same) ((hl.append hl').mono hr (post_out hp)))⟩
        · subst e0
          cases hl
          exact h (.ref b) H ρ Post.refl hr (.tup hs' hl')
        · subst e1
          cases hl'
          rw [List.append_nil] at h
          exact h (.ref a) H ρ Post.refl hr (.tup hs hl)
    | _ => exact h.elim
  | _ => exact h.elim
theorem ok_rep : Ok2 K rRep fRep := by
  intro ρ H c x y v u Q hr rx ry h
  cases rx with
  | @ref m a hm =>
    cases ry with
    | int k =>
      have h : Got K (Rp K) (match (c.get m) with | some xs => (match ile k 100000 && ile (-100000) k with | true => newL (repK xs k.toNat) c | false => .no) | none => .no) ρ H Q := h
      cases e1 : (c.get m) with
      | none => rw [e1] at h; exact h.elim
      | some xs =>
        rw [e1] at h
        have h : Got K (Rp K) (match ile k 100000 && ile (-100000) k with | true => newL (repK xs k.toNat) c | false => .no) ρ H Q := h
        cases e2 : ile k 100000 && ile (-100000) k with
        | false => rw [e2] at h; exact h.elim
        | true =>
          rw [e2] at h
          obtain ⟨h1, h2⟩ := Bool.and_eq_true_iff.mp e2
          rw [ile_eq] at h1 h2
          have h1 := of_decide_eq_true h1
          have h2 := of_decide_eq_true h2
          obtain ⟨_, vs, z, _, ha, rv⟩ := hr.lst (.ref hm) e1
          cases z
          rw [repK_eq] at h
          obtain ⟨hz, q⟩ := newL_got hr Post.refl (rv.rep k.toNat) h
          rw [PyProof.Rows.lm_len_rep_flat, Nat.mul_comm] at hz
          exact ⟨a, k, vs, rfl, rfl, ha, by omega, by omega, hz, q⟩
    | _ => exact h.elim
  | _ => exact h.elim
theorem ok_repT : Ok2 K (rRepT K) fRepT := by
  intro ρ H c x y v u Q hr rx ry h
  cases rx with
  | @tup xs vs a hs hl =>
    cases ry with
    | int k =>
      cases xs with
      | nil => exact h.elim
      | cons w ws =>
        have h : Got K (Rp K) (match ile 2 k && ile k 1000 && Nat.ble (w :: ws).length 1000 with | true => R.ok (.tup (List.replicate k.toNat (w :: ws)).flatten) c | false => .no) ρ H Q := h
        cases e : ile 2 k && ile k 1000 && Nat.ble (w :: ws).length 1000 with
        | false => rw [e] at h; exact h.elim
        | true =>
          rw [e] at h
          obtain ⟨h12, h3⟩ := Bool.and_eq_true_iff.mp e
          obtain ⟨h1, h2⟩ := Bool.and_eq_true_iff.mp h12
          rw [ile_eq] at h1 h2
          have h3 := Nat.le_of_ble_eq_true h3
          rw [hl.length] at h3
          refine ⟨a, k, vs, rfl, rfl, hs, fun e0 => ?_, of_decide_eq_true h1, of_decide_eq_true h2, h3, fun p hp => h (.ref p) _ ρ (post_out hp) (hr.out hp) (.tup (.of upd_same) ((hl.rep k.toNat).mono hr (post_out hp)))⟩
          subst e0
          cases hl
    | _ => cases xs <;> exact h.elim
  | _ => exact h.elim
end
noncomputable def fOr (f g : F2) : F2 := fun x y c => match f x y c with
  | .ok w c' => .ok w c'
  | .no => g x y c
noncomputable def fAdd : F2 := fOr fAddI (fOr fCat fCatT)
noncomputable def fMul : F2 := fOr fMulI (fOr fRep fRepT)
section
variable {X : Cx} {pos : Pos} {a b : Expr} {ea eb : Ev}
theorem q_add (ha : PE X a (tV X.K ea)) (hb : PE X b (tV X.K eb)) : PE X (.BinOp a .Add b pos) (tV X.K (eBin fAdd ea eb)) := q_bin (opr_or op_add (opr_or op_cat op_catA)) (ok_or ok_addI (ok_or ok_cat ok_catT)) ha hb
theorem q_mul (ha : PE X a (tV X.K ea)) (hb : PE X b (tV X.K eb)) : PE X (.BinOp a .Mult b pos) (tV X.K (eBin fMul ea eb)) := q_bin (opr_or op_mul (opr_or op_rep op_repT)) (ok_or ok_mulI (ok_or ok_rep ok_repT)) ha hb
theorem q_sub (ha : PE X a (tV X.K ea)) (hb : PE X b (tV X.K eb)) : PE X (.BinOp a .Sub b pos) (tV X.K (eBin fSub ea eb)) := q_bin op_sub ok_sub ha hb
theorem q_div (ha : PE X a (tV X.K ea)) (hb : PE X b (tV X.K eb)) : PE X (.BinOp a .FloorDiv b pos) (tV X.K (eBin fDiv ea eb)) := q_bin op_fdiv ok_div ha hb
theorem q_pow (ha : PE X a (tV X.K ea)) (hb : PE X b (tV X.K eb)) : PE X (.BinOp a .Pow b pos) (tV X.K (eBin fPow ea eb)) := q_bin op_pow ok_pow ha hb
theorem q_mod (ha : PE X a (tV X.K ea)) (hb : PE X b (tV X.K eb)) : PE X (.BinOp a .Mod b pos) (tV X.K (eBin fMod ea eb)) := q_bin op_mod ok_mod ha hb
end
noncomputable def fNeg : W → Ch → R W := fun x c => match x with
  | .int i => .ok (.int (-i)) c
  | _ => .no
noncomputable def eUn (f : W → Ch → R W) (a : Ev) : Ev := fun ω c => (a ω c).bind f
theorem q_neg {X : Cx} {pos : Pos} {a : Expr} {ea : Ev} (ha : PE X a (tV X.K ea)) : PE X (.UnaryOp .USub a pos) (tV X.K (eUn fNeg ea)) := pe_imp (pe_un un_neg ha) fun σ H Q h => by
  obtain ⟨ρ, ω, c, hr, hs, g⟩ := h
  obtain ⟨x, c1, e1, g⟩ := Got.bind g
  refine tG_in hr hs e1 fun v H1 ρ1 p1 hr1 hs1 rx => ?_
  cases rx with
  | int i => exact ⟨i, rfl, g _ H1 ρ1 p1 hr1 (.int _)⟩
  | _ => exact g.elim

/-! ### ==, != -/
noncomputable def dat : Nat → Ch → W → Option PyData
  | 0, _, _ => none
  | _ + 1, _, .non => some .none
  | _ + 1, _, .bl b => some (.bool b)
  | _ + 1, _, .int i => some (.int i)
  | _ + 1, _, .str x => some (.str x)
  | _ + 1, _, .emp => none
  | _ + 1, _, .mt => some (.list [])
  | _ + 1, _, .frz _ => none
  | n + 1, c, .tup ws => (ws.mapM (dat n c)).map .tuple
  | n + 1, c, .ref k => match (c.get k) with
    | some ws => (ws.mapM (dat n c)).map .list
    | none => none
section
variable {K : PySem.W.Frag} {ρ : List Addr} {H : Hp} {c : Ch}
theorem mapM_dp {f : W → Option PyData} (hf : ∀ w d v, f w = some d → Rp K ρ H w v → Dp K H v d) : ∀ {ws : List W} {vs : List V} {ds : List PyData}, ws.mapM f = some ds → RpL K ρ H ws vs → DpAll K H vs ds
  | [], _, ds, h, .nil => by
    simp at h
    subst h
    exact .nil
  | w :: ws, _, ds, h, .cons r t => by
    rw [List.mapM_cons] at h
    cases e1 : f w with
    | none => rw [e1] at h; cases h
    | some d =>
      rw [e1] at h
      cases e2 : ws.mapM f with
      | none => rw [e2] at h; cases h
      | some ds' =>
        rw [e2] at h
        have h : some (d :: ds') = some ds := h
        cases h
        exact .cons (hf w d _ e1 r) (mapM_dp hf e2 t)
theorem dat_dp (hr : RelH K ρ H c) : ∀ (n : Nat) (w : W) (d : PyData) (v : V), dat n c w = some d → Rp K ρ H w v → Dp K H v d
  | 0, _, _, _, h, _ => by cases h
  | n + 1, .emp, d, _, h, .emp _ => by cases h
  | n + 1, .frz _, d, _, h, .frz _ => by cases h
  | n + 1, .mt, d, _, h, .mt ha _ => by cases h; exact .lst (.of ha) .nil
  | n + 1, .non, d, _, h, .non => by cases h; exact .non
  | n + 1, .bl b, d, _, h, .bl _ => by cases h; exact .bl b
  | n + 1, .int i, d, _, h, .int _ => by cases h; exact .int i
  | n + 1, .str x, d, _, h, .str _ => by cases h; exact .str x
  | n + 1, .tup ws, d, _, h, .tup s l => by
    have h : (ws.mapM (dat n c)).map PyData.tuple = some d := h
    cases e : ws.mapM (dat n c) with
    | none => rw [e] at h; cases h
    | some ds =>
      rw [e] at h
      cases h
      exact .tup s (mapM_dp (fun w d v => dat_dp hr n w d v) e l)
  | n + 1, .ref k, d, _, h, .ref (a := a₀) hk => by
    have h : (match (c.get k) with | some ws => (ws.mapM (dat n c)).map PyData.list | none => none) = some d := h
    cases e0 : (c.get k) with
    | none => rw [e0] at h; cases h
    | some ws =>
      rw [e0] at h
      have h : (ws.mapM (dat n c)).map PyData.list = some d := h
      cases e : ws.mapM (dat n c) with
      | none => rw [e] at h; cases h
      | some ds =>
        rw [e] at h
        cases h
        obtain ⟨a, vs, z, _, ha, rv⟩ := hr.lst (v := .ref a₀) (.ref hk) e0
        cases z
        exact .lst (.of ha) (mapM_dp (fun w d v => dat_dp hr n w d v) e rv)
end
noncomputable def fEqI (neg : Bool) : F2 := fun x y c => match x, y with
  | .int i, .int j => .ok (.bl (xor neg (ieq i j))) c
  | _, _ => .no
noncomputable def fEqD (neg : Bool) : F2 := fun x y c => match dat 20 c x, dat 20 c y with
  | some d, some e => match SeqAt.shaped d && SeqAt.shaped e with
    | true => .ok (.bl (xor neg (PyData.eqv d e))) c
    | false => .no
  | _, _ => .no
def rEqE : R2 := fun x y H Q => ∃ a b kvs, x = .ref a ∧ y = .ref b ∧ H a = some (.dK kvs) ∧ H b = some (.dK kvs) ∧ (kvs.map (·.1)).Nodup ∧ (∀ p ∈ kvs, flatB p.2 = true) ∧ Q (.bl true) H
noncomputable def fEqE : F2 := fun x y c => match x, y with
  | .emp, .emp => .ok (.bl true) c
  | _, _ => .no
theorem op_eqA {X : Cx} (hu : X.A.units + 64 < cLine) : OpR X (compareOp .Eq) (rOr rEq (rOr (rEqD X.K) rEqE)) := opr_or op_eq (opr_or (op_eqD hu) (op_eq_dict (Nat.lt_of_le_of_lt (Nat.le_add_right _ _) hu)))
noncomputable def fEq : F2 := fOr (fEqI false) (fOr (fEqD false) fEqE)
noncomputable def fNe : F2 := fOr (fEqI true) (fEqD true)
section
variable {K : PySem.W.Frag}
theorem fEqD_in {neg : Bool} {ρ : List Addr} {H : Hp} {c : Ch} {x y : W} {v u : V} {Q : VK} (hr : RelH K ρ H c) (rx : Rp K ρ H x v) (ry : Rp K ρ H y u) (h : Got K (Rp K) (fEqD neg x y c) ρ H Q) :
    ∃ d e, Dp K H v d ∧ Dp K H u e ∧ SeqAt.shaped d = true ∧ SeqAt.shaped e = true ∧ Q (.bl (xor neg (PyData.eqv d e))) H := by
  unfold fEqD at h
  cases e1 : dat 20 c x with
  | none => rw [e1] at h; exact h.elim
  | some d =>
    cases e2 : dat 20 c y with
    | none => rw [e1, e2] at h; exact h.elim
    | some e =>
      rw [e1, e2] at h
      have h : Got K (Rp K) (match SeqAt.shaped d && SeqAt.shaped e with | true => R.ok (.bl (xor neg (PyData.eqv d e))) c | false => .no) ρ H Q := h
      cases e3 : SeqAt.shaped d && SeqAt.shaped e with
      | false => rw [e3] at h; exact h.elim
      | true =>
        rw [e3] at h
        obtain ⟨h1, h2⟩ := Bool.and_eq_true_iff.mp e3
        exact ⟨d, e, dat_dp hr 20 x d v e1 rx, dat_dp hr 20 y e u e2 ry, h1, h2, h _ H ρ Post.refl hr (.bl _)⟩
theorem ok_eqE : Ok2 K rEqE fEqE := by
  intro ρ H c x y v u Q hr rx ry h
  cases rx with
  | @emp a ha =>
    cases ry with
    | @emp b hb => exact ⟨a, b, [], rfl, rfl, ha, hb, by simp, by simp, h _ H ρ Post.refl hr (.bl _)⟩
    | _ => exact h.elim
  | _ => exact h.elim
theorem ok_eq : Ok2 K (rOr rEq (rOr (rEqD K) rEqE)) fEq := ok_or (by
  intro ρ H c x y v u Q hr rx ry h
  cases rx with
  | int i =>
    cases ry with
    | int j =>
      have q : Q (.bl (xor false (ieq i j))) H := h _ H ρ Post.refl hr (.bl _)
      refine ⟨rfl, ?_⟩
      rw [dec_int]
      rw [Bool.false_xor, ieq_eq, ← Bool.beq_eq_decide_eq] at q
      exact q
    | _ => exact h.elim
  | _ => exact h.elim) (ok_or (by
  intro ρ H c x y v u Q hr rx ry h
  obtain ⟨d, e, h1, h2, h3, h4, q⟩ := fEqD_in hr rx ry h
  exact ⟨d, e, h1, h2, h3, h4, by simpa using q⟩) ok_eqE)
theorem ok_ne : Ok2 K (rOr rNe (rNeD K)) fNe := ok_or (by
  intro ρ H c x y v u Q hr rx ry h
  cases rx with
  | int i =>
    cases ry with
    | int j =>
      have q : Q (.bl (xor true (ieq i j))) H := h _ H ρ Post.refl hr (.bl _)
      refine ⟨rfl, ?_⟩
      rw [dec_int]
      rw [Bool.true_xor, ieq_eq, ← Bool.beq_eq_decide_eq] at q
      exact q
    | _ => exact h.elim
  | _ => exact h.elim) (by
  intro ρ H c x y v u Q hr rx ry h
  obtain ⟨d, e, h1, h2, h3, h4, q⟩ := fEqD_in hr rx ry h
  exact ⟨d, e, h1, h2, h3, h4, by simpa using q⟩)
end
/-- is None, is True -/
noncomputable def isN (w : W) : Bool := match w with
  | .non => true
  | _ => false
noncomputable def fIsN (neg : Bool) : F2 := fun x y c => match y with
  | .non => .ok (.bl (xor neg (isN x))) c
  | _ => .no
noncomputable def fIsB : F2 := fun x y c => match x, y with
  | .bl a, .bl b => .ok (.bl (a == b)) c
  | _, _ => .no
section
variable {K : PySem.W.Frag}
theorem isN_eq {ρ : List Addr} {H : Hp} {w : W} {v : V} (r : Rp K ρ H w v) : isN w = decide (v = .non) := by
  cases r <;> rfl
theorem ok_isN : Ok2 K (fun x y H Q => y = .non ∧ Q (.bl (decide (x = .non))) H) (fIsN false) := by
  intro ρ H c x y v u Q hr rx ry h
  cases ry with
  | non => exact ⟨rfl, by rw [← isN_eq rx]; simpa using h _ H ρ Post.refl hr (.bl _)⟩
  | _ => exact h.elim
theorem ok_notN : Ok2 K (fun x y H Q => y = .non ∧ Q (.bl (!decide (x = .non))) H) (fIsN true) := by
  intro ρ H c x y v u Q hr rx ry h
  cases ry with
  | non => exact ⟨rfl, by rw [← isN_eq rx]; simpa using h _ H ρ Post.refl hr (.bl _)⟩
  | _ => exact h.elim
theorem ok_isB : Ok2 K rIsB fIsB := by
  intro ρ H c x y v u Q hr rx ry h
  cases rx with
  | bl a =>
    cases ry with
    | bl b => exact ⟨a, b, rfl, rfl, by rw [← Bool.beq_eq_decide_eq]; exact h _ H ρ Post.refl hr (.bl _)⟩
    | _ => exact h.elim
  | _ => exact h.elim
end
end Sm
/-! Sm4: subscripts, slices, built-ins, calls of defs, small statements, a def by its body -/
namespace Sm
open PySem PySem.Spec PyProof.Rows L2

/-! ### a[i] -/
noncomputable def atW (ws : List W) (i : Int) : Option W := match i with
  | .ofNat k => getK ws k
  | .negSucc k => match Nat.ble (k + 1) (lenK ws) with
    | true => getK ws (lenK ws - (k + 1))
    | false => none
noncomputable def fIx : F2 := fun x y c => match x, y with
  | .tup ws, .int i => match atW ws i with
    | some w => .ok w c
    | none => .no
  | .ref n, .int i => match (c.get n) with
    | some ws => match atW ws i with
      | some w => .ok w c
      | none => .no
    | none => .no
  | .frz zs, .int i => match atW (zs.map W.int) i with
    | some w => .ok w c
    | none => .no
  | _, _ => .no
section
variable {K : PySem.W.Frag} {ρ : List Addr} {H : Hp} {c : Ch}
theorem atW_ok {ws : List W} {vs : List V} {i : Int} {w : W} (r : RpL K ρ H ws vs) (h : atW ws i = some w) : ∃ v, atI vs i = some v ∧ Rp K ρ H w v := by
  cases i with
  | ofNat k =>
    have h : getK ws k = some w := h
    rw [getK_eq] at h
    obtain ⟨v, e, q⟩ := r.get h
    refine ⟨v, ?_, q⟩
    have hk : k < vs.length := (List.getElem?_eq_some_iff.mp e).1
    have e1 : ixN vs.length (Int.ofNat k) = some k := by
      unfold ixN
      rw [if_pos (show (0 : Int) ≤ Int.ofNat k from Int.natCast_nonneg k), if_pos (show (Int.ofNat k) < (vs.length : Int) from Int.ofNat_lt.mpr hk)]
      rfl
    unfold atI
    rw [e1]
    exact e
  | negSucc k =>
    have h : (match Nat.ble (k + 1) (lenK ws) with | true => getK ws (lenK ws - (k + 1)) | false => none) = some w := h
    rw [lenK_eq, getK_eq] at h
    cases e0 : Nat.ble (k + 1) ws.length with
    | false => rw [e0] at h; cases h
    | true =>
      rw [e0] at h
      have hk := Nat.le_of_ble_eq_true e0
      rw [r.length] at hk h
      obtain ⟨v, e, q⟩ := r.get h
      refine ⟨v, ?_, q⟩
      have e1 : ixN vs.length (Int.negSucc k) = some (vs.length - (k + 1)) := by
        unfold ixN
        rw [if_neg (by omega), if_pos (by omega)]
        congr 1
        omega
      unfold atI
      rw [e1]
      exact e
theorem ok_ix : Ok2 K (rIx K) fIx := by
  intro ρ H c x y v u Q hr rx ry h
  cases rx with
  | @tup ws vs a hs hl =>
    cases ry with
    | int i =>
      have h : Got K (Rp K) (match atW ws i with | some w => R.ok w c | none => .no) ρ H Q := h
      cases e : atW ws i with
      | none => rw [e] at h; exact h.elim
      | some w =>
        rw [e] at h
        obtain ⟨v, e1, q⟩ := atW_ok hl e
        exact .inr (.inl ⟨a, vs, i, v, rfl, rfl, hs, e1, h v H ρ Post.refl hr q⟩)
    | _ => exact h.elim
  | @ref n a hn =>
    cases ry with
    | int i =>
      have h : Got K (Rp K) (match (c.get n) with | some ws => (match atW ws i with | some w => R.ok w c | none => .no) | none => .no) ρ H Q := h
      cases e0 : (c.get n) with
      | none => rw [e0] at h; exact h.elim
      | some ws =>
        rw [e0] at h
        have h : Got K (Rp K) (match atW ws i with | some w => R.ok w c | none => .no) ρ H Q := h
        cases e : atW ws i with
        | none => rw [e] at h; exact h.elim
        | some w =>
          rw [e] at h
          obtain ⟨_, vs, z, _, ha, rv⟩ := hr.lst (.ref hn) e0
          cases z
          obtain ⟨v, e1, q⟩ := atW_ok rv e
          exact .inl ⟨a, vs, i, v, rfl, rfl, .of ha, e1, h v H ρ Post.refl hr q⟩
    | _ => exact h.elim
  | @frz a zs ha =>
    cases ry with
    | int i =>
      have h : Got K (Rp K) (match atW (zs.map W.int) i with | some w => R.ok w c | none => .no) ρ H Q := h
      cases e : atW (zs.map W.int) i with
      | none => rw [e] at h; exact h.elim
      | some w =>
        rw [e] at h
        obtain ⟨v, e1, q⟩ := atW_ok (rpl_ints (K := K) (ρ := ρ) (H := H) zs) e
        exact .inl ⟨a, _, i, v, rfl, rfl, ha.sqL, e1, h v H ρ Post.refl hr q⟩
    | _ => exact h.elim
  | _ => exact h.elim
theorem q_ix {X : Cx} {pos : Pos} {a b : Expr} {ea eb : Ev} (ha : PE X a (tV X.K ea)) (hb : PE X b (tV X.K eb)) (hs : PlainIx b := by intro _ _; rfl) : PE X (.Subscript a b pos) (tV X.K (eBin fIx ea eb)) :=
  pe_imp (pe_ix ix_seq ha hb hs) fun _ _ _ h => tV_op ok_ix h
end

/-! ### a[lo:hi] -/
abbrev EvO := Sl → Ch → R (Option Int)
noncomputable def oNo : EvO := fun _ c => .ok none c
noncomputable def oAt (e : Ev) : EvO := fun ω c => (e ω c).bind fun x c1 => match x with
  | .int i => .ok (some i) c1
  | _ => .no
abbrev relO : Rel (Option Int) (Option Int) := fun _ _ a b => a = b
noncomputable def cutW (ws : List W) (lo hi : Option Int) : List W := (ws.drop (HT.sIx ws.length 0 lo)).take (HT.sIx ws.length ws.length hi - HT.sIx ws.length 0 lo)
noncomputable def fSl (x : W) (lo hi : Option Int) (c : Ch) : R W := match x with
  | .tup ws => .ok (.tup (cutW ws lo hi)) c
  | .ref n => match (c.get n) with
    | some ws => newL (cutW ws lo hi) c
    | none => .no
  | .frz zs => newL (cutW (zs.map W.int) lo hi) c
  | _ => .no
noncomputable def eSl (a : Ev) (lo hi : EvO) : Ev := fun ω c => (a ω c).bind fun x c1 => (lo ω c1).bind fun l c2 => (hi ω c2).bind fun h c3 => fSl x l h c3
section
variable {X : Cx} {pos p2 : Pos} {e : Expr} {lo hi : Option Expr} {ea : Ev} {el eh : EvO}
theorem po_imp {e : Option Expr} {t t' : TO} (h : PO X e t) (i : ∀ σ H Q, t' σ H Q → t σ H Q) : PO X e t' := ⟨fun pins s σ H Q I q => h.run pins s σ H Q I (i σ H Q q)⟩
theorem o_no : PO X none (tG X.K relO oNo) := po_imp po_none fun σ H Q ⟨ρ, ω, c, hr, hs, g⟩ => g none H ρ Post.refl hr rfl
theorem o_at (ha : PE X e (tV X.K ea)) : PO X (some e) (tG X.K relO (oAt ea)) := po_imp (po_some ha) fun σ H Q h => by
  obtain ⟨ρ, ω, c, hr, hs, g⟩ := h
  obtain ⟨x, c1, e1, g⟩ := Got.bind g
  refine tG_in hr hs e1 fun v H1 ρ1 p1 hr1 hs1 rx => ?_
  cases rx with
  | int i => exact ⟨i, rfl, g (some i) H1 ρ1 p1 hr1 rfl⟩
  | _ => exact g.elim
theorem cutW_ok {K : PySem.W.Frag} {ρ : List Addr} {H : Hp} {ws : List W} {vs : List V} (r : RpL K ρ H ws vs) (lo hi : Option Int) : RpL K ρ H (cutW ws lo hi) (cutV vs lo hi) := by
  unfold cutW cutV
  rw [r.length]
  exact (r.drop _).take _
theorem cutW_whole {ws : List W} {lo hi : Option Int} (h : HT.sIx ws.length 0 lo = 0 ∧ HT.sIx ws.length ws.length hi = ws.length) : cutW ws lo hi = ws := by
  unfold cutW
  rw [h.1, h.2]
  simp
theorem q_sl (he : PE X e (tV X.K ea)) (hl : PO X lo (tG X.K relO el)) (hh : PO X hi (tG X.K relO eh)) : PE X (.Subscript e (.Slice lo hi none p2) pos) (tV X.K (eSl ea el eh)) :=
  pe_imp (pe_slice (sl_list.or sl_tupA) he hl hh) fun σ H Q h => by
  obtain ⟨ρ, ω, c, hr, hs, g⟩ := h
  obtain ⟨x, c1, e1, g⟩ := Got.bind g
  refine tG_in hr hs e1 fun v H1 ρ1 p1 hr1 hs1 rx => ?_
  obtain ⟨l, c2, e2, g⟩ := Got.bind g
  refine tG_in hr1 hs1 e2 fun l' H2 ρ2 p2 hr2 hs2 rl => ?_
  obtain ⟨u, c3, e3, g⟩ := Got.bind g
  refine tG_in hr2 hs2 e3 fun u' H3 ρ3 p3 hr3 hs3 ru => ?_
  have rl : l = l' := rl
  have ru : u = u' := ru
  subst rl ru
  have g := g.after ((p1.trans p2).trans p3)
  have rx := (rx.mono hr1 p2).mono hr2 p3
  cases rx with
  | @tup ws vs a hs' hl' =>
    refine .inr ⟨a, vs, rfl, hs', fun hw => ?_, fun _ p hp => g (.ref p) _ ρ3 (post_out hp) (hr3.out hp) (.tup (.of upd_same) ((cutW_ok hl' l u).mono hr3 (post_out hp)))⟩
    rw [← hl'.length] at hw
    have g : Got X.K (Rp X.K) (.ok (.tup (cutW ws l u)) c3) ρ3 H3 Q := g
    rw [cutW_whole hw] at g
    exact g (.ref a) H3 ρ3 Post.refl hr3 (.tup hs' hl')
  | @ref n a hn =>
    have g : Got X.K (Rp X.K) (match (c3.get n) with | some ws => newL (cutW ws l u) c3 | none => .no) ρ3 H3 Q := g
    cases e0 : (c3.get n) with
    | none => rw [e0] at g; exact g.elim
    | some ws =>
      rw [e0] at g
      obtain ⟨_, vs, z, _, ha, rv⟩ := hr3.lst (.ref hn) e0
      cases z
      exact .inl ⟨a, vs, rfl, .of ha, (newL_got hr3 Post.refl (cutW_ok rv l u) g).2⟩
  | @frz a zs ha =>
    have g : Got X.K (Rp X.K) (newL (cutW (zs.map W.int) l u) c3) ρ3 H3 Q := g
    exact .inl ⟨a, _, rfl, ha.sqL, (newL_got hr3 Post.refl (cutW_ok (rpl_ints zs) l u) g).2⟩
  | _ => exact g.elim
end

/-! ### built-ins -/
abbrev FC := List W → Ch → R W
noncomputable def oR {α β : Type} (o : Option α) (k : α → R β) : R β := match o with
  | some a => k a
  | none => .no
noncomputable def selI (b : Bool) (i j : Int) : Int := match b with
  | true => i
  | false => j
noncomputable def eCB (f : FC) (a : EvA) : Ev := fun ω c => (a ω c).bind f
noncomputable def OkC (K : PySem.W.Frag) (r : List V → Hp → VK → Prop) (f : FC) : Prop := ∀ (ρ : List Addr) (H : Hp) (c : Ch) (xs : List W) (vs : List V) (Q : VK), RelH K ρ H c → RpL K ρ H xs vs → Got K (Rp K) (f xs c) ρ H Q → r vs H Q
section
variable {X : Cx} {x : Str} {p pos : Pos} {e : Expr} {es : List Expr} {ra : EvA} {id T : String} {r : List V → Hp → VK → Prop} {f : FC}
theorem tV_cb (ok : OkC X.K r f) {σ : L2.St} {H : Hp} {Q : VK} (h : tV X.K (eCB f ra) σ H Q) : tCB r (tU X.K ra) σ H Q := by
  obtain ⟨ρ, ω, c, hr, hs, g⟩ := h
  obtain ⟨xs, c1, e1, g⟩ := Got.bind g
  exact tG_in hr hs e1 fun vs H1 ρ1 p1 hr1 hs1 rx => ok ρ1 H1 c1 xs vs Q hr1 rx (g.after p1)
theorem q_cb (hc : CallR X (.builtin id) r) (ok : OkC X.K r f) (hm : X.mg x = none) (hv : bootBuiltins x = some (.builtin id)) (ha : PA X (e :: es) (tU X.K ra)) (hg : Gl X x := by rfl) (hn : x ≠ "__name__" := by decide) (hdb : (x == ("__debug__" : Str)) = false := by decide)
    (he : starEach (e :: es) X.env = (false, eval e X.env) :: starEach es X.env := by rfl) (hpl : (backTo pos (starEach es X.env)).any (·.1) = false := by rfl) : PE X (.Call (.Name x p) (e :: es) [] pos) (tV X.K (eCB f ra)) :=
  pe_imp (pe_callB hc hg hm hv ha hn hdb he hpl) fun _ _ _ h => tV_cb ok h
theorem q_ct (hc : CallR X (.type T) r) (ok : OkC X.K r f) (hm : X.mg x = none) (hv : bootBuiltins x = some (.type T)) (ha : PA X (e :: es) (tU X.K ra)) (hg : Gl X x := by rfl) (hn : x ≠ "__name__" := by decide) (hdb : (x == ("__debug__" : Str)) = false := by decide)
    (he : starEach (e :: es) X.env = (false, eval e X.env) :: starEach es X.env := by rfl) (hpl : (backTo pos (starEach es X.env)).any (·.1) = false := by rfl) : PE X (.Call (.Name x p) (e :: es) [] pos) (tV X.K (eCB f ra)) :=
  pe_imp (pe_callTy hc hg hm hv ha hn hdb he hpl) fun _ _ _ h => tV_cb ok h
end
noncomputable def cLen : FC := fun xs c => match xs with
  | [x] => oR (itemsW x c) fun ws => .ok (.int (lenK ws : Nat)) c
  | _ => .no
noncomputable def cInt : FC := fun xs c => match xs with
  | [.int i] => .ok (.int i) c
  | _ => .no
noncomputable def cList : FC := fun xs c => match xs with
  | [x] => oR (itemsW x c) fun ws => newL ws c
  | _ => .no
noncomputable def cTuple : FC := fun xs c => match xs with
  | [x] => oR (itemsW x c) fun ws => .ok (.tup ws) c
  | _ => .no
noncomputable def cMax : FC := fun xs c => match xs with
  | [.int i, .int j] => .ok (.int (selI (ilt i j) j i)) c
  | _ => .no
noncomputable def cMin : FC := fun xs c => match xs with
  | [.int i, .int j] => .ok (.int (selI (ilt j i) j i)) c
  | _ => .no
noncomputable def cAbs : FC := fun xs c => match xs with
  | [.int i] => .ok (.int (i.natAbs : Nat)) c
  | _ => .no
noncomputable def blsW : List W → Option (List Bool)
  | [] => some []
  | .bl b :: r => match blsW r with
    | some bs => some (b :: bs)
    | none => none
  | _ :: _ => none
noncomputable def cAll : FC := fun xs c => match xs with
  | [.ref n] => oR (c.get n) fun ws => oR (blsW ws) fun bs => .ok (.bl (bs.all id)) c
  | _ => .no
noncomputable def cAny : FC := fun xs c => match xs with
  | [.ref n] => oR (c.get n) fun ws => oR (blsW ws) fun bs => .ok (.bl (bs.any id)) c
  | _ => .no
section
variable {K : PySem.W.Frag}
theorem got_opt {α : Type} {o : Option α} {f : α → R W} {ρ : List Addr} {H : Hp} {Q : VK} (h : Got K (Rp K) (oR o f) ρ H Q) : ∃ a, o = some a ∧ Got K (Rp K) (f a) ρ H Q := by
  cases o with
  | some a => exact ⟨a, rfl, h⟩
  | none => exact h.elim
theorem ok_len : OkC K (fun xs H Q => ∃ x n, xs = [x] ∧ LenV K x H n ∧ Q (.int n) H) cLen := by
  intro ρ H c xs vs Q hr rx h
  match xs, rx, h with
  | [x], .cons r1 .nil, h =>
    obtain ⟨ws, e, h⟩ := got_opt h
    obtain ⟨a, us, rfl, hq, rl⟩ := itemsW_ok hr r1 e
    refine ⟨.ref a, us.length, rfl, ?_, by rw [← rl.length, ← lenK_eq]; exact h _ H ρ Post.refl hr (.int _)⟩
    rcases hq with hq | hq
    · exact .inr ⟨us, hq, rfl⟩
    · exact .inl ⟨us, hq, rfl⟩
  | [], .nil, h => exact h.elim
  | _ :: _ :: _, _, h => exact h.elim
theorem ok_int : OkC K (fun xs H Q => (∃ i, xs = [.int i] ∧ Q (.int i) H) ∨ ∃ k, xs = [.bl k] ∧ Q (.int (if k then 1 else 0)) H) cInt := by
  intro ρ H c xs vs Q hr rx h
  match xs, rx, h with
  | [.int i], .cons (.int _) .nil, h => exact .inl ⟨i, rfl, h _ H ρ Post.refl hr (.int i)⟩
theorem ok_list : OkC K (fun xs H Q => ∃ p ys, xs = [.ref p] ∧ (SqL K H p ys ∨ SqT K H p ys) ∧ ∀ l, H l = none → Q (.ref l) (upd H l (.lst ys))) cList := by
  intro ρ H c xs vs Q hr rx h
  match xs, rx, h with
  | [x], .cons r1 .nil, h =>
    obtain ⟨ws, e, h⟩ := got_opt h
    obtain ⟨a, us, rfl, hq, rl⟩ := itemsW_ok hr r1 e
    exact ⟨a, us, rfl, hq.symm, (newL_got hr Post.refl rl h).2⟩
  | [], .nil, h => exact h.elim
  | _ :: _ :: _, _, h => exact h.elim
theorem ok_tuple : OkC K (fun xs H Q => ∃ p ys, xs = [.ref p] ∧ ((SqL K H p ys ∧ ∀ l, H l = none → Q (.ref l) (upd H l (.tup ys))) ∨ (SqT K H p ys ∧ Q (.ref p) H))) cTuple := by
  intro ρ H c xs vs Q hr rx h
  match xs, rx, h with
  | [x], .cons r1 .nil, h =>
    obtain ⟨ws, e, h⟩ := got_opt h
    obtain ⟨a, us, rfl, hq, rl⟩ := itemsW_ok hr r1 e
    refine ⟨a, us, rfl, ?_⟩
    rcases hq with hq | hq
    · exact .inr ⟨hq, h (.ref a) H ρ Post.refl hr (.tup hq rl)⟩
    · exact .inl ⟨hq, fun l hl => h (.ref l) _ ρ (post_out hl) (hr.out hl) (.tup (.of upd_same) (rl.mono hr (post_out hl)))⟩
  | [], .nil, h => exact h.elim
  | _ :: _ :: _, _, h => exact h.elim
theorem mat_if {c : Prop} [Decidable c] {b : Bool} (h : b = decide c) (i j : Int) : selI b i j = if c then i else j := by
  subst h
  unfold selI
  by_cases hc : c
  · rw [if_pos hc, decide_eq_true hc]
  · rw [if_neg hc, decide_eq_false hc]
theorem ok_max : OkC K (fun xs H Q => ∃ i j, xs = [.int i, .int j] ∧ Q (.int (if j > i then j else i)) H) cMax := by
  intro ρ H c xs vs Q hr rx h
  match xs, rx, h with
  | [.int i, .int j], .cons (.int _) (.cons (.int _) .nil), h => exact ⟨i, j, rfl, by rw [← mat_if (ilt_eq i j)]; exact h _ H ρ Post.refl hr (.int _)⟩
theorem ok_min : OkC K (fun xs H Q => ∃ i j, xs = [.int i, .int j] ∧ Q (.int (if j < i then j else i)) H) cMin := by
  intro ρ H c xs vs Q hr rx h
  match xs, rx, h with
  | [.int i, .int j], .cons (.int _) (.cons (.int _) .nil), h => exact ⟨i, j, rfl, by rw [← mat_if (ilt_eq j i)]; exact h _ H ρ Post.refl hr (.int _)⟩
noncomputable def cDivmod : FC := fun xs c => match xs with
  | [.int i, .int j] => match ilt 0 j && ilt j 1073741824 with
    | true => .ok (.tup [.int (i / j), .int (i % j)]) c
    | false => .no
  | _ => .no
theorem ok_divmod : OkC K (fun xs H Q => ∃ i j, xs = [.int i, .int j] ∧ CDiv i j ∧ ∀ p, H p = none → Q (.ref p) (upd H p (.tup [.int (i / j), .int (i % j)]))) cDivmod := by
  intro ρ H c xs vs Q hr rx h
  match xs, rx, h with
  | [.int i, .int j], .cons (.int _) (.cons (.int _) .nil), h =>
    have h : Got K (Rp K) (match ilt 0 j && ilt j 1073741824 with | true => R.ok (.tup [.int (i / j), .int (i % j)]) c | false => .no) ρ H Q := h
    cases e : ilt 0 j && ilt j 1073741824 with
    | false => rw [e] at h; exact h.elim
    | true =>
      rw [e] at h
      obtain ⟨h1, h2⟩ := Bool.and_eq_true_iff.mp e
      rw [ilt_eq] at h1 h2
      exact ⟨i, j, rfl, ⟨of_decide_eq_true h1, of_decide_eq_true h2⟩, fun p hp => h (.ref p) _ ρ (post_out hp) (hr.out hp) (.tup (.of upd_same) (.cons (.int _) (.cons (.int _) .nil)))⟩
theorem ok_abs : OkC K (fun xs H Q => ∃ i, xs = [.int i] ∧ Q (.int (if i < 0 then -i else i)) H) cAbs := by
  intro ρ H c xs vs Q hr rx h
  match xs, rx, h with
  | [.int i], .cons (.int _) .nil, h =>
    refine ⟨i, rfl, ?_⟩
    have e : ((i.natAbs : Nat) : Int) = if i < 0 then -i else i := by split <;> omega
    rw [← e]
    exact h _ H ρ Post.refl hr (.int _)
theorem blsW_ok {ρ : List Addr} {H : Hp} : ∀ {ws : List W} {vs : List V} {bs : List Bool}, RpL K ρ H ws vs → blsW ws = some bs → vs = bs.map V.bl
  | [], _, bs, .nil, h => by
    cases h
    rfl
  | .bl b :: r, _, bs, .cons (.bl _) t, h => by
    have h : (match blsW r with | some bs => some (b :: bs) | none => none) = some bs := h
    cases e : blsW r with
    | none => rw [e] at h; cases h
    | some bs' =>
      rw [e] at h
      cases h
      rw [blsW_ok t e]
      rfl
  | .non :: _, _, _, .cons .non _, h => by cases h
  | .int _ :: _, _, _, .cons (.int _) _, h => by cases h
  | .str _ :: _, _, _, .cons (.str _) _, h => by cases h
  | .tup _ :: _, _, _, .cons (.tup _ _) _, h => by cases h
  | .ref _ :: _, _, _, .cons (.ref _) _, h => by cases h
theorem ok_all : OkC K (rAll K) cAll := by
  intro ρ H c xs vs Q hr rx h
  match xs, rx, h with
  | [.ref n], .cons r1 .nil, h =>
    obtain ⟨ws, e, h⟩ := got_opt h
    obtain ⟨bs, e2, h⟩ := got_opt h
    obtain ⟨a, us, rfl, _, ha, rv⟩ := hr.lst r1 e
    rw [blsW_ok rv e2] at ha
    exact ⟨a, bs, rfl, .of ha, h _ H ρ Post.refl hr (.bl _)⟩
theorem ok_any : OkC K (rAny K) cAny := by
  intro ρ H c xs vs Q hr rx h
  match xs, rx, h with
  | [.ref n], .cons r1 .nil, h =>
    obtain ⟨ws, e, h⟩ := got_opt h
    obtain ⟨bs, e2, h⟩ := got_opt h
    obtain ⟨a, us, rfl, _, ha, rv⟩ := hr.lst r1 e
    rw [blsW_ok rv e2] at ha
    exact ⟨a, bs, rfl, .of ha, h _ H ρ Post.refl hr (.bl _)⟩
end
section
variable {X : Cx} {p pos : Pos} {e e2 : Expr} {ra : EvA}
theorem q_len (hm : X.mg "len" = none) (ha : PA X [e] (tU X.K ra)) (hg : Gl X "len" := by rfl) (he : starEach [e] X.env = (false, eval e X.env) :: starEach [] X.env := by rfl) (hpl : (backTo pos (starEach [] X.env)).any (·.1) = false := by rfl) :
    PE X (.Call (.Name "len" p) [e] [] pos) (tV X.K (eCB cLen ra)) := q_cb call_len ok_len hm PySem.boot_len ha hg (by decide) (by decide) he hpl
theorem q_toInt (hm : X.mg "int" = none) (ha : PA X [e] (tU X.K ra)) (hg : Gl X "int" := by rfl) (he : starEach [e] X.env = (false, eval e X.env) :: starEach [] X.env := by rfl) (hpl : (backTo pos (starEach [] X.env)).any (·.1) = false := by rfl) :
    PE X (.Call (.Name "int" p) [e] [] pos) (tV X.K (eCB cInt ra)) := q_ct call_int1 ok_int hm (by decide +kernel) ha hg (by decide) (by decide) he hpl
theorem q_list (hm : X.mg "list" = none) (ha : PA X [e] (tU X.K ra)) (hg : Gl X "list" := by rfl) (he : starEach [e] X.env = (false, eval e X.env) :: starEach [] X.env := by rfl) (hpl : (backTo pos (starEach [] X.env)).any (·.1) = false := by rfl) :
    PE X (.Call (.Name "list" p) [e] [] pos) (tV X.K (eCB cList ra)) := q_ct call_list_of ok_list hm (by decide +kernel) ha hg (by decide) (by decide) he hpl
theorem q_tuple (hm : X.mg "tuple" = none) (ha : PA X [e] (tU X.K ra)) (hg : Gl X "tuple" := by rfl) (he : starEach [e] X.env = (false, eval e X.env) :: starEach [] X.env := by rfl) (hpl : (backTo pos (starEach [] X.env)).any (·.1) = false := by rfl) :
    PE X (.Call (.Name "tuple" p) [e] [] pos) (tV X.K (eCB cTuple ra)) := q_ct call_tuple_of ok_tuple hm (by decide +kernel) ha hg (by decide) (by decide) he hpl
theorem q_all (hm : X.mg "all" = none) (hc : X.calm = true) (ha : PA X [e] (tU X.K ra)) (hg : Gl X "all" := by rfl) (he : starEach [e] X.env = (false, eval e X.env) :: starEach [] X.env := by rfl) (hpl : (backTo pos (starEach [] X.env)).any (·.1) = false := by rfl) :
    PE X (.Call (.Name "all" p) [e] [] pos) (tV X.K (eCB cAll ra)) := q_cb (cr_all hc) ok_all hm (by decide +kernel) ha hg (by decide) (by decide) he hpl
theorem q_any (hm : X.mg "any" = none) (hc : X.calm = true) (ha : PA X [e] (tU X.K ra)) (hg : Gl X "any" := by rfl) (he : starEach [e] X.env = (false, eval e X.env) :: starEach [] X.env := by rfl) (hpl : (backTo pos (starEach [] X.env)).any (·.1) = false := by rfl) :
    PE X (.Call (.Name "any" p) [e] [] pos) (tV X.K (eCB cAny ra)) := q_cb (cr_any hc) ok_any hm (by decide +kernel) ha hg (by decide) (by decide) he hpl
theorem q_max (hm : X.mg "max" = none) (hc : X.calm = true) (ha : PA X [e, e2] (tU X.K ra)) (hg : Gl X "max" := by rfl) (he : starEach [e, e2] X.env = (false, eval e X.env) :: starEach [e2] X.env := by rfl) (hpl : (backTo pos (starEach [e2] X.env)).any (·.1) = false := by rfl) :
    PE X (.Call (.Name "max" p) [e, e2] [] pos) (tV X.K (eCB cMax ra)) := q_cb (call_max2 hc) ok_max hm (by decide +kernel) ha hg (by decide) (by decide) he hpl
theorem q_min (hm : X.mg "min" = none) (hc : X.calm = true) (ha : PA X [e, e2] (tU X.K ra)) (hg : Gl X "min" := by rfl) (he : starEach [e, e2] X.env = (false, eval e X.env) :: starEach [e2] X.env := by rfl) (hpl : (backTo pos (starEach [e2] X.env)).any (·.1) = false := by rfl) :
    PE X (.Call (.Name "min" p) [e, e2] [] pos) (tV X.K (eCB cMin ra)) := q_cb (call_min2 hc) ok_min hm (by decide +kernel) ha hg (by decide) (by decide) he hpl
theorem q_divmod (hm : X.mg "divmod" = none) (ha : PA X [e, e2] (tU X.K ra)) (hg : Gl X "divmod" := by rfl) (he : starEach [e, e2] X.env = (false, eval e X.env) :: starEach [e2] X.env := by rfl) (hpl : (backTo pos (starEach [e2] X.env)).any (·.1) = false := by rfl) :
    PE X (.Call (.Name "divmod" p) [e, e2] [] pos) (tV X.K (eCB cDivmod ra)) := q_cb call_divmod ok_divmod hm (by decide +kernel) ha hg (by decide) (by decide) he hpl
theorem q_abs (hm : X.mg "abs" = none) (ha : PA X [e] (tU X.K ra)) (hg : Gl X "abs" := by rfl) (he : starEach [e] X.env = (false, eval e X.env) :: starEach [] X.env := by rfl) (hpl : (backTo pos (starEach [] X.env)).any (·.1) = false := by rfl) :
    PE X (.Call (.Name "abs" p) [e] [] pos) (tV X.K (eCB cAbs ra)) := q_cb call_abs ok_abs hm (by decide +kernel) ha hg (by decide) (by decide) he hpl
end

/-! ### isinstance(x, T), T a built-in class -/
noncomputable def kindW : W → String
  | .non => "NoneType"
  | .bl _ => "bool"
  | .int _ => "int"
  | .str _ => "str"
  | .tup _ => "tuple"
  | .ref _ => "list"
  | .emp => "dict"
  | .mt => "list"
  | .frz _ => "list"
noncomputable def tabTuple : W → Bool
  | .tup _ => true
  | _ => false
noncomputable def tabList : W → Bool
  | .ref _ => true
  | .mt => true
  | .frz _ => true
  | _ => false
noncomputable def tabBool : W → Bool
  | .bl _ => true
  | _ => false
noncomputable def tabInt : W → Bool
  | .bl _ => true
  | .int _ => true
  | _ => false
noncomputable def tabStr : W → Bool
  | .str _ => true
  | _ => false
noncomputable def tabDict : W → Bool
  | .emp => true
  | _ => false
noncomputable def eIsi (tab : W → Bool) (a : Ev) : Ev := fun ω c => (a ω c).bind fun x c1 => .ok (.bl (tab x)) c1
theorem tyX_of {K : PySem.W.Frag} {ρ : List Addr} {H : Hp} {c : Ch} {w : W} {v : V} (hr : RelH K ρ H c) (r : Rp K ρ H w v) : TyX K H v (.type (kindW w)) := by
  cases r with
  | non => exact .base .non
  | bl b => exact .base (.bl b)
  | int i => exact .base (.int i)
  | str x => exact .base (.str x)
  | tup s l =>
    rcases s with (s | ⟨o, s⟩) | ⟨o, its, n, s1, s2, _⟩
    · exact .base (.tup s)
    · exact .fTuple s
    · exact .kTuple s1 s2
  | ref h =>
    obtain ⟨vs, e⟩ := hr.mem _ (List.mem_of_getElem? h)
    exact .base (.lst e)
  | emp h => exact .base (.dK h)
  | mt h _ => exact .base (.lst h)
  | frz h =>
    rcases h with h | ⟨o, h⟩ | ⟨o, _, _, h1, h2, _⟩
    · exact .base (.lst h.1)
    · exact .base (.frz h)
    · exact .kList h1 h2
section
variable {X : Cx} {p p' pos : Pos} {e : Expr} {ea : Ev}
theorem q_isi {T : String} {x : Str} {tab : W → Bool} (htab : ∀ w, kitB (kindW w) T = some (tab w)) (hT : bootBuiltins x = some (.type T)) (hmT : X.mg x = none) (hm : X.mg "isinstance" = none) (ha : PE X e (tV X.K ea)) (hgT : Gl X x := by rfl) (hnT : x ≠ "__name__" := by decide) (hdT : (x == ("__debug__" : Str)) = false := by decide) (hg : Gl X "isinstance" := by rfl)
    (h1 : starEach [e, .Name x p'] X.env = (false, eval e X.env) :: starEach [.Name x p'] X.env := by rfl) (h2 : starEach [.Name x p'] X.env = (false, eval (.Name x p') X.env) :: starEach [] X.env := by rfl) (hpl : (backTo pos (starEach [.Name x p'] X.env)).any (·.1) = false := by rfl) :
    PE X (.Call (.Name "isinstance" p) [e, .Name x p'] [] pos) (tV X.K (eIsi tab ea)) :=
  pe_imp (pe_callB call_isi hg hm (by decide +kernel) (pa_cons ha (pa_cons (pe_bltn (v := .ty T) hgT hmT hT rfl hnT hdT) pa_nil h2) h1) (by decide) (by decide) h1 hpl) fun σ H Q h => by
  obtain ⟨ρ, ω, c, hr, hs, g⟩ := h
  obtain ⟨x, c1, e1, g⟩ := Got.bind g
  refine tG_in hr hs e1 fun v H1 ρ1 p1 hr1 hs1 rx => ?_
  exact ⟨v, .ty T, .type (kindW x), .type T, tab x, rfl, .ty T, tyX_of hr1 rx, kit_ty (htab x), g _ H1 ρ1 p1 hr1 (.bl _)⟩
end
theorem tab_tuple : ∀ w, kitB (kindW w) "tuple" = some (tabTuple w)
  | .non => (by decide +kernel : kitB "NoneType" "tuple" = some false)
  | .bl _ => (by decide +kernel : kitB "bool" "tuple" = some false)
  | .int _ => (by decide +kernel : kitB "int" "tuple" = some false)
  | .str _ => (by decide +kernel : kitB "str" "tuple" = some false)
  | .tup _ => (by decide +kernel : kitB "tuple" "tuple" = some true)
  | .ref _ => (by decide +kernel : kitB "list" "tuple" = some false)
  | .emp => (by decide +kernel : kitB "dict" "tuple" = some false)
  | .mt => (by decide +kernel : kitB "list" "tuple" = some false)
  | .frz _ => (by decide +kernel : kitB "list" "tuple" = some false)
theorem tab_list : ∀ w, kitB (kindW w) "list" = some (tabList w)
  | .non => (by decide +kernel : kitB "NoneType" "list" = some false)
  | .bl _ => (by decide +kernel : kitB "bool" "list" = some false)
  | .int _ => (by decide +kernel : kitB "int" "list" = some false)
  | .str _ => (by decide +kernel : kitB "str" "list" = some false)
  | .tup _ => (by decide +kernel : kitB "tuple" "list" = some false)
  | .ref _ => (by decide +kernel : kitB "list" "list" = some true)
  | .emp => (by decide +kernel : kitB "dict" "list" = some false)
  | .mt => (by decide +kernel : kitB "list" "list" = some true)
  | .frz _ => (by decide +kernel : kitB "list" "list" = some true)
theorem tab_bool : ∀ w, kitB (kindW w) "bool" = some (tabBool w)
  | .non => (by decide +kernel : kitB "NoneType" "bool" = some false)
  | .bl _ => (by decide +kernel : kitB "bool" "bool" = some true)
  | .int _ => (by decide +kernel : kitB "int" "bool" = some false)
  | .str _ => (by decide +kernel : kitB "str" "bool" = some false)
  | .tup _ => (by decide +kernel : kitB "tuple" "bool" = some false)
  | .ref _ => (by decide +kernel : kitB "list" "bool" = some false)
  | .emp => (by decide +kernel : kitB "dict" "bool" = some false)
  | .mt => (by decide +kernel : kitB "list" "bool" = some false)
  | .frz _ => (by decide +kernel : kitB "list" "bool" = some false)
theorem tab_int : ∀ w, kitB (kindW w) "int" = some (tabInt w)
  | .non => (by decide +kernel : kitB "NoneType" "int" = some false)
  | .bl _ => (by decide +kernel : kitB "bool" "int" = some true)
  | .int _ => (by decide +kernel : kitB "int" "int" = some true)
  | .str _ => (by decide +kernel : kitB "str" "int" = some false)
  | .tup _ => (by decide +kernel : kitB "tuple" "int" = some false)
  | .ref _ => (by decide +kernel : kitB "list" "int" = some false)
  | .emp => (by decide +kernel : kitB "dict" "int" = some false)
  | .mt => (by decide +kernel : kitB "list" "int" = some false)
  | .frz _ => (by decide +kernel : kitB "list" "int" = some false)
theorem tab_str : ∀ w, kitB (kindW w) "str" = some (tabStr w)
  | .non => (by decide +kernel : kitB "NoneType" "str" = some false)
  | .bl _ => (by decide +kernel : kitB "bool" "str" = some false)
  | .int _ => (by decide +kernel : kitB "int" "str" = some false)
  | .str _ => (by decide +kernel : kitB "str" "str" = some true)
  | .tup _ => (by decide +kernel : kitB "tuple" "str" = some false)
  | .ref _ => (by decide +kernel : kitB "list" "str" = some false)
  | .emp => (by decide +kernel : kitB "dict" "str" = some false)
  | .mt => (by decide +kernel : kitB "list" "str" = some false)
  | .frz _ => (by decide +kernel : kitB "list" "str" = some false)
theorem tab_dict : ∀ w, kitB (kindW w) "dict" = some (tabDict w)
  | .non => (by decide +kernel : kitB "NoneType" "dict" = some false)
  | .bl _ => (by decide +kernel : kitB "bool" "dict" = some false)
  | .int _ => (by decide +kernel : kitB "int" "dict" = some false)
  | .str _ => (by decide +kernel : kitB "str" "dict" = some false)
  | .tup _ => (by decide +kernel : kitB "tuple" "dict" = some false)
  | .ref _ => (by decide +kernel : kitB "list" "dict" = some false)
  | .emp => (by decide +kernel : kitB "dict" "dict" = some true)
  | .mt => (by decide +kernel : kitB "list" "dict" = some false)
  | .frz _ => (by decide +kernel : kitB "list" "dict" = some false)
end Sm
/-! Sm5: calls of defs, statements, a def by its body -/
namespace Sm
open PySem PySem.Spec PyProof.Rows L2

/-! ### calls of defs -/
noncomputable def spR (K : PySem.W.Frag) (n : Nat) (f : FC) : Sp := fun vs H Q _ => ∃ ρ ws c, RelH K ρ H c ∧ RpL K ρ H ws vs ∧ ws.length = n ∧ Got K (Rp K) (f ws c) ρ H Q
/-- what is known of a def x of n parameters: called, it runs as f -/
structure Has (P : Program) (w : World) (K : PySem.W.Frag) (mg : Str → Option Value) (base : Heap) (k : Nat) (x : Str) (n : Nat) (f : FC) : Prop where
  ex : ∃ (CX : CXT) (fa : Addr) (fd : FuncData) (ps : List Str), FnOk P w K mg base CX k fa fd ps (spR K n f) ∧ mg x = some (.ref fa) ∧ PySem.W.keepIn K (.ref fa) = true ∧ Binds K fd ps [] ∧ ∀ X : Cx, X.prog = P → X.w = w → Passes CX X E0
noncomputable def eCall (n : Nat) (f : FC) (ra : EvA) : Ev := fun ω c => (ra ω c).bind fun ws c1 => match Nat.beq ws.length n with
  | true => f ws c1
  | false => .no
section
variable {X : Cx} {x : Str} {p pos : Pos} {e : Expr} {es : List Expr} {ra : EvA} {k n : Nat} {f : FC}
theorem tV_call {σ : L2.St} {H : Hp} {Q : VK} (h : tV X.K (eCall n f ra) σ H Q) : tCall (spR X.K n f) [] E0 (tU X.K ra) σ H Q := by
  obtain ⟨ρ, ω, c, hr, hs, g⟩ := h
  obtain ⟨ws, c1, e1, g⟩ := Got.bind g
  refine tG_in hr hs e1 fun vs H1 ρ1 p1 hr1 hs1 rx => ?_
  cases e2 : Nat.beq ws.length n with
  | false => rw [e2] at g; exact g.elim
  | true =>
    rw [e2] at g
    rw [List.append_nil]
    exact ⟨ρ1, ws, c1, hr1, rx, Nat.eq_of_beq_eq_true e2, g.after p1⟩
theorem q_call (G : Has X.prog X.w X.K X.mg X.base k x n f) (hr : Room k X.A) (ha : PA X (e :: es) (tU X.K ra)) (hg : Gl X x := by rfl) (hdb : (x == ("__debug__" : Str)) = false := by decide)
    (he : starEach (e :: es) X.env = (false, eval e X.env) :: starEach es X.env := by rfl) (hpl : (backTo pos (starEach es X.env)).any (·.1) = false := by rfl) : PE X (.Call (.Name x p) (e :: es) [] pos) (tV X.K (eCall n f ra)) := by
  obtain ⟨CX, fa, fd, ps, F, hm, hk, hb, hx⟩ := G.ex
  exact pe_imp (pe_call F hr hg hm hk hb .nil (hx X rfl rfl) ha hdb he hpl) fun _ _ _ h => tV_call h
theorem q_call0 (G : Has X.prog X.w X.K X.mg X.base k x n f) (hr : Room k X.A) (hg : Gl X x := by rfl) (hdb : (x == ("__debug__" : Str)) = false := by decide) : PE X (.Call (.Name x p) [] [] pos) (tV X.K (eCall n f aNil)) := by
  obtain ⟨CX, fa, fd, ps, F, hm, hk, hb, hx⟩ := G.ex
  exact pe_imp (pe_call0 F hr hg hm hk hb .nil (hx X rfl rfl) hdb) fun σ H Q h => by
    obtain ⟨ρ, ω, c, hr, hs, g⟩ := h
    have g : Got X.K (Rp X.K) (match Nat.beq ([] : List W).length n with | true => f [] c | false => .no) ρ H Q := g
    cases e2 : Nat.beq ([] : List W).length n with
    | false => rw [e2] at g; exact g.elim
    | true =>
      rw [e2] at g
      exact ⟨ρ, [], c, hr, .nil, Nat.eq_of_beq_eq_true e2, g⟩
end
/-- values without lists, to a depth (to a callee a list that stands apart may go) -/
noncomputable def flat : Nat → W → Bool
  | 0, _ => false
  | _ + 1, .ref _ => false
  | _ + 1, .mt => false
  | _ + 1, .frz _ => false
  | n + 1, .tup ws => ws.all (flat n)
  | _ + 1, _ => true
noncomputable def flatA : Nat → W → Bool
  | 0, _ => false
  | _ + 1, .ref _ => false
  | n + 1, .tup ws => ws.all (flatA n)
  | _ + 1, _ => true
section
variable {K : PySem.W.Frag} {ρ ρ' : List Addr} {H : Hp}
theorem flatL_rp {f : W → Bool} (hf : ∀ w v, f w = true → Rp K ρ H w v → Rp K ρ' H w v) : ∀ {ws : List W} {vs : List V}, ws.all f = true → RpL K ρ H ws vs → RpL K ρ' H ws vs
  | [], _, _, .nil => .nil
  | w :: ws, _, h, .cons r t => by
    rw [List.all_cons] at h
    obtain ⟨h1, h2⟩ := Bool.and_eq_true_iff.mp h
    exact .cons (hf w _ h1 r) (flatL_rp hf h2 t)
theorem flat_rp : ∀ (n : Nat) (w : W) (v : V), flat n w = true → Rp K ρ H w v → Rp K ρ' H w v
  | 0, _, _, h, _ => by cases h
  | n + 1, .ref k, _, h, _ => by cases h
  | n + 1, .mt, _, h, _ => by cases h
  | n + 1, .frz _, _, h, _ => by cases h
  | n + 1, .tup ws, _, h, .tup s l => .tup s (flatL_rp (fun w v => flat_rp n w v) h l)
  | n + 1, .emp, _, _, .emp h => .emp h
  | n + 1, .non, _, _, .non => .non
  | n + 1, .bl _, _, _, .bl b => .bl b
  | n + 1, .int _, _, _, .int b => .int b
  | n + 1, .str _, _, _, .str b => .str b
theorem flatA_rp (hs : ∀ a, a ∈ ρ' → a ∈ ρ) : ∀ (n : Nat) (w : W) (v : V), flatA n w = true → Rp K ρ H w v → Rp K ρ' H w v
  | 0, _, _, h, _ => by cases h
  | n + 1, .ref k, _, h, _ => by cases h
  | n + 1, .frz _, _, _, .frz h => .frz (h.sub hs)
  | n + 1, .mt, _, h, .mt h1 h2 => .mt h1 fun z => h2 (hs _ z)
  | n + 1, .tup ws, _, h, .tup s l => .tup s (flatL_rp (fun w v => flatA_rp hs n w v) h l)
  | n + 1, .emp, _, _, .emp h => .emp h
  | n + 1, .non, _, _, .non => .non
  | n + 1, .bl _, _, _, .bl b => .bl b
  | n + 1, .int _, _, _, .int b => .int b
  | n + 1, .str _, _, _, .str b => .str b
end
/-- a run apart: on the empty heap, of values without lists, to such a value -/
noncomputable def alone (f : FC) : FC := fun ws c => match ws.all (flatA 9) with
  | true => match f ws Ch.nil with
    | .ok w _ => match flat 9 w with
      | true => .ok w c
      | false => .no
    | .no => .no
  | false => .no
theorem spR_alone {K : PySem.W.Frag} {n : Nat} {f : FC} {vs : List V} {H : Hp} {Q : VK} {E : XK} (h : spR K n (alone f) vs H Q E) : spR K n f vs H Q E := by
  obtain ⟨ρ, ws, c, hr, rx, hn, g⟩ := h
  have hr0 : RelH K [] H Ch.nil := ⟨rfl, List.nodup_nil, fun a ha => absurd ha List.not_mem_nil, fun n ws e => by cases e⟩
  unfold alone at g
  cases e1 : ws.all (flatA 9) with
  | false => rw [e1] at g; exact g.elim
  | true =>
    rw [e1] at g
    refine ⟨[], ws, Ch.nil, hr0, flatL_rp (fun w v => flatA_rp (fun a z => absurd z List.not_mem_nil) 9 w v) e1 rx, hn, ?_⟩
    cases e2 : f ws Ch.nil with
    | no => rw [e2] at g; exact g.elim
    | ok w c2 =>
      rw [e2] at g
      have g : Got K (Rp K) (match flat 9 w with | true => R.ok w c | false => .no) ρ H Q := g
      cases e3 : flat 9 w with
      | false => rw [e3] at g; exact g.elim
      | true =>
        rw [e3] at g
        intro v H' ρ' po hr' rv
        have po2 : Post ρ H ρ H' := ⟨⟨[], by simp, by simp⟩, fun a o e _ => po.keep a o e (by simp), po.dom⟩
        refine g v H' ρ po2 ⟨hr.len, hr.nd, fun a ha => ?_, fun n us e => ?_⟩ (flat_rp 9 w v e3 rv)
        · obtain ⟨zs, e4⟩ := hr.mem a ha
          exact ⟨zs, po.keep a _ e4 (by simp)⟩
        obtain ⟨a, zs, e4, e5, e6⟩ := hr.at_ n us e
        exact ⟨a, zs, e4, po.keep a _ e5 (by simp), e6.mono hr po2⟩
theorem Has.alone {P : Program} {w : World} {K : PySem.W.Frag} {mg : Str → Option Value} {base : Heap} {k : Nat} {x : Str} {n : Nat} {f : FC} (h : Has P w K mg base k x n f) : Has P w K mg base k x n (Sm.alone f) := by
  obtain ⟨CX, fa, fd, ps, F, r⟩ := h.ex
  exact ⟨⟨CX, fa, fd, ps, F.imp fun vs H Q E => spR_alone, r⟩⟩
theorem Has.mono {P : Program} {w : World} {K : PySem.W.Frag} {mg : Str → Option Value} {base : Heap} {j k : Nat} {x : Str} {n : Nat} {f : FC} (h : Has P w K mg base j x n f) (hk : j ≤ k) : Has P w K mg base k x n f := by
  obtain ⟨CX, fa, fd, ps, F, r⟩ := h.ex
  exact ⟨⟨CX, fa, fd, ps, F.mono hk, r⟩⟩
/-- another run that gives the same where it gives -/
theorem Has.imp {P : Program} {w : World} {K : PySem.W.Frag} {mg : Str → Option Value} {base : Heap} {k : Nat} {x : Str} {n : Nat} {f g : FC} (h : Has P w K mg base k x n f) (i : ∀ ws c a c', g ws c = .ok a c' → f ws c = .ok a c') : Has P w K mg base k x n g := by
  obtain ⟨CX, fa, fd, ps, F, r⟩ := h.ex
  refine ⟨⟨CX, fa, fd, ps, F.imp fun vs H Q E ⟨ρ, ws, c, hr, rx, hn, q⟩ => ⟨ρ, ws, c, hr, rx, hn, ?_⟩, r⟩⟩
  cases e : g ws c with
  | no => rw [e] at q; exact q.elim
  | ok a c' =>
    rw [i ws c a c' e]
    rw [e] at q
    exact q

/-! ### targets -/
abbrev EvG := W → Sl → Ch → R Sl
abbrev EvGs := List W → Sl → Ch → R Sl
abbrev relS (K : PySem.W.Frag) : Rel Sl L2.St := fun ρ H ω σ => RelS K ρ H ω σ
noncomputable def tGt (K : PySem.W.Frag) (g : EvG) : TG := fun v σ H Q => ∃ ρ w ω c, RelH K ρ H c ∧ Rp K ρ H w v ∧ RelS K ρ H ω σ ∧ Got K (relS K) (g w ω c) ρ H Q
noncomputable def tGs (K : PySem.W.Frag) (g : EvGs) : TGs := fun vs σ H Q => ∃ ρ ws ω c, RelH K ρ H c ∧ RpL K ρ H ws vs ∧ RelS K ρ H ω σ ∧ Got K (relS K) (g ws ω c) ρ H Q
noncomputable def gN (i : Nat) : EvG := fun w ω c => .ok (setK (some w) ω i) c
noncomputable def gsNil : EvGs := fun ws ω c => match ws with
  | [] => .ok ω c
  | _ => .no
noncomputable def gsCons (g : EvG) (gs : EvGs) : EvGs := fun ws ω c => match ws with
  | w :: r => (g w ω c).bind fun ω1 c1 => gs r ω1 c1
  | [] => .no
noncomputable def gT (n : Nat) (gs : EvGs) : EvG := fun w ω c => match w with
  | .tup ws => match Nat.beq ws.length n with
    | true => gs ws ω c
    | false => .no
  | _ => .no
noncomputable def setW (ws : List W) (i : Int) (w : W) : Option (List W) := match i with
  | .ofNat k => match getK ws k with
    | some _ => some (setK w ws k)
    | none => none
  | .negSucc k => match Nat.ble (k + 1) ws.length with
    | true => some (ws.set (ws.length - (k + 1)) w)
    | false => none
/-- o[i] = w -/
noncomputable def gSb (o i : Ev) : EvG := fun w ω c => (o ω c).bind fun x c1 => (i ω c1).bind fun y c2 => match x, y with
  | .ref n, .int j => match (c2.get n) with
    | some ws => match setW ws j w with
      | some us => .ok ω (c2.set n us)
      | none => .no
    | none => .no
  | _, _ => .no
section
variable {X : Cx} {pos : Pos}
theorem g_name {i : Nat} {x : Str} (hN : X.N.Nodup) (hi : X.N[i]? = some x := by rfl) (hx : Loc X.env.scope x := by first | exact Or.inl rfl | exact Or.inr rfl) (hf : X.fn x = true ∨ X.env.scope.names.lookup x = some .local := by first | exact .inl rfl | exact .inr rfl | assumption) : PG X (.Name x pos) (tGt X.K (gN i)) :=
  pg_imp (pg_name hN hi hx hf) fun v σ H Q ⟨ρ, w, ω, c, hr, rw', hs, g⟩ => g _ H ρ Post.refl hr (hs.setK rw' i)
theorem gs_imp {e : List Expr} {t t' : TGs} (h : PGs X e t) (i : ∀ v σ H Q, t' v σ H Q → t v σ H Q) : PGs X e t' := ⟨fun pins s σ H v u Q I r q => h.run pins s σ H v u Q I r (i v σ H Q q)⟩
theorem gs_nil : PGs X [] (tGs X.K gsNil) := gs_imp pgs_nil fun vs σ H Q h => by
  obtain ⟨ρ, ws, ω, c, hr, rw', hs, g⟩ := h
  cases rw' with
  | nil => exact ⟨rfl, g σ H ρ Post.refl hr hs⟩
  | cons _ _ => exact g.elim
theorem gs_cons {e : Expr} {es : List Expr} {g1 : EvG} {g2 : EvGs} (h1 : PG X e (tGt X.K g1)) (h2 : PGs X es (tGs X.K g2))
    (hs : (assignEach (e :: es) X.env).map (·.2) = assign e X.env :: (assignEach es X.env).map (·.2) := by rfl) : PGs X (e :: es) (tGs X.K (gsCons g1 g2)) := gs_imp (pgs_cons h1 h2 hs) fun vs σ H Q h => by
  obtain ⟨ρ, ws, ω, c, hr, rw', hs, g⟩ := h
  cases rw' with
  | nil => exact g.elim
  | @cons w ws v vs r1 r2 =>
    obtain ⟨ω1, c1, e1, g⟩ := Got.bind g
    refine ⟨v, vs, rfl, ρ, w, ω, c, hr, r1, hs, ?_⟩
    rw [e1]
    exact fun σ1 H1 ρ1 p1 hr1 hs1 => ⟨ρ1, ws, ω1, c1, hr1, r2.mono hr p1, hs1, g.after p1⟩
theorem g_tup {es : List Expr} {k : Nat} {gs : EvGs} {n : Nat} (hc : X.calm = true) (h : PGs X es (tGs X.K gs)) (hn : (assignEach es X.env).length = n := by rfl) (hst : (assignEach es X.env).findIdx? (·.1) = none := by rfl) :
    PG X (.Tuple es k pos) (tGt X.K (gT n gs)) := pg_imp (pg_tup hc h hn hst) fun v σ H Q h => by
  obtain ⟨ρ, w, ω, c, hr, rw', hs, g⟩ := h
  cases rw' with
  | @tup ws vs a s l =>
    have g : Got X.K (Sm.relS X.K) (match Nat.beq ws.length n with | true => gs ws ω c | false => .no) ρ H Q := g
    cases e2 : Nat.beq ws.length n with
    | false => rw [e2] at g; exact g.elim
    | true =>
      rw [e2] at g
      exact ⟨a, vs, rfl, s, by rw [← l.length]; exact Nat.eq_of_beq_eq_true e2, ρ, ws, ω, c, hr, l, hs, g⟩
  | _ => exact g.elim
theorem setW_ok {K : PySem.W.Frag} {ρ : List Addr} {H : Hp} {ws us : List W} {vs : List V} {i : Int} {w : W} {v : V} (r : RpL K ρ H ws vs) (rw' : Rp K ρ H w v) (h : setW ws i w = some us) : ∃ j, ixN vs.length i = some j ∧ RpL K ρ H us (vs.set j v) := by
  cases i with
  | ofNat k =>
    have h : (match getK ws k with | some _ => some (setK w ws k) | none => none) = some us := h
    rw [getK_eq, setK_eq] at h
    cases e0 : ws[k]? with
    | none => rw [e0] at h; cases h
    | some _ =>
      rw [e0] at h
      cases h
      have hk : k < ws.length := (List.getElem?_eq_some_iff.mp e0).1
      rw [r.length] at hk
      refine ⟨k, ?_, r.set rw' k⟩
      unfold ixN
      rw [if_pos (show (0 : Int) ≤ Int.ofNat k from Int.natCast_nonneg k), if_pos (show (Int.ofNat k) < (vs.length : Int) from Int.ofNat_lt.mpr hk)]
      rfl
  | negSucc k =>
    have h : (match Nat.ble (k + 1) ws.length with | true => some (ws.set (ws.length - (k + 1)) w) | false => none) = some us := h
    cases e0 : Nat.ble (k + 1) ws.length with
    | false => rw [e0] at h; cases h
    | true =>
      rw [e0] at h
      cases h
      have hk := Nat.le_of_ble_eq_true e0
      rw [r.length] at hk ⊢
      refine ⟨_, ?_, r.set rw' _⟩
      unfold ixN
      rw [if_neg (by omega), if_pos (by omega)]
      congr 1
      omega
theorem g_sub {o i : Expr} {eo ei : Ev} (ho : PE X o (tV X.K eo)) (hi : PE X i (tV X.K ei)) (ha : ∀ v, assign (.Subscript o i pos) X.env v = (do
      let ov ← holding [v] (eval o X.env)
      let iv ← holding [v, ov] (eval i X.env)
      standAt pos
      holding [v, ov, iv] (setItem ov iv v)
      release [v, ov, iv] []) := by intro _; rfl) : PG X (.Subscript o i pos) (tGt X.K (gSb eo ei)) := pg_imp (pg_sub ho hi set_list ha) fun v σ H Q h => by
  obtain ⟨ρ, w, ω, c, hr, rw', hs, g⟩ := h
  obtain ⟨x, c1, e1, g⟩ := Got.bind g
  refine tG_in hr hs e1 fun vo H1 ρ1 p1 hr1 hs1 rx => ?_
  obtain ⟨y, c2, e2, g⟩ := Got.bind g
  refine tG_in hr1 hs1 e2 fun vi H2 ρ2 p2 hr2 hs2 ry => ?_
  have rx := rx.mono hr1 p2
  have rw2 := (rw'.mono hr p1).mono hr1 p2
  have g := g.after (p1.trans p2)
  cases rx with
  | @ref n a hn =>
    cases ry with
    | int j =>
      have g : Got X.K (Sm.relS X.K) (match (c2.get n) with | some ws => (match setW ws j w with | some us => R.ok ω (c2.set n us) | none => .no) | none => .no) ρ2 H2 Q := g
      cases e3 : (c2.get n) with
      | none => rw [e3] at g; exact g.elim
      | some ws =>
        rw [e3] at g
        have g : Got X.K (Sm.relS X.K) (match setW ws j w with | some us => R.ok ω (c2.set n us) | none => .no) ρ2 H2 Q := g
        cases e4 : setW ws j w with
        | none => rw [e4] at g; exact g.elim
        | some us =>
          rw [e4] at g
          obtain ⟨_, vs, z, _, hA, rv⟩ := hr2.lst (.ref hn) e3
          cases z
          obtain ⟨l, e5, e6⟩ := setW_ok rv rw2 e4
          have po : Post ρ2 H2 ρ2 (upd H2 a (.lst (vs.set l v))) := post_set hA (List.mem_of_getElem? hn)
          exact ⟨a, vs, j, l, rfl, rfl, hA, e5, g σ _ ρ2 po (hr2.put hn e6) (hs2.mono hr2 po)⟩
    | _ => exact g.elim
  | _ => exact g.elim
end

/-! ### statements -/
noncomputable def sNext : EvS := fun ω c => .nx ω c
noncomputable def sSeq (s t : EvS) : EvS := fun ω c => match s ω c with
  | .nx ω1 c1 => t ω1 c1
  | .rt w c1 => .rt w c1
  | .bk ω1 c1 => .bk ω1 c1
  | .ct ω1 c1 => .ct ω1 c1
  | .no => .no
noncomputable def sSet (i : Nat) (e : Ev) : EvS := fun ω c => (e ω c).run fun w c1 => .nx (setK (some w) ω i) c1
noncomputable def sAsg (e : Ev) (g : EvG) : EvS := fun ω c => (e ω c).run fun w c1 => (g w ω c1).run fun ω1 c2 => .nx ω1 c2
noncomputable def sPar (i j : Nat) (a : EvA) : EvS := fun ω c => (a ω c).run fun ws c1 => match ws with
  | [v, w] => .nx (setK (some w) (setK (some v) ω i) j) c1
  | _ => .no
noncomputable def sIf (t : EvB) (a b : EvS) : EvS := fun ω c => (t ω c).run fun k c1 => match k with
  | true => a ω c1
  | false => b ω c1
noncomputable def sRet (e : Ev) : EvS := fun ω c => (e ω c).run fun w c1 => .rt w c1
noncomputable def sDrop (e : Ev) : EvS := fun ω c => (e ω c).run fun _ c1 => .nx ω c1
/-- o.append(e) -/
noncomputable def eApp (o e : Ev) : Ev := fun ω c => (o ω c).bind fun x c1 => (e ω c1).bind fun y c2 => match x with
  | .ref n => match (c2.get n) with
    | some ws => match Nat.blt (lenK ws) 100000 with
      | true => .ok .non (c2.set n (appK ws [y]))
      | false => .no
    | none => .no
  | _ => .no
section
variable {X : Cx} {pos : Pos} {st : Stmt} {rest : List Stmt} {a b : EvS} {e : Expr} {ea : Ev} {ra : EvA} {t : EvB}
theorem x_nil : PSs X [] (tX X.K sNext) := pss_imp pss_nil fun D σ H ⟨ρ, ω, c, hr, hs, g⟩ => g σ H ρ Post.refl hr hs
theorem x_cons (h1 : PS X st (tX X.K a)) (h2 : PSs X rest (tX X.K b)) : PSs X (st :: rest) (tX X.K (sSeq a b)) := pss_imp (pss_cons h1 h2) fun D σ H h => by
  obtain ⟨ρ, ω, c, hr, hs, g⟩ := h
  refine ⟨ρ, ω, c, hr, hs, ?_⟩
  unfold sSeq at g
  cases e : a ω c with
  | nx ω1 c1 =>
    rw [e] at g
    exact fun σ1 H1 ρ1 p1 hr1 hs1 => ⟨ρ1, ω1, c1, hr1, hs1, GotS.after g p1⟩
  | rt w c1 =>
    rw [e] at g
    exact g
  | bk ω1 c1 =>
    rw [e] at g
    exact g
  | ct ω1 c1 =>
    rw [e] at g
    exact g
  | no =>
    rw [e] at g
    exact g.elim
theorem x_one (h1 : PS X st (tX X.K a)) : PSs X [st] (tX X.K a) := pss_one h1
theorem x_set {i : Nat} {x : Str} {pos' : Pos} (hN : X.N.Nodup) (he : PE X e (tV X.K ea)) (hi : X.N[i]? = some x := by rfl) (hx : Loc X.env.scope x := by first | exact Or.inl rfl | exact Or.inr rfl) (hs : swapsWith e (some (.Name x pos')) pos.line X.env = pure false := by rfl) (hf : X.fn x = true ∨ X.env.scope.names.lookup x = some .local := by first | exact .inl rfl | exact .inr rfl | assumption) :
    PS X (.Assign [.Name x pos'] e pos) (tX X.K (sSet i ea)) := ps_imp (ps_set hN hi hx he hs hf) fun D σ H h => by
  obtain ⟨ρ, ω, c, hr, hs, g⟩ := h
  obtain ⟨w, c1, e1, g⟩ := GotS.run g
  exact tG_in hr hs e1 fun v H1 ρ1 p1 hr1 hs1 rx => g _ H1 ρ1 p1 hr1 (hs1.setK rx i)
theorem x_asg {tg : Expr} {g : EvG} (he : PE X e (tV X.K ea)) (hg : PG X tg (tGt X.K g)) (hs : swapsWithSole [tg] e pos.line X.env = pure false := by rfl) (hw : swappedStores [tg] e X.env = pure none := by rfl)
    (h1 : (assignEach [tg] X.env).map (·.2) = [assign tg X.env] := by rfl) : PS X (.Assign [tg] e pos) (tX X.K (sAsg ea g)) := ps_imp (ps_asg he hg hs hw h1) fun D σ H h => by
  obtain ⟨ρ, ω, c, hr, hs, q⟩ := h
  obtain ⟨w, c1, e1, q⟩ := GotS.run q
  obtain ⟨ω1, c2, e2, q⟩ := GotS.run q
  refine tG_in hr hs e1 fun v H1 ρ1 p1 hr1 hs1 rx => ⟨ρ1, w, ω, c1, hr1, rx, hs1, ?_⟩
  rw [e2]
  exact fun σ2 H2 ρ2 p2 hr2 hs2 => q σ2 H2 ρ2 (p1.trans p2) hr2 hs2
theorem x_par {i j : Nat} {x y : Str} {e1 e2 : Expr} {px py pt : Pos} {kt k2 pt2} (hc : X.calm = true) (hN : X.N.Nodup) (ha : PA X [e1, e2] (tU X.K ra)) (hi : X.N[i]? = some x := by rfl) (hj : X.N[j]? = some y := by rfl) (hij : i ≠ j := by decide)
    (hx : X.env.scope.names.lookup x = some .local := by rfl) (hy : X.env.scope.names.lookup y = some .local := by rfl)
    (hw : swappedStores [.Tuple [.Name x px, .Name y py] kt pt] (.Tuple [e1, e2] k2 pt2) X.env = pure (some [x, y]) := by rfl)
    (hs : swapsWithSole [.Tuple [.Name x px, .Name y py] kt pt] (.Tuple [e1, e2] k2 pt2) pos.line X.env = pure false := by rfl) :
    PS X (.Assign [.Tuple [.Name x px, .Name y py] kt pt] (.Tuple [e1, e2] k2 pt2) pos) (tX X.K (sPar i j ra)) := ps_imp (ps_par hc hN hi hj hij hx hy ha hw hs) fun D σ H h => by
  obtain ⟨ρ, ω, c, hr, hs, q⟩ := h
  obtain ⟨ws, c1, e1, q⟩ := GotS.run q
  refine tG_in hr hs e1 fun vs H1 ρ1 p1 hr1 hs1 rx => ?_
  match ws, rx, q with
  | [w1, w2], .cons (v := v1) r1 (.cons (v := v2) r2 .nil), q => exact ⟨v1, v2, rfl, q _ H1 ρ1 p1 hr1 ((hs1.setK r1 i).setK r2 j)⟩
  | [], _, q => exact q.elim
  | [_], _, q => exact q.elim
  | _ :: _ :: _ :: _, _, q => exact q.elim
theorem x_if {c : Expr} {s1 s2 : List Stmt} (hc : PT X c (tW X.K t)) (h1 : PSs X s1 (tX X.K a)) (h2 : PSs X s2 (tX X.K b)) : PS X (.If c s1 s2 pos) (tX X.K (sIf t a b)) := ps_imp (ps_if hc h1 h2) fun D σ H h => by
  obtain ⟨ρ, ω, c, hr, hs, q⟩ := h
  obtain ⟨k, c1, e1, q⟩ := GotS.run q
  refine tG_in hr hs e1 fun k' H1 ρ1 p1 hr1 hs1 rx => ?_
  have rx : k = k' := rx
  subst rx
  cases k with
  | true => exact ⟨ρ1, ω, c1, hr1, hs1, q.after p1⟩
  | false => exact ⟨ρ1, ω, c1, hr1, hs1, q.after p1⟩
theorem x_ret (he : PE X e (tV X.K ea)) : PS X (.Return (some e) pos) (tX X.K (sRet ea)) := ps_imp (ps_ret he) fun D σ H h => by
  obtain ⟨ρ, ω, c, hr, hs, q⟩ := h
  obtain ⟨w, c1, e1, q⟩ := GotS.run q
  exact tG_in hr hs e1 fun v H1 ρ1 p1 hr1 hs1 rx => q v H1 ρ1 p1 hr1 rx
theorem x_drop (he : PE X e (tV X.K ea)) (hs : swapsWith e none pos.line X.env = pure false := by rfl) : PS X (.Expr e pos) (tX X.K (sDrop ea)) := ps_imp (ps_expr he hs) fun D σ H h => by
  obtain ⟨ρ, ω, c, hr, hs, q⟩ := h
  obtain ⟨w, c1, e1, q⟩ := GotS.run q
  exact tG_in hr hs e1 fun v H1 ρ1 p1 hr1 hs1 rx => q σ H1 ρ1 p1 hr1 hs1
/-- what is not run here -/
noncomputable def sNo : EvS := fun _ _ => .no
theorem x_no : PS X st (tX X.K sNo) := ⟨fun pins s σ H D I h => by
  obtain ⟨ρ, ω, c, _, _, g⟩ := h
  exact g.elim⟩
theorem q_emp : PE X (.Dict [] [] pos) (tV X.K (eC .emp)) := pe_imp pe_dnewK fun σ H Q h => by
  obtain ⟨ρ, ω, c, hr, hs, g⟩ := h
  exact fun p hp => g (.ref p) _ ρ (post_out hp) (hr.out hp) (.emp upd_same)
theorem q_mt : PE X (.List [] pos) (tV X.K (eC .mt)) := pe_imp (pe_lst pa_nil) fun σ H Q h => by
  obtain ⟨ρ, ω, c, hr, hs, g⟩ := h
  exact ⟨Nat.zero_le _, fun p hp => g (.ref p) _ ρ (post_out hp) (hr.out hp) (.mt upd_same fun z => by
    obtain ⟨vs, e⟩ := hr.mem _ z
    rw [hp] at e
    cases e)⟩
theorem x_pass : PS X (.Pass pos) (tX X.K sNext) := ps_imp ps_pass fun D σ H ⟨ρ, ω, c, hr, hs, g⟩ => g σ H ρ Post.refl hr hs
theorem q_app {o : Expr} {eo : Ev} {apos cpos : Pos} (ho : PE X o (tV X.K eo)) (ha : PE X e (tV X.K ea)) (h1 : starEach [e] X.env = (false, eval e X.env) :: starEach [] X.env := by rfl)
    (hbase : attributeBase o "append" X.env (eval o X.env) = eval o X.env := by rfl)
    (hfew : ((backTo cpos (starEach [e] X.env)).all (fun x => !x.1) && (backToKw cpos (keywordEach [] X.env)).all (fun x => x.1.isSome)
      && decide ([e].length + ([] : List Keyword).length + (if ([] : List Keyword).isEmpty then 0 else 1) < 30)) = true := by rfl)
    (hline : (apos.endLine == cpos.line) = true := by rfl) (hplain : (backTo cpos (starEach [] X.env)).any (·.1) = false := by rfl) : PE X (.Call (.Attribute o "append" apos) [e] [] cpos) (tV X.K (eApp eo ea)) :=
  pe_imp (pe_bm PySem.F.plainAttrs_list PySem.F.slot_list_append PySem.F.type_list_append mt_append ho (pa_cons ha pa_nil h1) hbase hfew hline h1 hplain) fun σ H Q h => by
  obtain ⟨ρ, ω, c, hr, hs, g⟩ := h
  obtain ⟨x, c1, e1, g⟩ := Got.bind g
  refine tG_in hr hs e1 fun v H1 ρ1 p1 hr1 hs1 rx => ?_
  obtain ⟨y, c2, e2, g⟩ := Got.bind g
  cases rx with
  | @ref n a hn =>
    obtain ⟨us, hA0⟩ := hr1.mem _ (List.mem_of_getElem? hn)
    refine ⟨.inl ⟨rfl, _, .of hA0⟩, tG_in hr1 hs1 e2 fun vy H2 ρ2 p2 hr2 hs2 ry => ?_⟩
    have hn2 := p2.get hn
    have g := g.after (p1.trans p2)
    have g : Got X.K (Rp X.K) (match (c2.get n) with | some ws => (match Nat.blt (lenK ws) 100000 with | true => R.ok .non (c2.set n (appK ws [y])) | false => .no) | none => .no) ρ2 H2 Q := g
    cases e3 : (c2.get n) with
    | none => rw [e3] at g; exact g.elim
    | some ws =>
      rw [e3] at g
      have g : Got X.K (Rp X.K) (match Nat.blt (lenK ws) 100000 with | true => R.ok .non (c2.set n (appK ws [y])) | false => .no) ρ2 H2 Q := g
      cases e4 : Nat.blt (lenK ws) 100000 with
      | false => rw [e4] at g; exact g.elim
      | true =>
        rw [e4] at g
        obtain ⟨_, vs, z, _, hA, rv⟩ := hr2.lst (.ref hn2) e3
        cases z
        rw [appK_eq] at g
        have hl : ws.length < 100000 := by rw [Nat.blt_eq, lenK_eq] at e4; exact e4
        rw [rv.length] at hl
        have po : Post ρ2 H2 ρ2 (upd H2 a (.lst (vs ++ [vy]))) := post_set hA (List.mem_of_getElem? hn2)
        exact ⟨a, vs, vy, rfl, rfl, hA, Nat.lt_of_lt_of_le hl (by decide), g .non _ ρ2 po (hr2.put hn2 (rv.append (.cons ry .nil))) .non⟩
  | _ => exact g.elim
end

/-! ### a def by its body -/
noncomputable def runF (n m : Nat) (body : EvS) : FC := fun ws c => match body (ws.map some ++ List.replicate (m - n) none) c with
  | .rt w c1 => .ok w c1
  | .nx _ c1 => .ok .non c1
  | _ => .no
section
variable {P : Program} {w : World} {K : PySem.W.Frag} {mg : Str → Option Value} {base : Heap}
theorem startS {ρ : List Addr} {H : Hp} : ∀ {ws : List W} {vs : List V} (j : Nat), RpL K ρ H ws vs → RelS K ρ H (ws.map some ++ List.replicate j none) (vs.map some ++ List.replicate j none)
  | _, _, 0, .nil => .nil
  | _, _, j + 1, .nil => .free (startS (ws := []) (vs := []) j .nil)
  | _, _, j, .cons r t => .cons r (startS j t)
theorem fn_run {x qual : Str} {params : Arguments} {body : List Stmt} {scope : Scope} {f : Addr} {fd : FuncData} {CX : CXT} {N ps : List Str} {k n m : Nat} {bd : EvS} (F : FunD K x qual params body scope [] [] f fd) (S : FnScope N ps scope) (hn : ps.length = n) (hm : N.length = m)
    (hb : ∀ (cdv : Value) (A : Around) (outer : List Env) (s : Shared) (H : Hp) (E : XK), Room k (A.deeper (envOfC qual scope s.heap.objs.size f cdv)) → PSs (cxOf CX P w K mg base N qual scope f cdv A outer s H E).nox body (tX K bd)) :
    FnOk P w K mg base CX (k + 1) f fd ps (spR K n (runF n m bd)) := by
  subst hn hm
  refine F.ok S (fun vs H Q E ⟨ρ, ws, c, hr, rx, hl, _⟩ => by rw [← rx.length, hl]) fun cdv A outer s H vs Q E hr ⟨ρ, ws, c, hr', rx, hl, g⟩ => ⟨tX K bd, (hb cdv A outer s H E hr).nox, ρ, ws.map some ++ List.replicate (N.length - ps.length) none, c, hr', ?_, ?_⟩
  · have e : L2.start N vs = vs.map some ++ List.replicate (N.length - ps.length) none := by
      unfold L2.start
      rw [← rx.length, hl]
    rw [e]
    exact startS _ rx
  · unfold runF at g
    cases e : bd (ws.map some ++ List.replicate (N.length - ps.length) none) c with
    | rt w c1 => rw [e] at g; exact g
    | nx ω c1 =>
      rw [e] at g
      exact fun σ H' ρ' p hr' hs' => g .non H' ρ' p hr' .non
    | bk _ _ => rw [e] at g; exact g.elim
    | ct _ _ => rw [e] at g; exact g.elim
    | no => rw [e] at g; exact g.elim
theorem has_of {x : Str} {params : Arguments} {body : List Stmt} {scope : Scope} {f : Addr} {fd : FuncData} {ps : List Str} {k n : Nat} {r : FC} (F : FunD K x x params body scope [] [] f fd) (G : FnOk P w K mg base CX0 k f fd ps (spR K n r)) (hm : mg x = some (.ref f))
    (hb : ∀ (kV doc pm : Value) (an : Option Addr) (cdv ct : Value) (us : List Value), us.length = ps.length → bindArgs (PySem.W.fnOf x x params body scope .none kV doc pm an cdv ct) ⟨us, []⟩ = pure (ps.zip us)) : Has P w K mg base k x n r :=
  ⟨⟨CX0, f, fd, ps, G, hm, F.kp, F.bindsN hb, fun _ _ _ => pass0⟩⟩
end
end Sm
/-! Sm6: what is walked; for; comprehensions -/
namespace Sm
open PySem PySem.Spec PyProof.Rows L2

inductive Src where
  | rng (lo : Int) (n : Nat) | rngC (lo d : Int) (n : Nat) | tupl (ws : List W) | lst (k : Nat) | enu (k : Nat)
inductive SR where
  | stop | item (w : W) | no
noncomputable def atL (ws : List W) (i : Nat) : SR := match getK ws i with
  | some w => .item w
  | none => .stop
noncomputable def atE (ws : List W) (i : Nat) : SR := match getK ws i with
  | some w => .item (.tup [.int (i : Nat), w])
  | none => .stop
noncomputable def stepS (s : Src) (i : Nat) (c : Ch) : SR := match s with
  | .rng lo n => match Nat.blt i n with
    | true => .item (.int (lo + (i : Nat)))
    | false => .stop
  | .rngC lo d n => match Nat.blt i n with
    | true => .item (.int (lo + (i : Nat) * d))
    | false => .stop
  | .tupl ws => atL ws i
  | .lst k => match (c.get k) with
    | some ws => atL ws i
    | none => .no
  | .enu k => match (c.get k) with
    | some ws => atE ws i
    | none => .no
inductive SrcAt (K : PySem.W.Frag) (ρ : List Addr) (H : Hp) : Src → It → Prop
  | rng {lo : Int} {n : Nat} : SrcAt K ρ H (.rng lo n) (Itr lo n)
  | rngC {lo d : Int} {n : Nat} : SrcAt K ρ H (.rngC lo d n) (Itc lo d n)
  | tupl {a : Addr} {vs : List V} {ws : List W} : SqT K H a vs → RpL K ρ H ws vs → SrcAt K ρ H (.tupl ws) (Itt K a)
  | lst {a : Addr} {k : Nat} : ρ[k]? = some a → SrcAt K ρ H (.lst k) (Itl K a)
  | enu {a : Addr} {k : Nat} : ρ[k]? = some a → SrcAt K ρ H (.enu k) (Ite K a)
section
variable {K : PySem.W.Frag} {ρ ρ' : List Addr} {H H' : Hp} {c : Ch} {s : Src} {J : It}
theorem SrcAt.mono (hr : RelH K ρ H c) (p : Post ρ H ρ' H') (h : SrcAt K ρ H s J) : SrcAt K ρ' H' s J := by
  cases h with
  | rng => exact .rng
  | rngC => exact .rngC
  | tupl a b => exact .tupl (hr.sqT p a) (b.mono hr p)
  | lst a => exact .lst (p.get a)
  | enu a => exact .enu (p.get a)
noncomputable def StepOk (K : PySem.W.Frag) (ρ : List Addr) (H : Hp) (c : Ch) (J : It) (i : Nat) : SR → Prop
  | .stop => J.stop i H
  | .item w => J.go i H ∧ ∀ x H', J.yld i H x H' → Post ρ H ρ H' ∧ RelH K ρ H' c ∧ Rp K ρ H' w x
  | .no => True
theorem src_step (hr : RelH K ρ H c) (h : SrcAt K ρ H s J) (i : Nat) : StepOk K ρ H c J i (stepS s i c) := by
  cases h with
  | @rng lo n =>
    show StepOk K ρ H c (Itr lo n) i (match Nat.blt i n with | true => .item (.int (lo + (i : Nat))) | false => .stop)
    cases e : Nat.blt i n with
    | true =>
      rw [Nat.blt_eq] at e
      exact ⟨e, fun x H' ⟨h1, h2⟩ => by subst h1 h2; exact ⟨Post.refl, hr, .int _⟩⟩
    | false =>
      have : ¬ i < n := fun z => by rw [← Nat.blt_eq] at z; rw [z] at e; cases e
      exact Nat.le_of_not_lt this
  | @rngC lo d n =>
    show StepOk K ρ H c (Itc lo d n) i (match Nat.blt i n with | true => .item (.int (lo + (i : Nat) * d)) | false => .stop)
    cases e : Nat.blt i n with
    | true =>
      rw [Nat.blt_eq] at e
      exact ⟨e, fun x H' ⟨h1, h2⟩ => by subst h1 h2; exact ⟨Post.refl, hr, .int _⟩⟩
    | false =>
      have : ¬ i < n := fun z => by rw [← Nat.blt_eq] at z; rw [z] at e; cases e
      exact Nat.le_of_not_lt this
  | @tupl a vs ws hs hl =>
    show StepOk K ρ H c (Itt K a) i (atL ws i)
    unfold atL
    rw [getK_eq]
    cases e : ws[i]? with
    | none => exact ⟨vs, hs, by rw [← hl.length]; exact List.getElem?_eq_none_iff.mp e⟩
    | some w =>
      obtain ⟨v, e1, r⟩ := hl.get e
      refine ⟨⟨vs, v, hs, e1⟩, fun x H' ⟨h1, h2⟩ => ?_⟩
      subst h1
      have := h2 vs hs
      rw [e1] at this
      cases this
      exact ⟨Post.refl, hr, r⟩
  | @lst a k hk =>
    show StepOk K ρ H c (Itl K a) i (match (c.get k) with | some ws => atL ws i | none => .no)
    cases e0 : (c.get k) with
    | none => trivial
    | some ws =>
      obtain ⟨_, vs, z, _, ha, rv⟩ := hr.lst (.ref hk) e0
      cases z
      show StepOk K ρ H c (Itl K a) i (atL ws i)
      unfold atL
      rw [getK_eq]
      cases e : ws[i]? with
      | none => exact ⟨vs, .of ha, by rw [← rv.length]; exact List.getElem?_eq_none_iff.mp e⟩
      | some w =>
        obtain ⟨v, e1, r⟩ := rv.get e
        refine ⟨⟨vs, v, .of ha, e1⟩, fun x H' ⟨h1, h2⟩ => ?_⟩
        subst h1
        have := h2 vs (.of ha)
        rw [e1] at this
        cases this
        exact ⟨Post.refl, hr, r⟩
  | @enu a k hk =>
    show StepOk K ρ H c (Ite K a) i (match (c.get k) with | some ws => atE ws i | none => .no)
    cases e0 : (c.get k) with
    | none => trivial
    | some ws =>
      obtain ⟨_, vs, z, _, ha, rv⟩ := hr.lst (.ref hk) e0
      cases z
      show StepOk K ρ H c (Ite K a) i (atE ws i)
      unfold atE
      rw [getK_eq]
      cases e : ws[i]? with
      | none => exact ⟨vs, .of ha, by rw [← rv.length]; exact List.getElem?_eq_none_iff.mp e⟩
      | some w =>
        obtain ⟨v, e1, r⟩ := rv.get e
        refine ⟨⟨vs, v, .of ha, e1⟩, fun x H' ⟨T, y, h0, h1, h2, h3⟩ => ?_⟩
        subst h0 h2
        have := h3 vs (.of ha)
        rw [e1] at this
        cases this
        exact ⟨post_out h1, hr.out h1, .tup (.of upd_same) (.cons (.int _) (.cons (r.mono hr (post_out h1)) .nil))⟩
end

/-! ### iterables -/
abbrev EvI := Sl → Ch → R Src
abbrev tJ (K : PySem.W.Frag) (e : EvI) : TI := tG K (SrcAt K) e
noncomputable def in62 (j : Int) : Bool := Nat.blt j.natAbs 4611686018427387904
noncomputable def iR1 (a : EvA) : EvI := fun ω c => (a ω c).bind fun ws c1 => match ws with
  | [.int j] => match in62 j with
    | true => .ok (.rng 0 j.toNat) c1
    | false => .no
  | _ => .no
noncomputable def iR2 (a : EvA) : EvI := fun ω c => (a ω c).bind fun ws c1 => match ws with
  | [.int i, .int j] => match in62 i && in62 j with
    | true => .ok (.rng i (j - i).toNat) c1
    | false => .no
  | _ => .no
/-- range(i, j, -1) -/
noncomputable def iR3 (a : EvA) : EvI := fun ω c => (a ω c).bind fun ws c1 => match ws with
  | [.int i, .int j, .int d] => match in62 i && in62 j && ieq d (-1) with
    | true => .ok (.rngC i (-1) (i - j).toNat) c1
    | false => .no
  | _ => .no
noncomputable def iSq (a : Ev) : EvI := fun ω c => (a ω c).bind fun w c1 => match w with
  | .tup ws => .ok (.tupl ws) c1
  | .ref k => .ok (.lst k) c1
  | _ => .no
noncomputable def iEn (a : Ev) : EvI := fun ω c => (a ω c).bind fun w c1 => match w with
  | .ref k => .ok (.enu k) c1
  | _ => .no
theorem in62_ok {j : Int} (h : in62 j = true) : -(2 ^ 62) ≤ j ∧ j < 2 ^ 62 := by
  unfold in62 at h
  rw [Nat.blt_eq] at h
  omega
section
variable {X : Cx} {tg a b d e : Expr} {p pos : Pos} {ra : EvA} {ea : Ev}
theorem pi_or {t t' : TI} (h : PI X tg e t) (h' : PI X tg e t') : PI X tg e (fun σ H R => t σ H R ∨ t' σ H R) := ⟨fun pins s σ H R I q => by
  rcases q with q | q
  · exact h.run pins s σ H R I q
  · exact h'.run pins s σ H R I q⟩
theorem i_rng1 (hm : X.mg "range" = none) (ha : PA X [a] (tU X.K ra)) (hg : Gl X "range" := by rfl) (hs : starEach [a] X.env = [(false, eval a X.env)] := by rfl) : PI X tg (.Call (.Name "range" p) [a] [] pos) (tJ X.K (iR1 ra)) := pi_imp (pi_range1 hg hm ha hs) fun σ H Q h => by
  obtain ⟨ρ, ω, c, hr, hs, g⟩ := h
  obtain ⟨ws, c1, e1, g⟩ := Got.bind g
  refine tG_in hr hs e1 fun vs H1 ρ1 p1 hr1 hs1 rx => ?_
  match ws, rx, g with
  | [.int j], .cons (.int _) .nil, g =>
    have g : Got X.K (SrcAt X.K) (match in62 j with | true => R.ok (.rng 0 j.toNat) c1 | false => .no) ρ H Q := g
    cases e2 : in62 j with
    | false => rw [e2] at g; exact g.elim
    | true =>
      rw [e2] at g
      obtain ⟨h1, h2⟩ := in62_ok e2
      exact ⟨j, rfl, h1, h2, g _ H1 ρ1 p1 hr1 .rng⟩
theorem i_rng2 (hm : X.mg "range" = none) (ha : PA X [a, b] (tU X.K ra)) (hg : Gl X "range" := by rfl) (hs : starEach [a, b] X.env = [(false, eval a X.env), (false, eval b X.env)] := by rfl) (hs2 : starEach [b] X.env = [(false, eval b X.env)] := by rfl) :
    PI X tg (.Call (.Name "range" p) [a, b] [] pos) (tJ X.K (iR2 ra)) := pi_imp (pi_range2 hg hm ha hs hs2) fun σ H Q h => by
  obtain ⟨ρ, ω, c, hr, hs, g⟩ := h
  obtain ⟨ws, c1, e1, g⟩ := Got.bind g
  refine tG_in hr hs e1 fun vs H1 ρ1 p1 hr1 hs1 rx => ?_
  match ws, rx, g with
  | [.int i, .int j], .cons (.int _) (.cons (.int _) .nil), g =>
    have g : Got X.K (SrcAt X.K) (match in62 i && in62 j with | true => R.ok (.rng i (j - i).toNat) c1 | false => .no) ρ H Q := g
    cases e2 : in62 i && in62 j with
    | false => rw [e2] at g; exact g.elim
    | true =>
      rw [e2] at g
      obtain ⟨h1, h2⟩ := Bool.and_eq_true_iff.mp e2
      obtain ⟨h1, h3⟩ := in62_ok h1
      obtain ⟨h2, h4⟩ := in62_ok h2
      exact ⟨i, j, rfl, ⟨h1, h3, h2, h4⟩, g _ H1 ρ1 p1 hr1 .rng⟩
theorem i_rng3 (hm : X.mg "range" = none) (ha : PA X [a, b, d] (tU X.K ra)) (hg : Gl X "range" := by rfl) (hs : starEach [a, b, d] X.env = (false, eval a X.env) :: starEach [b, d] X.env := by rfl) (hpl : (backTo pos (starEach [b, d] X.env)).any (·.1) = false := by rfl) :
    PI X tg (.Call (.Name "range" p) [a, b, d] [] pos) (tJ X.K (iR3 ra)) := pi_imp (pi_range3 hg hm ha hs hpl) fun σ H Q h => by
  obtain ⟨ρ, ω, c, hr, hs, g⟩ := h
  obtain ⟨ws, c1, e1, g⟩ := Got.bind g
  refine tG_in hr hs e1 fun vs H1 ρ1 p1 hr1 hs1 rx => ?_
  match ws, rx, g with
  | [.int i, .int j, .int k], .cons (.int _) (.cons (.int _) (.cons (.int _) .nil)), g =>
    have g : Got X.K (SrcAt X.K) (match in62 i && in62 j && ieq k (-1) with | true => R.ok (.rngC i (-1) (i - j).toNat) c1 | false => .no) ρ H Q := g
    cases e2 : in62 i && in62 j && ieq k (-1) with
    | false => rw [e2] at g; exact g.elim
    | true =>
      rw [e2] at g
      obtain ⟨h12, h5⟩ := Bool.and_eq_true_iff.mp e2
      obtain ⟨h1, h2⟩ := Bool.and_eq_true_iff.mp h12
      obtain ⟨h1, h3⟩ := in62_ok h1
      obtain ⟨h2, h4⟩ := in62_ok h2
      rw [ieq_eq] at h5
      have h5 := of_decide_eq_true h5
      exact ⟨i, j, -1, _, by rw [h5], RgC.neg h1 h3 h2 h4, g _ H1 ρ1 p1 hr1 .rngC⟩
theorem i_seq (he : PE X e (tV X.K ea)) : PI X tg e (tJ X.K (iSq ea)) := pi_imp (pi_or (pi_list he) (pi_tup he)) fun σ H Q h => by
  obtain ⟨ρ, ω, c, hr, hs, g⟩ := h
  obtain ⟨w, c1, e1, g⟩ := Got.bind g
  cases w with
  | tup ws =>
    refine .inr (tG_in hr hs e1 fun vs H1 ρ1 p1 hr1 hs1 rx => ?_)
    cases rx with
    | tup s l => exact ⟨_, rfl, ⟨_, s⟩, g _ H1 ρ1 p1 hr1 (.tupl s l)⟩
  | ref k =>
    refine .inl (tG_in hr hs e1 fun vs H1 ρ1 p1 hr1 hs1 rx => ?_)
    cases rx with
    | ref hk =>
      obtain ⟨us, e2⟩ := hr1.mem _ (List.mem_of_getElem? hk)
      exact ⟨_, rfl, ⟨us, .of e2⟩, g _ H1 ρ1 p1 hr1 (.lst hk)⟩
  | _ => exact g.elim
theorem i_enum {tpos : Pos} {elts : List Expr} {kk : Nat} (hm : X.mg "enumerate" = none) (ha : PE X e (tV X.K ea)) (hg : Gl X "enumerate" := by rfl) (hs : starEach [e] X.env = [(false, eval e X.env)] := by rfl) (hs1 : starEach [e] X.env = (false, eval e X.env) :: starEach [] X.env := by rfl) :
    PI X (.Tuple elts kk tpos) (.Call (.Name "enumerate" p) [e] [] pos) (tJ X.K (iEn ea)) := pi_imp (pi_enum hg hm (pa_cons ha pa_nil hs1) hs) fun σ H Q h => by
  obtain ⟨ρ, ω, c, hr, hs, g⟩ := h
  obtain ⟨w, c1, e1, g⟩ := Got.bind g
  refine tG_in hr hs e1 fun vs H1 ρ1 p1 hr1 hs1 rx => ?_
  cases rx with
  | @ref k a hk =>
    obtain ⟨us, e2⟩ := hr1.mem _ (List.mem_of_getElem? hk)
    exact ⟨a, us, rfl, .of e2, g _ H1 ρ1 p1 hr1 (.enu hk)⟩
  | _ => exact g.elim
end

/-! ### for -/
noncomputable def loopS (s : Src) (g : EvG) (body : EvS) (n : Nat) : Nat → Sl → Ch → RS := Nat.rec (motive := fun _ => Nat → Sl → Ch → RS) (fun _ _ _ => .no) (fun _ ih i ω c => match stepS s i c with
    | .stop => .nx ω c
    | .no => .no
    | .item w => match g w ω c with
      | .no => .no
      | .ok ω1 c1 => match body ω1 c1 with
        | .nx ω2 c2 => ih (i + 1) ω2 c2
        | .ct ω2 c2 => ih (i + 1) ω2 c2
        | .bk ω2 c2 => .nx ω2 c2
        | .rt w c2 => .rt w c2
        | .no => .no) n
theorem loopS_succ (s : Src) (g : EvG) (body : EvS) (n i : Nat) (ω : Sl) (c : Ch) : loopS s g body (n + 1) i ω c = (match stepS s i c with
    | .stop => .nx ω c
    | .no => .no
    | .item w => match g w ω c with
      | .no => .no
      | .ok ω1 c1 => match body ω1 c1 with
        | .nx ω2 c2 => loopS s g body n (i + 1) ω2 c2
        | .ct ω2 c2 => loopS s g body n (i + 1) ω2 c2
        | .bk ω2 c2 => .nx ω2 c2
        | .rt w c2 => .rt w c2
        | .no => .no) := rfl
noncomputable def sFor (fuel : Nat) (it : EvI) (g : EvG) (body : EvS) : EvS := fun ω c => (it ω c).run fun s c1 => loopS s g body fuel 0 ω c1
theorem x_for {X : Cx} {tg iter : Expr} {body : List Stmt} {it : EvI} {g : EvG} {bd : EvS} {pos : Pos} (fuel : Nat) (hp : PassesOwn (model X.prog X.w) X.A X.env X.xe) (hc : X.calm = true) (hi : PI X tg iter (tJ X.K it)) (hg : PG X tg (tGt X.K g)) (hb : PSs X body (tX X.K bd))
    (hs : ∀ x, foldedSetIterable iter X.env x = pure x := by intro _; rfl) : PS X (.For tg iter body [] pos) (tX X.K (sFor fuel it g bd)) := ps_imp (ps_for hp hc hi hg hb hs) fun D σ H h => by
  obtain ⟨ρ, ω, c, hr, hs, q⟩ := h
  obtain ⟨s, c1, e1, q⟩ := GotS.run q
  refine tG_in hr hs e1 fun J H1 ρ1 p1 hr1 hs1 sj => ?_
  refine ⟨fun i m σ' H' => ∃ ρ' ω' c', RelH X.K ρ' H' c' ∧ RelS X.K ρ' H' ω' σ' ∧ SrcAt X.K ρ' H' s J ∧ GotS X.K (loopS s g bd m i ω' c') ρ' H' D, ⟨fuel, ρ1, ω, c1, hr1, hs1, sj, q.after p1⟩, ?_⟩
  rintro i m σ' H' ⟨ρ', ω', c', hr', hs', sj', q'⟩
  cases m with
  | zero => exact q'.elim
  | succ n =>
    have st := src_step hr' sj' i
    have q' : GotS X.K (match stepS s i c' with
      | .stop => .nx ω' c'
      | .no => .no
      | .item w => match g w ω' c' with
        | .no => .no
        | .ok ω1 c1 => match bd ω1 c1 with
          | .nx ω2 c2 => loopS s g bd n (i + 1) ω2 c2
          | .ct ω2 c2 => loopS s g bd n (i + 1) ω2 c2
          | .bk ω2 c2 => .nx ω2 c2
          | .rt w c2 => .rt w c2
          | .no => .no) ρ' H' D := q'
    cases e2 : stepS s i c' with
    | no => rw [e2] at q'; exact q'.elim
    | stop =>
      rw [e2] at q' st
      exact .inl ⟨st, q' σ' H' ρ' Post.refl hr' hs'⟩
    | item w =>
      rw [e2] at q' st
      obtain ⟨go, st⟩ := st
      refine .inr ⟨go, fun σ2 H2 => ∃ ρ2 ω2 c2, RelH X.K ρ2 H2 c2 ∧ RelS X.K ρ2 H2 ω2 σ2 ∧ SrcAt X.K ρ2 H2 s J ∧ GotS X.K (loopS s g bd n (i + 1) ω2 c2) ρ2 H2 D, fun σ2 H2 z => ⟨n, Nat.lt_succ_self n, z⟩, fun x H2 y => ?_⟩
      obtain ⟨p2, hr2, rx⟩ := st x H2 y
      have q' : GotS X.K (match g w ω' c' with
        | .no => .no
        | .ok ω1 c1 => match bd ω1 c1 with
          | .nx ω2 c2 => loopS s g bd n (i + 1) ω2 c2
          | .ct ω2 c2 => loopS s g bd n (i + 1) ω2 c2
          | .bk ω2 c2 => .nx ω2 c2
          | .rt w c2 => .rt w c2
          | .no => .no) ρ' H' D := q'
      refine ⟨ρ', w, ω', c', hr2, rx, hs'.mono hr' p2, ?_⟩
      cases e3 : g w ω' c' with
      | no => rw [e3] at q'; exact q'.elim
      | ok ω3 c3 =>
        rw [e3] at q'
        intro σ3 H3 ρ3 p3 hr3 hs3
        have p13 := p2.trans p3
        have q' : GotS X.K (match bd ω3 c3 with
          | .nx ω2 c2 => loopS s g bd n (i + 1) ω2 c2
          | .ct ω2 c2 => loopS s g bd n (i + 1) ω2 c2
          | .bk ω2 c2 => .nx ω2 c2
          | .rt w c2 => .rt w c2
          | .no => .no) ρ' H' D := q'
        have sj3 := sj'.mono hr' p13
        refine ⟨ρ3, ω3, c3, hr3, hs3, ?_⟩
        cases e4 : bd ω3 c3 with
        | nx ω4 c4 =>
          rw [e4] at q'
          exact fun σ4 H4 ρ4 p4 hr4 hs4 => ⟨ρ4, ω4, c4, hr4, hs4, sj3.mono hr3 p4, GotS.after q' (p13.trans p4)⟩
        | ct ω4 c4 =>
          rw [e4] at q'
          exact fun σ4 H4 ρ4 p4 hr4 hs4 => ⟨ρ4, ω4, c4, hr4, hs4, sj3.mono hr3 p4, GotS.after q' (p13.trans p4)⟩
        | bk ω4 c4 =>
          rw [e4] at q'
          exact fun σ4 H4 ρ4 p4 hr4 hs4 => q' σ4 H4 ρ4 (p13.trans p4) hr4 hs4
        | rt w4 c4 =>
          rw [e4] at q'
          exact fun v4 H4 ρ4 p4 hr4 hs4 => q' v4 H4 ρ4 (p13.trans p4) hr4 hs4
        | no => rw [e4] at q'; exact q'.elim

/-! ### comprehensions -/
noncomputable def wipeW (ω : Sl) : List Nat → Sl
  | [] => ω
  | v :: vs => setK none (wipeW ω vs) v
theorem wipe_rel {K : PySem.W.Frag} {ρ : List Addr} {H : Hp} {ω : Sl} {σ : L2.St} (r : RelS K ρ H ω σ) : ∀ vs : List Nat, RelS K ρ H (wipeW ω vs) (wipe σ vs)
  | [] => r
  | v :: vs => (wipe_rel r vs).unsetK v none
/-- a comprehension's target: names of the block alone -/
noncomputable def Gc (K : PySem.W.Frag) (vs : List Nat) (g : TG) (ge : EvG) : Prop := ∀ (ρ : List Addr) (H : Hp) (c : Ch) (w : W) (v : V) (ω : Sl) (σ : L2.St) (Q : L2.St → Hp → Prop), RelH K ρ H c → Rp K ρ H w v → RelS K ρ H ω σ →
  Got K (fun ρ H ω1 σ1 => RelS K ρ H ω1 σ1 ∧ wipe σ1 vs = wipe σ vs) (ge w ω c) ρ H Q → g v σ H Q
noncomputable def Gcs (K : PySem.W.Frag) (vs : List Nat) (g : TGs) (ge : EvGs) : Prop := ∀ (ρ : List Addr) (H : Hp) (c : Ch) (ws : List W) (us : List V) (ω : Sl) (σ : L2.St) (Q : L2.St → Hp → Prop), RelH K ρ H c → RpL K ρ H ws us → RelS K ρ H ω σ →
  Got K (fun ρ H ω1 σ1 => RelS K ρ H ω1 σ1 ∧ wipe σ1 vs = wipe σ vs) (ge ws ω c) ρ H Q → g us σ H Q
theorem wipe_set_comm {σ : L2.St} {x : Option V} {j : Nat} : ∀ {vs : List Nat}, j ∈ vs → wipe (σ.set j x) vs = wipe σ vs
  | v :: vs, h => by
    have e1 : wipe (σ.set j x) (v :: vs) = (wipe (σ.set j x) vs).set v none := rfl
    have e2 : wipe σ (v :: vs) = (wipe σ vs).set v none := rfl
    rw [e1, e2]
    by_cases hm : j ∈ vs
    · rw [wipe_set_comm hm]
    · have hj : j = v := by
        rcases List.mem_cons.mp h with z | z
        · exact z
        · exact absurd z hm
      subst hj
      rw [wipe_set_out hm, List.set_set]
where
  wipe_set_out {σ : L2.St} {x : Option V} {j : Nat} : ∀ {vs : List Nat}, j ∉ vs → wipe (σ.set j x) vs = (wipe σ vs).set j x
    | [], _ => rfl
    | v :: vs, h => by
      have e1 : wipe (σ.set j x) (v :: vs) = (wipe (σ.set j x) vs).set v none := rfl
      have e2 : wipe σ (v :: vs) = (wipe σ vs).set v none := rfl
      rw [e1, e2, wipe_set_out (fun z => h (List.mem_cons_of_mem _ z)), List.set_comm _ _ (fun z => h (by rw [z]; exact List.mem_cons_self))]
section
variable {K : PySem.W.Frag} {vs : List Nat}
theorem gc_name {i : Nat} (h : i ∈ vs) : Gc K vs (gName i) (gN i) := fun ρ H c w v ω σ Q hr rx hs g => g _ H ρ Post.refl hr ⟨hs.setK rx i, wipe_set_comm h⟩
theorem gcs_nil : Gcs K vs gNil gsNil := fun ρ H c ws us ω σ Q hr rx hs g => by
  cases rx with
  | nil => exact ⟨rfl, g σ H ρ Post.refl hr ⟨hs, rfl⟩⟩
  | cons _ _ => exact g.elim
theorem gcs_cons {g1 : TG} {g2 : TGs} {e1 : EvG} {e2 : EvGs} (h1 : Gc K vs g1 e1) (h2 : Gcs K vs g2 e2) : Gcs K vs (gCons g1 g2) (gsCons e1 e2) := fun ρ H c ws us ω σ Q hr rx hs g => by
  cases rx with
  | nil => exact g.elim
  | @cons w ws v us r1 r2 =>
    obtain ⟨ω1, c1, e, g⟩ := Got.bind g
    refine ⟨v, us, rfl, h1 ρ H c w v ω σ _ hr r1 hs ?_⟩
    rw [e]
    intro σ1 H1 ρ1 p1 hr1 ⟨hs1, hw⟩
    have g := g.after p1
    rw [← hw] at g
    exact h2 ρ1 H1 c1 ws us ω1 σ1 Q hr1 (r2.mono hr p1) hs1 g
theorem gc_tup {g : TGs} {e : EvGs} {n : Nat} (h : Gcs K vs g e) : Gc K vs (gTup K n g) (gT n e) := fun ρ H c w v ω σ Q hr rx hs q => by
  cases rx with
  | @tup ws us a s l =>
    have q : Got K (fun ρ H ω1 σ1 => RelS K ρ H ω1 σ1 ∧ wipe σ1 vs = wipe σ vs) (match Nat.beq ws.length n with | true => e ws ω c | false => .no) ρ H Q := q
    cases e2 : Nat.beq ws.length n with
    | false => rw [e2] at q; exact q.elim
    | true =>
      rw [e2] at q
      exact ⟨a, us, rfl, s, by rw [← l.length]; exact Nat.eq_of_beq_eq_true e2, h ρ H c ws us ω σ Q hr l hs q⟩
  | _ => exact q.elim
end
noncomputable def loopC (s : Src) (g : EvG) (t : EvB) (e : Ev) (ω : Sl) (k : Nat) (n : Nat) : Nat → Ch → R W := Nat.rec (motive := fun _ => Nat → Ch → R W) (fun _ _ => .no) (fun _ ih i c => match stepS s i c with
    | .stop => .ok (.ref k) c
    | .no => .no
    | .item w => match g w ω c with
      | .no => .no
      | .ok ω1 c1 => match t ω1 c1 with
        | .no => .no
        | .ok false c2 => ih (i + 1) c2
        | .ok true c2 => match e ω1 c2 with
          | .no => .no
          | .ok y c3 => match (c3.get k) with
            | none => .no
            | some acc => match Nat.blt (lenK acc) 100000 with
              | true => ih (i + 1) (c3.set k (appK acc [y]))
              | false => .no) n
noncomputable def eLc (fuel : Nat) (vs : List Nat) (it : EvI) (g : EvG) (t : EvB) (e : Ev) : Ev := fun ω c => (it ω c).bind fun s c1 => loopC s g t e (wipeW ω vs) c1.length fuel 0 (c1.push [])
noncomputable def bYes : EvB := fun _ c => .ok true c
theorem tV_lc {K : PySem.W.Frag} {fuel : Nat} {vs : List Nat} {it : EvI} {gt : TG} {g : EvG} {t : EvB} {e : Ev} (hg : Gc K vs gt g) {σ : L2.St} {H : Hp} {Q : VK} (h : tV K (eLc fuel vs it g t e) σ H Q) : tLc (tJ K it) gt (tW K t) (tV K e) vs σ H Q := by
  obtain ⟨ρ, ω, c, hr, hs, q⟩ := h
  obtain ⟨s, c1, e1, q⟩ := Got.bind q
  refine tG_in hr hs e1 fun J H1 ρ1 p1 hr1 hs1 sj => fun D hD => ?_
  have po : Post ρ1 H1 (ρ1 ++ [D]) (upd H1 D (.lst [])) := post_new hD
  have hk : (ρ1 ++ [D])[c1.length]? = some D := by
    rw [← hr1.len, List.getElem?_append_right (Nat.le_refl _)]
    simp
  refine ⟨fun i m H' => ∃ ρ' c', RelH K ρ' H' c' ∧ RelS K ρ' H' (wipeW ω vs) (wipe σ vs) ∧ SrcAt K ρ' H' s J ∧ ρ'[c1.length]? = some D ∧ Got K (Rp K) (loopC s g t e (wipeW ω vs) c1.length m i c') ρ' H' Q,
    ⟨fuel, _, _, hr1.new hD .nil, (wipe_rel hs1 vs).mono hr1 po, sj.mono hr1 po, hk, q.after (p1.trans po)⟩, ?_⟩
  rintro i m H' ⟨ρ', c', hr', hs', sj', hk', q'⟩
  cases m with
  | zero => exact q'.elim
  | succ n =>
    have st := src_step hr' sj' i
    have q' : Got K (Rp K) (match stepS s i c' with
      | .stop => .ok (.ref c1.length) c'
      | .no => .no
      | .item w => match g w (wipeW ω vs) c' with
        | .no => .no
        | .ok ω1 c2 => match t ω1 c2 with
          | .no => .no
          | .ok false c2 => loopC s g t e (wipeW ω vs) c1.length n (i + 1) c2
          | .ok true c2 => match e ω1 c2 with
            | .no => .no
            | .ok y c3 => match (c3.get (c1.length)) with
              | none => .no
              | some acc => match Nat.blt (lenK acc) 100000 with
                | true => loopC s g t e (wipeW ω vs) c1.length n (i + 1) (c3.set c1.length (appK acc [y]))
                | false => .no) ρ' H' Q := q'
    cases e2 : stepS s i c' with
    | no => rw [e2] at q'; exact q'.elim
    | stop =>
      rw [e2] at q' st
      exact .inl ⟨st, q' (.ref D) H' ρ' Post.refl hr' (.ref hk')⟩
    | item w =>
      rw [e2] at q' st
      obtain ⟨go, st⟩ := st
      refine .inr ⟨go, fun H2 => ∃ ρ2 c2, RelH K ρ2 H2 c2 ∧ RelS K ρ2 H2 (wipeW ω vs) (wipe σ vs) ∧ SrcAt K ρ2 H2 s J ∧ ρ2[c1.length]? = some D ∧ Got K (Rp K) (loopC s g t e (wipeW ω vs) c1.length n (i + 1) c2) ρ2 H2 Q, fun H2 z => ⟨n, Nat.lt_succ_self n, z⟩, fun x H2 y => ?_⟩
      obtain ⟨p2, hr2, rx⟩ := st x H2 y
      refine hg ρ' H2 c' w x (wipeW ω vs) (wipe σ vs) _ hr2 rx (hs'.mono hr' p2) ?_
      have q' : Got K (Rp K) (match g w (wipeW ω vs) c' with
        | .no => .no
        | .ok ω1 c2 => match t ω1 c2 with
          | .no => .no
          | .ok false c2 => loopC s g t e (wipeW ω vs) c1.length n (i + 1) c2
          | .ok true c2 => match e ω1 c2 with
            | .no => .no
            | .ok y c3 => match (c3.get (c1.length)) with
              | none => .no
              | some acc => match Nat.blt (lenK acc) 100000 with
                | true => loopC s g t e (wipeW ω vs) c1.length n (i + 1) (c3.set c1.length (appK acc [y]))
                | false => .no) ρ' H' Q := q'
      cases e3 : g w (wipeW ω vs) c' with
      | no => rw [e3] at q'; exact q'.elim
      | ok ω3 c3 =>
        rw [e3] at q'
        intro σ3 H3 ρ3 p3 hr3 ⟨hs3, hw3⟩
        have p13 := p2.trans p3
        have wipe2 : ∀ us : List Nat, wipe (wipe σ vs) us = wipe (wipe σ vs) us := fun _ => rfl
        refine ⟨hw3.trans (wipe_wipe σ vs), ?_⟩
        have q' : Got K (Rp K) (match t ω3 c3 with
          | .no => .no
          | .ok false c2 => loopC s g t e (wipeW ω vs) c1.length n (i + 1) c2
          | .ok true c2 => match e ω3 c2 with
            | .no => .no
            | .ok y c3 => match (c3.get (c1.length)) with
              | none => .no
              | some acc => match Nat.blt (lenK acc) 100000 with
                | true => loopC s g t e (wipeW ω vs) c1.length n (i + 1) (c3.set c1.length (appK acc [y]))
                | false => .no) ρ' H' Q := q'
        have hs0 := hs'.mono hr' p13
        have sj3 := sj'.mono hr' p13
        have hk3 := p13.get hk'
        cases e4 : t ω3 c3 with
        | no => rw [e4] at q'; exact q'.elim
        | ok b c4 =>
          rw [e4] at q'
          refine tG_in hr3 hs3 e4 fun b' H4 ρ4 p4 hr4 hs4 rb => ?_
          have rb : b = b' := rb
          subst rb
          have p14 := p13.trans p4
          cases b with
          | false => exact ⟨ρ4, c4, hr4, hs0.mono hr3 p4, sj3.mono hr3 p4, p4.get hk3, Got.after q' p14⟩
          | true =>
            rw [if_pos rfl]
            have q' : Got K (Rp K) (match e ω3 c4 with
              | .no => .no
              | .ok y c3 => match (c3.get (c1.length)) with
                | none => .no
                | some acc => match Nat.blt (lenK acc) 100000 with
                  | true => loopC s g t e (wipeW ω vs) c1.length n (i + 1) (c3.set c1.length (appK acc [y]))
                  | false => .no) ρ' H' Q := q'
            cases e5 : e ω3 c4 with
            | no => rw [e5] at q'; exact q'.elim
            | ok yw c5 =>
              rw [e5] at q'
              refine tG_in hr4 hs4 e5 fun yv H5 ρ5 p5 hr5 hs5 ry => ?_
              have q' : Got K (Rp K) (match (c5.get (c1.length)) with
                | none => .no
                | some acc => match Nat.blt (lenK acc) 100000 with
                  | true => loopC s g t e (wipeW ω vs) c1.length n (i + 1) (c5.set c1.length (appK acc [yw]))
                  | false => .no) ρ' H' Q := q'
              have hk5 := p5.get (p4.get hk3)
              cases e6 : (c5.get (c1.length)) with
              | none => rw [e6] at q'; exact q'.elim
              | some acc =>
                rw [e6] at q'
                have q' : Got K (Rp K) (match Nat.blt (lenK acc) 100000 with
                  | true => loopC s g t e (wipeW ω vs) c1.length n (i + 1) (c5.set c1.length (appK acc [yw]))
                  | false => .no) ρ' H' Q := q'
                cases e7 : Nat.blt (lenK acc) 100000 with
                | false => rw [e7] at q'; exact q'.elim
                | true =>
                  rw [e7] at q'
                  obtain ⟨_, us, z, _, hA, rv⟩ := hr5.lst (.ref hk5) e6
                  cases z
                  rw [appK_eq] at q'
                  have hl : acc.length < 100000 := by rw [Nat.blt_eq, lenK_eq] at e7; exact e7
                  rw [rv.length] at hl
                  have p6 : Post ρ5 H5 ρ5 (upd H5 D (.lst (us ++ [yv]))) := post_set hA (List.mem_of_getElem? hk5)
                  exact ⟨us, hA, Nat.lt_of_lt_of_le hl (by decide), ρ5, _, hr5.put hk5 (rv.append (.cons ry .nil)), ((hs0.mono hr3 p4).mono hr4 p5).mono hr5 p6, ((sj3.mono hr3 p4).mono hr4 p5).mono hr5 p6, hk5, Got.after q' ((p14.trans p5).trans p6)⟩
where
  wipe_wipe (σ : L2.St) (vs : List Nat) : wipe (wipe σ vs) vs = wipe σ vs := by
    have key : ∀ (us : List Nat), (∀ u ∈ us, u ∈ vs) → wipe (wipe σ us) vs = wipe σ vs := by
      intro us
      induction us with
      | nil => intro _; rfl
      | cons u us ih =>
        intro h
        have e : wipe σ (u :: us) = (wipe σ us).set u none := rfl
        rw [e, wipe_set_comm (h u List.mem_cons_self)]
        exact ih fun z hz => h z (List.mem_cons_of_mem _ hz)
    exact key vs fun _ h => h
theorem q_lc {X : Cx} {elt tg iter : Expr} {ifs : List Expr} {scope : Scope} {pos : Pos} {it : EvI} {gt : TG} {g : EvG} {t : EvB} {e : Ev} (fuel : Nat) (own : List (Str × Nat)) (hc : X.calm = true) (hN : X.N.Nodup) (hi : PI X tg iter (tJ X.K it)) (ok : BlkOk X.N X.env.scope scope own) (hgc : Gc X.K (own.map (·.2)) gt g)
    (hg : ∀ (s : Shared) (H : Hp) (C : Addr) (cl : List (Str × Addr)) (fp : List Addr), PG (X.blk s H scope (compEnvC scope cl C X.env) fp) tg gt)
    (ht : ∀ (s : Shared) (H : Hp) (C : Addr) (cl : List (Str × Addr)) (fp : List Addr), PTs (X.blk s H scope (compEnvC scope cl C X.env) fp) ifs (tW X.K t))
    (he : ∀ (s : Shared) (H : Hp) (C : Addr) (cl : List (Str × Addr)) (fp : List Addr), PE (X.blk s H scope (compEnvC scope cl C X.env) fp) elt (tV X.K e)) (hs : ∀ x, foldedSetIterable iter X.env x = pure x := by intro _; rfl) :
    PE X (.ListComp elt [⟨tg, iter, ifs, 0⟩] scope pos) (tV X.K (eLc fuel (own.map (·.2)) it g t e)) := pe_imp (pe_lc hc hN hi ok hg ht he hs) fun σ H Q h => tV_lc hgc h
theorem ts_nil {X : Cx} : PTs X [] (tW X.K bYes) := ⟨fun pins s σ H Q I h => by
  obtain ⟨ρ, ω, c, hr, hs, g⟩ := h
  exact pts_nil.run pins s σ H Q I (g true H ρ Post.refl hr rfl)⟩
end Sm
/-! Sm7: statements run on a small heap of their own; calls by keywords -/
namespace Sm
open PySem PySem.Spec PyProof.Rows L2

noncomputable def keepF (ω : Sl) : Sl := ω.map fun o => match o with
  | some w => match flatA 9 w with
    | true => some w
    | false => none
  | none => none
noncomputable def backF (n : Nat) (ω : Sl) : Sl := ω.map fun o => match o with
  | some (.ref 0) => some (.ref n)
  | some w => match flat 9 w with
    | true => some w
    | false => none
  | none => none
noncomputable def subEnd (n : Nat) (c : Ch) (r : RS) : RS := match r with
  | .nx ω' c' => match c'.get 0 with
    | some us => match us.all (flat 9) with
      | true => .nx (backF n ω') (c.set n us)
      | false => .no
    | none => .no
  | .rt w c' => match c'.get 0 with
    | some us => match us.all (flat 9) && flat 9 w with
      | true => .rt w (c.set n us)
      | false => .no
    | none => .no
  | _ => .no
/-- the list in slot i alone goes along -/
noncomputable def sSub (i : Nat) (b : EvS) : EvS := fun ω c => match ω[i]? with
  | some (some (.ref n)) => match c.get n with
    | some ws => match ws.all (flat 9) with
      | true => subEnd n c (b ((keepF ω).set i (some (.ref 0))) (Ch.nil.push ws))
      | false => .no
    | none => .no
  | _ => .no
section
variable {K : PySem.W.Frag} {ρ ρ' : List Addr} {H H' : Hp}
theorem keepF_rel (hs : ∀ a, a ∈ ρ' → a ∈ ρ) : ∀ {ω : Sl} {σ : L2.St}, RelS K ρ H ω σ → RelS K ρ' H (keepF ω) σ
  | _, _, .nil => .nil
  | _, _, .free t => .free (keepF_rel hs t)
  | _, _, .cons (w := w) r t => by
    show RelS K ρ' H ((match flatA 9 w with | true => some w | false => none) :: keepF _) _
    cases e : flatA 9 w with
    | true => exact .cons (flatA_rp hs 9 w _ e r) (keepF_rel hs t)
    | false => exact .free (keepF_rel hs t)
theorem backF_rel {n : Nat} {a : Addr} (h0 : ρ'[0]? = some a) (hn : ρ[n]? = some a) : ∀ {ω : Sl} {σ : L2.St}, RelS K ρ' H ω σ → RelS K ρ H (backF n ω) σ
  | _, _, .nil => .nil
  | _, _, .free t => .free (backF_rel h0 hn t)
  | _, _, .cons (w := w) r t => by
    have go : ∀ w v, Rp K ρ' H w v → ∀ {x : Option W}, (x = match flat 9 w with | true => some w | false => none) → ∀ {ω : Sl} {σ : L2.St}, RelS K ρ H ω σ → RelS K ρ H (x :: ω) (some v :: σ) := by
      intro w v r x hx ω σ t
      cases e : flat 9 w with
      | true =>
        rw [e] at hx
        subst hx
        exact .cons (flat_rp 9 w _ e r) t
      | false =>
        rw [e] at hx
        subst hx
        exact .free t
    cases r with
    | @ref m b hb =>
      cases m with
      | zero =>
        rw [h0] at hb
        cases hb
        exact .cons (.ref hn) (backF_rel h0 hn t)
      | succ m => exact .free (backF_rel h0 hn t)
    | non => exact go _ _ .non rfl (backF_rel h0 hn t)
    | bl b => exact go _ _ (.bl b) rfl (backF_rel h0 hn t)
    | int b => exact go _ _ (.int b) rfl (backF_rel h0 hn t)
    | str b => exact go _ _ (.str b) rfl (backF_rel h0 hn t)
    | tup s l => exact go _ _ (.tup s l) rfl (backF_rel h0 hn t)
    | emp h => exact go _ _ (.emp h) rfl (backF_rel h0 hn t)
    | mt h1 h2 => exact .free (backF_rel h0 hn t)
    | frz h => exact .free (backF_rel h0 hn t)
theorem one_rel {ws : List W} {vs : List V} {a : Addr} (hf : ws.all (flat 9) = true) (ha : H a = some (.lst vs)) (r : RpL K ρ H ws vs) : RelH K [a] H (Ch.nil.push ws) := by
  refine ⟨rfl, by simp, fun b hb => ?_, fun m us e => ?_⟩
  · rw [List.mem_singleton.mp hb]
    exact ⟨vs, ha⟩
  · rw [Ch.get_push] at e
    by_cases hm : m = Ch.nil.length
    · rw [if_pos hm] at e
      cases e
      exact ⟨a, vs, by rw [hm]; rfl, ha, flatL_rp (fun w v => flat_rp 9 w v) hf r⟩
    · rw [if_neg hm] at e
      cases e
theorem sub_back {c c' : Ch} {ρ0 : List Addr} {n : Nat} {a : Addr} {us : List W} (hr : RelH K ρ H c) (hn : ρ[n]? = some a) (po : Post [a] H ρ0 H') (h0 : RelH K ρ0 H' c') (e : c'.get 0 = some us) (hf : us.all (flat 9) = true) :
    Post ρ H ρ H' ∧ RelH K ρ H' (c.set n us) := by
  have ha : a ∈ ρ := List.mem_of_getElem? hn
  have po2 : Post ρ H ρ H' := ⟨⟨[], by simp, by simp⟩, fun b o hb hnb => po.keep b o hb fun z => hnb (by rw [List.mem_singleton.mp z]; exact ha), po.dom⟩
  obtain ⟨a', vs', e1, e2, e3⟩ := h0.at_ 0 us e
  have e4 : ρ0[0]? = some a := po.get (n := 0) rfl
  rw [e4] at e1
  cases e1
  refine ⟨po2, hr.len, hr.nd, fun b hb => ?_, fun m zs ez => ?_⟩
  · by_cases z : b = a
    · rw [z]
      exact ⟨vs', e2⟩
    · obtain ⟨zs, ez⟩ := hr.mem b hb
      exact ⟨zs, po.keep b _ ez fun y => z (List.mem_singleton.mp y)⟩
  · rw [Ch.get_set] at ez
    by_cases hm : m = n
    · rw [if_pos hm] at ez
      cases ez
      exact ⟨a, vs', by rw [hm]; exact hn, e2, flatL_rp (fun w v => flat_rp 9 w v) hf e3⟩
    · rw [if_neg hm] at ez
      obtain ⟨b, xs, e5, e6, e7⟩ := hr.at_ m zs ez
      exact ⟨b, xs, e5, po.keep b _ e6 (fun y => hm (hr.inj (by rw [e5, List.mem_singleton.mp y]) hn)), e7.mono hr po2⟩
end
theorem set_self {α : Type} : ∀ {l : List α} {i : Nat} {x : α}, l[i]? = some x → l.set i x = l
  | [], _, _, h => by simp at h
  | y :: l, 0, x, h => by
    simp at h
    rw [h]
    rfl
  | y :: l, i + 1, x, h => by
    rw [List.set_cons_succ, set_self (by simpa using h)]
theorem x_sub {X : Cx} {ss : List Stmt} {b : EvS} (i : Nat) (h : PSs X ss (tX X.K b)) : PSs X ss (tX X.K (sSub i b)) := pss_imp h fun D σ H h => by
  obtain ⟨ρ, ω, c, hr, hs, g⟩ := h
  unfold sSub at g
  cases e0 : ω[i]? with
  | none => rw [e0] at g; exact g.elim
  | some o =>
    cases o with
    | none => rw [e0] at g; exact g.elim
    | some w =>
      rw [e0] at g
      cases w with
      | ref n =>
        have g : GotS X.K (match c.get n with
          | some ws => match ws.all (flat 9) with
            | true => subEnd n c (b ((keepF ω).set i (some (.ref 0))) (Ch.nil.push ws))
            | false => .no
          | none => .no) ρ H D := g
        cases e1 : c.get n with
        | none => rw [e1] at g; exact g.elim
        | some ws =>
          rw [e1] at g
          have g : GotS X.K (match ws.all (flat 9) with
            | true => subEnd n c (b ((keepF ω).set i (some (.ref 0))) (Ch.nil.push ws))
            | false => .no) ρ H D := g
          cases e2 : ws.all (flat 9) with
          | false => rw [e2] at g; exact g.elim
          | true =>
            rw [e2] at g
            have g : GotS X.K (subEnd n c (b ((keepF ω).set i (some (.ref 0))) (Ch.nil.push ws))) ρ H D := g
            obtain ⟨v, ev, rv⟩ := hs.get e0
            obtain ⟨a, vs, z, hn, ha, rl⟩ := hr.lst rv e1
            subst z
            have ha0 : ∀ x, x ∈ [a] → x ∈ ρ := fun x hx => by
              rw [List.mem_singleton.mp hx]
              exact List.mem_of_getElem? hn
            have hs0 : RelS X.K [a] H ((keepF ω).set i (some (.ref 0))) σ := by
              have q := (keepF_rel ha0 hs).set (w := .ref 0) (v := .ref a) (.ref rfl) i
              rwa [set_self ev] at q
            refine ⟨[a], _, _, one_rel e2 ha rl, hs0, ?_⟩
            cases e3 : b ((keepF ω).set i (some (.ref 0))) (Ch.nil.push ws) with
            | nx ω' c' =>
              rw [e3] at g
              intro σ' H' ρ0 po hr0 hs1
              have g : GotS X.K (match c'.get 0 with
                | some us => match us.all (flat 9) with
                  | true => .nx (backF n ω') (c.set n us)
                  | false => .no
                | none => .no) ρ H D := g
              cases e4 : c'.get 0 with
              | none => rw [e4] at g; exact g.elim
              | some us =>
                rw [e4] at g
                have g : GotS X.K (match us.all (flat 9) with
                  | true => .nx (backF n ω') (c.set n us)
                  | false => .no) ρ H D := g
                cases e5 : us.all (flat 9) with
                | false => rw [e5] at g; exact g.elim
                | true =>
                  rw [e5] at g
                  obtain ⟨po2, hr2⟩ := sub_back hr hn po hr0 e4 e5
                  exact g σ' H' ρ po2 hr2 (backF_rel (po.get (n := 0) rfl) hn hs1)
            | rt w c' =>
              rw [e3] at g
              intro v' H' ρ0 po hr0 rw0
              have g : GotS X.K (match c'.get 0 with
                | some us => match us.all (flat 9) && flat 9 w with
                  | true => .rt w (c.set n us)
                  | false => .no
                | none => .no) ρ H D := g
              cases e4 : c'.get 0 with
              | none => rw [e4] at g; exact g.elim
              | some us =>
                rw [e4] at g
                have g : GotS X.K (match us.all (flat 9) && flat 9 w with
                  | true => .rt w (c.set n us)
                  | false => .no) ρ H D := g
                cases e5 : us.all (flat 9) && flat 9 w with
                | false => rw [e5] at g; exact g.elim
                | true =>
                  rw [e5] at g
                  obtain ⟨e6, e7⟩ := Bool.and_eq_true_iff.mp e5
                  obtain ⟨po2, hr2⟩ := sub_back hr hn po hr0 e4 e6
                  exact g v' H' ρ po2 hr2 (flat_rp 9 w v' e7 rw0)
            | bk ω' c' => rw [e3] at g; exact g.elim
            | ct ω' c' => rw [e3] at g; exact g.elim
            | no => rw [e3] at g; exact g.elim
      | _ => exact g.elim

theorem q_gint {X : Cx} {x : Str} {i : Int} {pos : Pos} (h : ∃ t, X.mg x = some (.int i t)) (hg : Gl X x := by rfl) (hd : (x == ("__debug__" : Str)) = false := by decide) : PE X (.Name x pos) (tV X.K (eC (.int i))) := by
  obtain ⟨t, h⟩ := h
  exact q_glob (v := .int i) hg h ⟨t, rfl⟩ (fun _ _ => .int i) hd
/-! ### f(k = v, ..), all by name -/
def gK {α : Type} (us ws : List α) : List α := match us with
  | [] => ws
  | _ :: _ => []
theorem gK_rel {vs : List V} {us : List Value} {zs : List V} {ws : List Value} (h : Vals vs us) (h' : Vals zs ws) : Vals (gK vs zs) (gK us ws) := by
  cases h with
  | nil => exact h'
  | cons _ _ => exact .nil
structure HasK (P : Program) (w : World) (K : PySem.W.Frag) (mg : Str → Option Value) (base : Heap) (k : Nat) (x : Str) (ks : List Str) (f : FC) : Prop where
  ex : ∃ (CX : CXT) (fa : Addr) (fd : FuncData), FnOk P w K mg base CX k fa fd ks (spR K ks.length f) ∧ mg x = some (.ref fa) ∧ PySem.W.keepIn K (.ref fa) = true ∧ KBinds K fd ks ks gK gK ∧ ∀ X : Cx, X.prog = P → X.w = w → Passes CX X E0
theorem HasK.alone {P : Program} {w : World} {K : PySem.W.Frag} {mg : Str → Option Value} {base : Heap} {k : Nat} {x : Str} {ks : List Str} {f : FC} (h : HasK P w K mg base k x ks f) : HasK P w K mg base k x ks (Sm.alone f) := by
  obtain ⟨CX, fa, fd, F, r⟩ := h.ex
  exact ⟨CX, fa, fd, F.imp fun vs H Q E q => spR_alone q, r⟩
section
variable {X : Cx} {x : Str} {p pos : Pos} {ra : EvA} {k : Nat} {f : FC} {ks : List Str} {kws : List Keyword} {e : Expr} {ea : Ev} {nm : Option Str} {kpos : Pos}
theorem k_nil : PK X [] (tU X.K aNil) := ⟨fun pos pins s σ H Q I h => by
  obtain ⟨ρ, ω, c, hr, hs, g⟩ := h
  exact pk_nil.run pos pins s σ H Q I (g [] H ρ Post.refl hr .nil)⟩
theorem k_cons (ha : PE X e (tV X.K ea)) (hr : PK X kws (tU X.K ra)) : PK X (⟨nm, e, kpos⟩ :: kws) (tU X.K (aCons ea ra)) := ⟨fun pos pins s σ H Q I h => by
  refine (pk_cons (nm := nm) (kpos := kpos) ha hr).run pos pins s σ H Q I ?_
  obtain ⟨ρ, ω, c, hr, hs, g⟩ := h
  obtain ⟨x, c1, e1, g⟩ := Got.bind g
  refine tG_in hr hs e1 fun v H1 ρ1 p1 hr1 hs1 rx => ?_
  obtain ⟨xs, c2, e2, g⟩ := Got.bind g
  exact tG_in hr1 hs1 e2 fun vs H2 ρ2 p2 hr2 hs2 rxs => g (v :: vs) H2 ρ2 (p1.trans p2) hr2 (.cons (rx.mono hr1 p2) rxs)⟩
theorem q_callk (G : HasK X.prog X.w X.K X.mg X.base k x ks f) (hr : Room k X.A) (hkw : PK X kws (tU X.K ra)) (hg : Gl X x := by rfl) (hdb : (x == ("__debug__" : Str)) = false := by decide)
    (hall : (backToKw pos (keywordEach kws X.env)).all (·.1.isSome) = true := by rfl) (hks : (backToKw pos (keywordEach kws X.env)).filterMap (·.1) = ks := by rfl)
    (hpl : ((backTo pos (starEach [] X.env)).any (·.1) || (backToKw pos (keywordEach kws X.env)).any (·.1.isNone)) = false := by rfl) : PE X (.Call (.Name x p) [] kws pos) (tV X.K (eCall ks.length f ra)) := by
  obtain ⟨CX, fa, fd, F, hm, hk, hb, hx⟩ := G.ex
  refine ⟨fun pins s σ H Q I h => ?_⟩
  refine wpAny_Call_Name_kw (ld_glob I hg hm ?_ hdb)
  obtain ⟨ρ, ω, c, hr', hs', g⟩ := h
  obtain ⟨ws, c1, e1, g⟩ := Got.bind g
  refine PySem.W.callWith_KW0 (h₀ := X.base) I.ok.mod.kin hk hall (thn (hkw.run pos pins s σ H (fun vs H1 => spR X.K ks.length f vs H1 Q E0) I ?_) fun us s2 ⟨zs, H2, I2, rz, q2⟩ => ⟨I2.kIn, ?_⟩) hpl
  · refine tG_in hr' hs' e1 fun vs H1 ρ1 p1 hr1 hs1 rx => ?_
    cases e2 : Nat.beq ws.length ks.length with
    | false => rw [e2] at g; exact g.elim
    | true =>
      rw [e2] at g
      exact ⟨ρ1, ws, c1, hr1, rx, Nat.eq_of_beq_eq_true e2, g.after p1⟩
  · rw [hks]
    exact run_fnk (us := []) (vs := []) F hr hb (hx X rfl rfl) I2 .nil rz q2
end
section
variable {P : Program} {w : World} {K : PySem.W.Frag} {mg : Str → Option Value} {base : Heap}
theorem hask_of {x : Str} {params : Arguments} {body : List Stmt} {scope : Scope} {f : Addr} {fd : FuncData} {ks : List Str} {k : Nat} {r : FC} (F : FunD K x x params body scope [] [] f fd) (G : FnOk P w K mg base CX0 k f fd ks (spR K ks.length r)) (hm : mg x = some (.ref f))
    (hn : ks ≠ []) (hb : ∀ (kV doc pm : Value) (an : Option Addr) (cdv ct : Value) (ws : List Value), ws.length = ks.length → bindArgs (PySem.W.fnOf x x params body scope .none kV doc pm an cdv ct) ⟨[], ks.zip ws⟩ = pure (ks.zip ws)) : HasK P w K mg base k x ks r := by
  refine ⟨CX0, f, fd, G, hm, F.kp, ⟨fun s us ws _ hl => ?_, gK_rel⟩, fun _ _ _ => pass0⟩
  cases us with
  | cons u us => exact absurd (List.length_eq_zero_iff.mp hl.symm) hn
  | nil =>
    obtain ⟨oc, od, dV, kV, doc, pm, an, cdv, ct, osl, rfl, lk, hcd, hD, hK⟩ := F.ex
    rcases hD with ⟨_, rfl⟩ | ⟨e, _⟩
    · exact .of_eq (hb kV doc pm an cdv ct ws hl)
    · exact absurd rfl e
end
end Sm
namespace Sm
open PySem PySem.Spec PyProof.Rows L2
noncomputable def gcdF : FC := fun ws c => match ws with
  | [.int (.ofNat a), .int (.ofNat b)] => match Nat.blt b 400 with
    | true => .ok (.int (.ofNat (Nat.gcd a b))) c
    | false => .no
  | _ => .no
def top (i : Nat) : Stmt := PySem.Challenge.pw_rollrings_k01_least_polynomials_of_order.main.body.getD i (.Pass ⟨0,0,0,0⟩)
abbrev FnP (K : PySem.W.Frag) (x : Str) (st : Stmt) (f : Addr) (fd : FuncData) := FunD K x x (defArgs st) (defBody st) (defScope st) [] [] f fd
section
variable {P : Program} {w : World} {K : PySem.W.Frag} {mg : Str → Option Value} {base : Heap}
theorem pg_n {X : Cx} {x : Str} {pos : Pos} (i : Nat) (hN : X.N.Nodup) (hi : X.N[i]? = some x := by rfl) (hx : Loc X.env.scope x := by first | exact Or.inl rfl | exact Or.inr rfl) (hf : X.fn x = true ∨ X.env.scope.names.lookup x = some .local := by first | exact .inl rfl | exact .inr rfl | assumption) : PG X (.Name x pos) (gName i) := pg_name hN hi hx hf
/-- what the top leaves of names -/
structure Bs (mg : Str → Option Value) : Prop where
  b_abs : mg "abs" = none
  b_all : mg "all" = none
  b_bool : mg "bool" = none
  b_divmod : mg "divmod" = none
  b_enumerate : mg "enumerate" = none
  b_int : mg "int" = none
  b_isinstance : mg "isinstance" = none
  b_len : mg "len" = none
  b_list : mg "list" = none
  b_max : mg "max" = none
  b_range : mg "range" = none
  b_str : mg "str" = none
  b_tuple : mg "tuple" = none
  c_MOST_ORDER : ∃ t, mg "MOST_ORDER" = some (.int 120 t)
/-! is_prime -/
abbrev s_is_prime : Stmt := top 5
theorem sc_is_prime : FnScope ["number", "each"] ["number"] (defScope s_is_prime) := ⟨rfl, rfl, rfl, by decide +kernel, rfl, by decide +kernel, by decide +kernel⟩
noncomputable def b_is_prime : EvS := (sRet (eCB cAll (aCons (eLc 1000 [1] (iR2 (aCons (eC (.int 2)) (aCons (eVar 0) aNil))) (gN 1) bYes (eBin fGt (eBin fMod (eVar 0) (eVar 1)) (eC (.int 0)))) aNil)))
noncomputable def r_is_prime : FC := runF 1 2 b_is_prime
theorem ok_is_prime {f : Addr} {fd : FuncData} (T : Bs mg) (F : FnP K "is_prime" s_is_prime f fd) (hm : mg "is_prime" = some (.ref f)) : Has P w K mg base 1 "is_prime" 1 r_is_prime :=
  has_of F (fn_run F sc_is_prime rfl rfl fun cdv A outer s H E hr =>
      (x_one (x_ret (q_all T.b_all rfl (a_cons (q_lc 1000 [("each", 1)] rfl sc_is_prime.nd (i_rng2 T.b_range (a_cons q_int (a_cons (q_v 0) a_nil))) (blkOk_by (by kernel_rfl)) (gc_name (by decide)) (fun _ _ _ _ _ => (pg_n 1 sc_is_prime.nd)) (fun _ _ _ _ _ => ts_nil) (fun _ _ _ _ _ => (q_cmp op_gt ok_gt (q_mod (q_v 0) (q_v 1)) q_int (nomark _)))) a_nil))))) hm (fun _ _ _ _ _ _ us hl => match us, hl with | [_], _ => rfl)
/-! primes_of -/
abbrev s_primes_of : Stmt := top 4
theorem sc_primes_of : FnScope ["number", "each"] ["number"] (defScope s_primes_of) := ⟨rfl, rfl, rfl, by decide +kernel, rfl, by decide +kernel, by decide +kernel⟩
noncomputable def b_primes_of : EvS := (sRet (eLc 1000 [1] (iR2 (aCons (eC (.int 2)) (aCons (eBin fAdd (eVar 0) (eC (.int 1))) aNil))) (gN 1) (bAnd (toB (eBin fEq (eBin fMod (eVar 0) (eVar 1)) (eC (.int 0)))) (bTru (eCall 1 (alone r_is_prime) (aCons (eVar 1) aNil)))) (eVar 1)))
noncomputable def r_primes_of : FC := runF 1 2 b_primes_of
theorem ok_primes_of {f : Addr} {fd : FuncData} (T : Bs mg) (F : FnP K "primes_of" s_primes_of f fd) (hm : mg "primes_of" = some (.ref f)) (h_is_prime : Has P w K mg base 1 "is_prime" 1 r_is_prime) : Has P w K mg base 2 "primes_of" 1 r_primes_of :=
  has_of F (fn_run F sc_primes_of rfl rfl fun cdv A outer s H E hr =>
      (x_one (x_ret (q_lc 1000 [("each", 1)] rfl sc_primes_of.nd (i_rng2 T.b_range (a_cons q_int (a_cons (q_add (q_v 0) q_int) a_nil))) (blkOk_by (by kernel_rfl)) (gc_name (by decide)) (fun _ _ _ _ _ => (pg_n 1 sc_primes_of.nd)) (fun _ _ _ _ _ => (pts_one (PW.pt (w_and (u_cmp (op_eqA hr.units) ok_eq (q_mod (q_v 0) (q_v 1)) q_int (nomark _)) (w_and1 (u_tru (q_call (h_is_prime.alone) (hr.mono (by first | exact Nat.le_refl _ | omega)) (a_cons (q_v 1) a_nil)))))))) (fun _ _ _ _ _ => (q_v 1)))))) hm (fun _ _ _ _ _ _ us hl => match us, hl with | [_], _ => rfl)
/-! with_one -/
abbrev s_with_one : Stmt := top 6
theorem sc_with_one : FnScope ["row", "many", "found", "at", "each"] ["row", "many"] (defScope s_with_one) := ⟨rfl, rfl, rfl, by decide +kernel, rfl, by decide +kernel, by decide +kernel⟩
noncomputable def b_with_one : EvS := (sSeq (sSet 2 (eBin fMul (eLst (aCons (eC (.int 0)) aNil)) (eBin fAdd (eCB cLen (aCons (eVar 0) aNil)) (eVar 1)))) (sSeq (sFor 1000 (iEn (eVar 0)) (gT 2 (gsCons (gN 3) (gsCons (gN 4) gsNil))) (sSeq (sAsg (eBin fAdd (eBin fIx (eVar 2) (eBin fAdd (eVar 3) (eVar 1))) (eVar 4)) (gSb (eVar 2) (eBin fAdd (eVar 3) (eVar 1)))) (sAsg (eBin fSub (eBin fIx (eVar 2) (eVar 3)) (eVar 4)) (gSb (eVar 2) (eVar 3))))) (sRet (eVar 2))))
noncomputable def r_with_one : FC := runF 2 5 b_with_one
theorem ok_with_one {f : Addr} {fd : FuncData} (T : Bs mg) (F : FnP K "with_one" s_with_one f fd) (hm : mg "with_one" = some (.ref f)) : Has P w K mg base 1 "with_one" 2 r_with_one :=
  has_of F (fn_run F sc_with_one rfl rfl fun cdv A outer s H E hr =>
      (x_cons (x_set (i := 2) sc_with_one.nd (q_mul (q_lst (a_cons q_int a_nil)) (q_add (q_len T.b_len (a_cons (q_v 0) a_nil)) (q_v 1))))
      (x_cons (x_for 1000 PassesOwn.never rfl (i_enum T.b_enumerate (q_v 0)) (g_tup rfl (gs_cons (g_name (i := 3) sc_with_one.nd) (gs_cons (g_name (i := 4) sc_with_one.nd) gs_nil))) (x_cons (x_asg (q_add (q_ix (q_v 2) (q_add (q_v 3) (q_v 1))) (q_v 4)) (g_sub (q_v 2) (q_add (q_v 3) (q_v 1))))
      (x_one (x_asg (q_sub (q_ix (q_v 2) (q_v 3)) (q_v 4)) (g_sub (q_v 2) (q_v 3))))))
      (x_one (x_ret (q_v 2)))))) hm (fun _ _ _ _ _ _ us hl => match us, hl with | [_, _], _ => rfl)
/-! without_one -/
abbrev s_without_one : Stmt := top 7
theorem sc_without_one : FnScope ["row", "many", "found", "at"] ["row", "many"] (defScope s_without_one) := ⟨rfl, rfl, rfl, by decide +kernel, rfl, by decide +kernel, by decide +kernel⟩
noncomputable def b_without_one : EvS := (sSeq (sSet 2 (eLst aNil)) (sSeq (sFor 1000 (iR1 (aCons (eBin fSub (eCB cLen (aCons (eVar 0) aNil)) (eVar 1)) aNil)) (gN 3) (sDrop (eApp (eVar 2) (eBin fSub (eIf (toB (eBin fGe (eVar 3) (eVar 1))) (eBin fIx (eVar 2) (eBin fSub (eVar 3) (eVar 1))) (eC (.int 0))) (eBin fIx (eVar 0) (eVar 3)))))) (sRet (eVar 2))))
noncomputable def r_without_one : FC := runF 2 4 b_without_one
theorem ok_without_one {f : Addr} {fd : FuncData} (T : Bs mg) (F : FnP K "without_one" s_without_one f fd) (hm : mg "without_one" = some (.ref f)) : Has P w K mg base 1 "without_one" 2 r_without_one :=
  has_of F (fn_run F sc_without_one rfl rfl fun cdv A outer s H E hr =>
      (x_cons (x_set (i := 2) sc_without_one.nd (q_lst a_nil))
      (x_cons (x_for 1000 PassesOwn.never rfl (i_rng1 T.b_range (a_cons (q_sub (q_len T.b_len (a_cons (q_v 0) a_nil)) (q_v 1)) a_nil)) (g_name (i := 3) sc_without_one.nd) (x_one (x_drop (q_app (q_v 2) (q_sub (q_if (u_cmp op_ge ok_ge (q_v 3) (q_v 1) (nomark _)) (q_ix (q_v 2) (q_sub (q_v 3) (q_v 1))) q_int) (q_ix (q_v 0) (q_v 3)))))))
      (x_one (x_ret (q_v 2)))))) hm (fun _ _ _ _ _ _ us hl => match us, hl with | [_, _], _ => rfl)
/-! products_of -/
abbrev s_products_of : Stmt := top 8
theorem sc_products_of : FnScope ["primes", "found", "prime", "product", "many"] ["primes"] (defScope s_products_of) := ⟨rfl, rfl, rfl, by decide +kernel, rfl, by decide +kernel, by decide +kernel⟩
noncomputable def b_products_of : EvS := (sSeq (sSet 1 (eLst (aCons (eTup (aCons (eC (.int 1)) (aCons (eC (.int 0)) aNil))) aNil))) (sSeq (sFor 1000 (iSq (eVar 0)) (gN 2) (sSet 1 (eLst (aStar (eVar 1) (aStar (eLc 1000 [3, 4] (iSq (eVar 1)) (gT 2 (gsCons (gN 3) (gsCons (gN 4) gsNil))) bYes (eTup (aCons (eBin fMul (eVar 3) (eVar 2)) (aCons (eBin fAdd (eVar 4) (eC (.int 1))) aNil)))) aNil))))) (sRet (eVar 1))))
noncomputable def r_products_of : FC := runF 1 5 b_products_of
theorem ok_products_of {f : Addr} {fd : FuncData} (T : Bs mg) (F : FnP K "products_of" s_products_of f fd) (hm : mg "products_of" = some (.ref f)) : Has P w K mg base 1 "products_of" 1 r_products_of :=
  has_of F (fn_run F sc_products_of rfl rfl fun cdv A outer s H E hr =>
      (x_cons (x_set (i := 1) sc_products_of.nd (q_lst (a_cons (q_tup (a_cons q_int (a_cons q_int a_nil))) a_nil)))
      (x_cons (x_for 1000 PassesOwn.never rfl (i_seq (q_v 0)) (g_name (i := 2) sc_products_of.nd) (x_one (x_set (i := 1) sc_products_of.nd (q_lst (a_star (q_v 1) (a_star (q_lc 1000 [("product", 3), ("many", 4)] rfl sc_products_of.nd (i_seq (q_v 1)) (blkOk_by (by kernel_rfl)) (gc_tup (gcs_cons (gc_name (by decide)) (gcs_cons (gc_name (by decide)) gcs_nil))) (fun _ _ _ _ _ => (pg_tup rfl (pgs_cons (pg_n 3 sc_products_of.nd) (pgs_cons (pg_n 4 sc_products_of.nd) pgs_nil)))) (fun _ _ _ _ _ => ts_nil) (fun _ _ _ _ _ => (q_tup (a_cons (q_mul (q_v 3) (q_v 2)) (a_cons (q_add (q_v 4) q_int) a_nil))))) a_nil))))))
      (x_one (x_ret (q_v 1)))))) hm (fun _ _ _ _ _ _ us hl => match us, hl with | [_], _ => rfl)
/-! polynomial_by -/
abbrev s_polynomial_by : Stmt := top 9
theorem sc_polynomial_by : FnScope ["order", "row", "products", "product", "many"] ["order"] (defScope s_polynomial_by) := ⟨rfl, rfl, rfl, by decide +kernel, rfl, by decide +kernel, by decide +kernel⟩
noncomputable def b_polynomial_by : EvS := (sSeq (sPar 1 2 (aCons (eLst (aCons (eC (.int 1)) aNil)) (aCons (eCall 1 r_products_of (aCons (eCall 1 r_primes_of (aCons (eVar 0) aNil)) aNil)) aNil))) (sSeq (sFor 1000 (iSq (eVar 2)) (gT 2 (gsCons (gN 3) (gsCons (gN 4) gsNil))) (sSet 1 (eIf (toB (eBin fEq (eBin fMod (eVar 4) (eC (.int 2))) (eC (.int 0)))) (eCall 2 r_with_one (aCons (eVar 1) (aCons (eBin fDiv (eVar 0) (eVar 3)) aNil))) (eVar 1)))) (sSeq (sFor 1000 (iSq (eVar 2)) (gT 2 (gsCons (gN 3) (gsCons (gN 4) gsNil))) (sSet 1 (eIf (toB (eBin fEq (eBin fMod (eVar 4) (eC (.int 2))) (eC (.int 1)))) (eCall 2 r_without_one (aCons (eVar 1) (aCons (eBin fDiv (eVar 0) (eVar 3)) aNil))) (eVar 1)))) (sRet (eCB cTuple (aCons (eVar 1) aNil))))))
noncomputable def r_polynomial_by : FC := runF 1 5 b_polynomial_by
theorem ok_polynomial_by {f : Addr} {fd : FuncData} (T : Bs mg) (F : FnP K "polynomial_by" s_polynomial_by f fd) (hm : mg "polynomial_by" = some (.ref f)) (h_primes_of : Has P w K mg base 2 "primes_of" 1 r_primes_of) (h_products_of : Has P w K mg base 1 "products_of" 1 r_products_of) (h_with_one : Has P w K mg base 1 "with_one" 2 r_with_one) (h_without_one : Has P w K mg base 1 "without_one" 2 r_without_one) : Has P w K mg base 3 "polynomial_by" 1 r_polynomial_by :=
  has_of F (fn_run F sc_polynomial_by rfl rfl fun cdv A outer s H E hr =>
      (x_cons (x_par (i := 1) (j := 2) rfl sc_polynomial_by.nd (a_cons (q_lst (a_cons q_int a_nil)) (a_cons (q_call h_products_of (hr.mono (by first | exact Nat.le_refl _ | omega)) (a_cons (q_call h_primes_of (hr.mono (by first | exact Nat.le_refl _ | omega)) (a_cons (q_v 0) a_nil)) a_nil)) a_nil)))
      (x_cons (x_for 1000 PassesOwn.never rfl (i_seq (q_v 2)) (g_tup rfl (gs_cons (g_name (i := 3) sc_polynomial_by.nd) (gs_cons (g_name (i := 4) sc_polynomial_by.nd) gs_nil))) (x_one (x_set (i := 1) sc_polynomial_by.nd (q_if (u_cmp (op_eqA hr.units) ok_eq (q_mod (q_v 4) q_int) q_int (nomark _)) (q_call h_with_one (hr.mono (by first | exact Nat.le_refl _ | omega)) (a_cons (q_v 1) (a_cons (q_div (q_v 0) (q_v 3)) a_nil))) (q_v 1)))))
      (x_cons (x_for 1000 PassesOwn.never rfl (i_seq (q_v 2)) (g_tup rfl (gs_cons (g_name (i := 3) sc_polynomial_by.nd) (gs_cons (g_name (i := 4) sc_polynomial_by.nd) gs_nil))) (x_one (x_set (i := 1) sc_polynomial_by.nd (q_if (u_cmp (op_eqA hr.units) ok_eq (q_mod (q_v 4) q_int) q_int (nomark _)) (q_call h_without_one (hr.mono (by first | exact Nat.le_refl _ | omega)) (a_cons (q_v 1) (a_cons (q_div (q_v 0) (q_v 3)) a_nil))) (q_v 1)))))
      (x_one (x_ret (q_tuple T.b_tuple (a_cons (q_v 1) a_nil)))))))) hm (fun _ _ _ _ _ _ us hl => match us, hl with | [_], _ => rfl)
/-! _law_primes -/
abbrev s__law_primes : Stmt := top 25
theorem sc__law_primes : FnScope ["order", "p", "q"] ["order"] (defScope s__law_primes) := ⟨rfl, rfl, rfl, by decide +kernel, rfl, by decide +kernel, by decide +kernel⟩
noncomputable def b__law_primes : EvS := (sRet (eLc 1000 [1] (iR2 (aCons (eC (.int 2)) (aCons (eBin fAdd (eVar 0) (eC (.int 1))) aNil))) (gN 1) (bAnd (toB (eBin fEq (eBin fMod (eCB cInt (aCons (eVar 0) aNil)) (eVar 1)) (eC (.int 0)))) (toB (eBin fEq (eLc 1000 [2] (iR2 (aCons (eC (.int 2)) (aCons (eVar 1) aNil))) (gN 2) (toB (eBin fEq (eBin fMod (eCB cInt (aCons (eVar 1) aNil)) (eVar 2)) (eC (.int 0)))) (eVar 2)) (eLst aNil)))) (eVar 1)))
noncomputable def r__law_primes : FC := runF 1 3 b__law_primes
theorem ok__law_primes {f : Addr} {fd : FuncData} (T : Bs mg) (F : FnP K "_law_primes" s__law_primes f fd) (hm : mg "_law_primes" = some (.ref f)) : Has P w K mg base 1 "_law_primes" 1 r__law_primes :=
  has_of F (fn_run F sc__law_primes rfl rfl fun cdv A outer s H E hr =>
      (x_one (x_ret (q_lc 1000 [("p", 1)] rfl sc__law_primes.nd (i_rng2 T.b_range (a_cons q_int (a_cons (q_add (q_v 0) q_int) a_nil))) (blkOk_by (by kernel_rfl)) (gc_name (by decide)) (fun _ _ _ _ _ => (pg_n 1 sc__law_primes.nd)) (fun _ _ _ _ _ => (pts_one (PW.pt (w_and (u_cmp (op_eqA hr.units) ok_eq (q_mod (q_toInt T.b_int (a_cons (q_v 0) a_nil)) (q_v 1)) q_int (nomark _)) (w_and1 (u_cmp (op_eqA hr.units) ok_eq (q_lc 1000 [("q", 2)] rfl sc__law_primes.nd (i_rng2 T.b_range (a_cons q_int (a_cons (q_v 1) a_nil))) (blkOk_by (by kernel_rfl)) (gc_name (by decide)) (fun _ _ _ _ _ => (pg_n 2 sc__law_primes.nd)) (fun _ _ _ _ _ => (pts_one (u_cmp (op_eqA hr.units) ok_eq (q_mod (q_toInt T.b_int (a_cons (q_v 1) a_nil)) (q_v 2)) q_int (nomark _)))) (fun _ _ _ _ _ => (q_v 2))) (q_lst a_nil) (nomark _))))))) (fun _ _ _ _ _ => (q_v 1)))))) hm (fun _ _ _ _ _ _ us hl => match us, hl with | [_], _ => rfl)
/-! _law_spread -/
abbrev s__law_spread : Stmt := top 28
theorem sc__law_spread : FnScope ["cells", "many", "found", "cell"] ["cells", "many"] (defScope s__law_spread) := ⟨rfl, rfl, rfl, by decide +kernel, rfl, by decide +kernel, by decide +kernel⟩
noncomputable def b__law_spread : EvS := (sSeq (sSet 2 (eLst aNil)) (sSeq (sFor 1000 (iSq (eVar 0)) (gN 3) (sSet 2 (eBin fAdd (eBin fAdd (eVar 2) (eLst (aCons (eVar 3) aNil))) (eBin fMul (eLst (aCons (eC (.int 0)) aNil)) (eBin fSub (eVar 1) (eC (.int 1))))))) (sRet (eSl (eVar 2) oNo (oAt (eBin fAdd (eBin fMul (eVar 1) (eBin fSub (eCB cLen (aCons (eVar 0) aNil)) (eC (.int 1)))) (eC (.int 1))))))))
noncomputable def r__law_spread : FC := runF 2 4 b__law_spread
theorem ok__law_spread {f : Addr} {fd : FuncData} (T : Bs mg) (F : FnP K "_law_spread" s__law_spread f fd) (hm : mg "_law_spread" = some (.ref f)) : Has P w K mg base 1 "_law_spread" 2 r__law_spread :=
  has_of F (fn_run F sc__law_spread rfl rfl fun cdv A outer s H E hr =>
      (x_cons (x_set (i := 2) sc__law_spread.nd (q_lst a_nil))
      (x_cons (x_for 1000 PassesOwn.never rfl (i_seq (q_v 0)) (g_name (i := 3) sc__law_spread.nd) (x_one (x_set (i := 2) sc__law_spread.nd (q_add (q_add (q_v 2) (q_lst (a_cons (q_v 3) a_nil))) (q_mul (q_lst (a_cons q_int a_nil)) (q_sub (q_v 1) q_int))))))
      (x_one (x_ret (q_sl (q_v 2) o_no (o_at (q_add (q_mul (q_v 1) (q_sub (q_len T.b_len (a_cons (q_v 0) a_nil)) q_int)) q_int)))))))) hm (fun _ _ _ _ _ _ us hl => match us, hl with | [_, _], _ => rfl)
/-! _law_divided -/
abbrev s__law_divided : Stmt := top 29
theorem sc__law_divided : FnScope ["cells", "least", "left", "many", "quotient", "k", "part", "j"] ["cells", "least"] (defScope s__law_divided) := ⟨rfl, rfl, rfl, by decide +kernel, rfl, by decide +kernel, by decide +kernel⟩
noncomputable def b__law_divided : EvS := (sSeq (sPar 2 3 (aCons (eCB cList (aCons (eVar 0) aNil)) (aCons (eBin fSub (eCB cLen (aCons (eVar 1) aNil)) (eC (.int 1))) aNil))) (sSeq (sSet 4 (eBin fMul (eLst (aCons (eC (.int 0)) aNil)) (eCB cMax (aCons (eC (.int 1)) (aCons (eBin fSub (eCB cLen (aCons (eVar 2) aNil)) (eVar 3)) aNil))))) (sSeq (sFor 1000 (iR3 (aCons (eBin fSub (eCB cLen (aCons (eVar 2) aNil)) (eC (.int 1))) (aCons (eBin fSub (eVar 3) (eC (.int 1))) (aCons (eBin fSub (eC (.int 0)) (eC (.int 1))) aNil)))) (gN 5) (sSeq (sSet 6 (eBin fIx (eVar 2) (eVar 5))) (sSeq (sAsg (eVar 6) (gSb (eVar 4) (eBin fSub (eVar 5) (eVar 3)))) (sIf (toB (eBin fNe (eVar 6) (eC (.int 0)))) (sFor 1000 (iR1 (aCons (eBin fAdd (eVar 3) (eC (.int 1))) aNil)) (gN 7) (sAsg (eBin fSub (eBin fIx (eVar 2) (eBin fAdd (eBin fSub (eVar 5) (eVar 3)) (eVar 7))) (eBin fMul (eVar 6) (eBin fIx (eVar 1) (eVar 7)))) (gSb (eVar 2) (eBin fAdd (eBin fSub (eVar 5) (eVar 3)) (eVar 7))))) sNext)))) (sRet (eTup (aCons (eVar 4) (aCons (eSl (eVar 2) oNo (oAt (eVar 3))) aNil)))))))
noncomputable def r__law_divided : FC := runF 2 8 b__law_divided
theorem ok__law_divided {f : Addr} {fd : FuncData} (T : Bs mg) (F : FnP K "_law_divided" s__law_divided f fd) (hm : mg "_law_divided" = some (.ref f)) : Has P w K mg base 1 "_law_divided" 2 r__law_divided :=
  has_of F (fn_run F sc__law_divided rfl rfl fun cdv A outer s H E hr =>
      (x_cons (x_par (i := 2) (j := 3) rfl sc__law_divided.nd (a_cons (q_list T.b_list (a_cons (q_v 0) a_nil)) (a_cons (q_sub (q_len T.b_len (a_cons (q_v 1) a_nil)) q_int) a_nil)))
      (x_cons (x_set (i := 4) sc__law_divided.nd (q_mul (q_lst (a_cons q_int a_nil)) (q_max T.b_max rfl (a_cons q_int (a_cons (q_sub (q_len T.b_len (a_cons (q_v 2) a_nil)) (q_v 3)) a_nil)))))
      (x_cons (x_for 1000 PassesOwn.never rfl (i_rng3 T.b_range (a_cons (q_sub (q_len T.b_len (a_cons (q_v 2) a_nil)) q_int) (a_cons (q_sub (q_v 3) q_int) (a_cons (q_sub q_int q_int) a_nil)))) (g_name (i := 5) sc__law_divided.nd) (x_cons (x_set (i := 6) sc__law_divided.nd (q_ix (q_v 2) (q_v 5)))
      (x_cons (x_asg (q_v 6) (g_sub (q_v 4) (q_sub (q_v 5) (q_v 3))))
      (x_one (x_if (u_cmp (opr_or op_ne (op_neD hr.units)) ok_ne (q_v 6) q_int (nomark _)) (x_one (x_for 1000 PassesOwn.never rfl (i_rng1 T.b_range (a_cons (q_add (q_v 3) q_int) a_nil)) (g_name (i := 7) sc__law_divided.nd) (x_one (x_asg (q_sub (q_ix (q_v 2) (q_add (q_sub (q_v 5) (q_v 3)) (q_v 7))) (q_mul (q_v 6) (q_ix (q_v 1) (q_v 7)))) (g_sub (q_v 2) (q_add (q_sub (q_v 5) (q_v 3)) (q_v 7))))))) x_nil)))))
      (x_one (x_ret (q_tup (a_cons (q_v 4) (a_cons (q_sl (q_v 2) o_no (o_at (q_v 3))) a_nil))))))))) hm (fun _ _ _ _ _ _ us hl => match us, hl with | [_, _], _ => rfl)
/-! _law_product -/
abbrev s__law_product : Stmt := top 31
theorem sc__law_product : FnScope ["one", "two", "found", "i", "j"] ["one", "two"] (defScope s__law_product) := ⟨rfl, rfl, rfl, by decide +kernel, rfl, by decide +kernel, by decide +kernel⟩
noncomputable def b__law_product : EvS := (sSeq (sSet 2 (eBin fMul (eLst (aCons (eC (.int 0)) aNil)) (eBin fSub (eBin fAdd (eCB cLen (aCons (eVar 0) aNil)) (eCB cLen (aCons (eVar 1) aNil))) (eC (.int 1))))) (sSeq (sFor 1000 (iR1 (aCons (eCB cLen (aCons (eVar 0) aNil)) aNil)) (gN 3) (sFor 1000 (iR1 (aCons (eCB cLen (aCons (eVar 1) aNil)) aNil)) (gN 4) (sAsg (eBin fAdd (eBin fIx (eVar 2) (eBin fAdd (eVar 3) (eVar 4))) (eBin fMul (eBin fIx (eVar 0) (eVar 3)) (eBin fIx (eVar 1) (eVar 4)))) (gSb (eVar 2) (eBin fAdd (eVar 3) (eVar 4)))))) (sRet (eVar 2))))
noncomputable def r__law_product : FC := runF 2 5 b__law_product
theorem ok__law_product {f : Addr} {fd : FuncData} (T : Bs mg) (F : FnP K "_law_product" s__law_product f fd) (hm : mg "_law_product" = some (.ref f)) : Has P w K mg base 1 "_law_product" 2 r__law_product :=
  has_of F (fn_run F sc__law_product rfl rfl fun cdv A outer s H E hr =>
      (x_cons (x_set (i := 2) sc__law_product.nd (q_mul (q_lst (a_cons q_int a_nil)) (q_sub (q_add (q_len T.b_len (a_cons (q_v 0) a_nil)) (q_len T.b_len (a_cons (q_v 1) a_nil))) q_int)))
      (x_cons (x_for 1000 PassesOwn.never rfl (i_rng1 T.b_range (a_cons (q_len T.b_len (a_cons (q_v 0) a_nil)) a_nil)) (g_name (i := 3) sc__law_product.nd) (x_one (x_for 1000 PassesOwn.never rfl (i_rng1 T.b_range (a_cons (q_len T.b_len (a_cons (q_v 1) a_nil)) a_nil)) (g_name (i := 4) sc__law_product.nd) (x_one (x_asg (q_add (q_ix (q_v 2) (q_add (q_v 3) (q_v 4))) (q_mul (q_ix (q_v 0) (q_v 3)) (q_ix (q_v 1) (q_v 4)))) (g_sub (q_v 2) (q_add (q_v 3) (q_v 4))))))))
      (x_one (x_ret (q_v 2)))))) hm (fun _ _ _ _ _ _ us hl => match us, hl with | [_, _], _ => rfl)
/-! _law_same -/
abbrev s__law_same : Stmt := top 23
theorem sc__law_same : FnScope ["told", "due", "k"] ["told", "due"] (defScope s__law_same) := ⟨rfl, rfl, rfl, by decide +kernel, rfl, by decide +kernel, by decide +kernel⟩
noncomputable def b__law_same (self_ : FC) : EvS := (sSeq (sIf (bOr (bTru (eIsi tabTuple (eVar 1))) (bTru (eIsi tabTuple (eVar 0)))) (sSeq (sIf (bOr (bNot (bTru (eIsi tabTuple (eVar 1)))) (bOr (bNot (bTru (eIsi tabTuple (eVar 0)))) (toB (eBin fNe (eCB cLen (aCons (eVar 0) aNil)) (eCB cLen (aCons (eVar 1) aNil)))))) (sRet (eC (.bl false))) sNext) (sRet (eBin fEq (eLc 1000 [2] (iR1 (aCons (eCB cLen (aCons (eVar 1) aNil)) aNil)) (gN 2) (bNot (bTru (eCall 2 (alone self_) (aCons (eBin fIx (eVar 0) (eVar 2)) (aCons (eBin fIx (eVar 1) (eVar 2)) aNil))))) (eVar 2)) (eLst aNil)))) sNext) (sSeq (sIf (bOr (toB (eBin (fIsN false) (eVar 1) (eC .non))) (toB (eBin (fIsN false) (eVar 0) (eC .non)))) (sRet (eAnd (eBin (fIsN false) (eVar 1) (eC .non)) (eBin (fIsN false) (eVar 0) (eC .non)))) sNext) (sSeq (sIf (bOr (toB (eBin fNe (eIsi tabBool (eVar 1)) (eIsi tabBool (eVar 0)))) (bOr (toB (eBin fNe (eIsi tabInt (eVar 1)) (eIsi tabInt (eVar 0)))) (toB (eBin fNe (eIsi tabStr (eVar 1)) (eIsi tabStr (eVar 0)))))) (sRet (eC (.bl false))) sNext) (sRet (eBin fIsB (eBin fEq (eVar 0) (eVar 1)) (eC (.bl true)))))))
noncomputable def r__law_same : Nat → FC
  | 0 => fun _ _ => .no
  | d + 1 => runF 2 3 (b__law_same (r__law_same d))
theorem ok__law_same {f : Addr} {fd : FuncData} (T : Bs mg) (F : FnP K "_law_same" s__law_same f fd) (hm : mg "_law_same" = some (.ref f)) : ∀ d, Has P w K mg base (d + 1) "_law_same" 2 (r__law_same d)
  | 0 => ⟨⟨CX0, f, fd, ["told", "due"], ⟨fun vs H Q E ⟨_, _, _, _, _, _, g⟩ => g.elim, fun A outer s H args us vs Q E _ _ _ _ ⟨_, _, _, _, _, _, g⟩ => g.elim⟩, hm, F.kp, F.bindsN (fun _ _ _ _ _ _ us hl => match us, hl with | [_, _], _ => rfl), fun _ _ _ => pass0⟩⟩
  | d + 1 => by
    have h__law_same := ok__law_same T F hm  d
    exact has_of F (fn_run F sc__law_same rfl rfl fun cdv A outer s H E hr =>
      (x_cons (x_if (PW.pt (w_or (u_tru (q_isi tab_tuple (by decide +kernel) T.b_tuple T.b_isinstance (q_v 1))) (w_or1 (u_tru (q_isi tab_tuple (by decide +kernel) T.b_tuple T.b_isinstance (q_v 0)))))) (x_cons (x_if (PW.pt (w_or (u_not (u_tru (q_isi tab_tuple (by decide +kernel) T.b_tuple T.b_isinstance (q_v 1)))) (w_or (u_not (u_tru (q_isi tab_tuple (by decide +kernel) T.b_tuple T.b_isinstance (q_v 0)))) (w_or1 (u_cmp (opr_or op_ne (op_neD hr.units)) ok_ne (q_len T.b_len (a_cons (q_v 0) a_nil)) (q_len T.b_len (a_cons (q_v 1) a_nil)) (nomark _)))))) (x_one (x_ret q_bl)) x_nil)
      (x_one (x_ret (q_cmp (op_eqA hr.units) ok_eq (q_lc 1000 [("k", 2)] rfl sc__law_same.nd (i_rng1 T.b_range (a_cons (q_len T.b_len (a_cons (q_v 1) a_nil)) a_nil)) (blkOk_by (by kernel_rfl)) (gc_name (by decide)) (fun _ _ _ _ _ => (pg_n 2 sc__law_same.nd)) (fun _ _ _ _ _ => (pts_one (u_not (u_tru (q_call (h__law_same.alone) (hr.mono (by first | exact Nat.le_refl _ | omega)) (a_cons (q_ix (q_v 0) (q_v 2)) (a_cons (q_ix (q_v 1) (q_v 2)) a_nil))))))) (fun _ _ _ _ _ => (q_v 2))) (q_lst a_nil) (nomark _))))) x_nil)
      (x_cons (x_if (PW.pt (w_or (u_cmp op_isN ok_isN (q_v 1) q_non (nomark _)) (w_or1 (u_cmp op_isN ok_isN (q_v 0) q_non (nomark _))))) (x_one (x_ret (q_and (q_cmp op_isN ok_isN (q_v 1) q_non (nomark _)) (q_one (q_cmp op_isN ok_isN (q_v 0) q_non (nomark _)))))) x_nil)
      (x_cons (x_if (PW.pt (w_or (u_cmp (opr_or op_ne (op_neD hr.units)) ok_ne (q_isi tab_bool (by decide +kernel) T.b_bool T.b_isinstance (q_v 1)) (q_isi tab_bool (by decide +kernel) T.b_bool T.b_isinstance (q_v 0)) (nomark _)) (w_or (u_cmp (opr_or op_ne (op_neD hr.units)) ok_ne (q_isi tab_int (by decide +kernel) T.b_int T.b_isinstance (q_v 1)) (q_isi tab_int (by decide +kernel) T.b_int T.b_isinstance (q_v 0)) (nomark _)) (w_or1 (u_cmp (opr_or op_ne (op_neD hr.units)) ok_ne (q_isi tab_str (by decide +kernel) T.b_str T.b_isinstance (q_v 1)) (q_isi tab_str (by decide +kernel) T.b_str T.b_isinstance (q_v 0)) (nomark _)))))) (x_one (x_ret q_bl)) x_nil)
      (x_one (x_ret (q_cmp op_isBl ok_isB (q_cmp (op_eqA hr.units) ok_eq (q_v 0) (q_v 1) (nomark _)) q_bl (nomark _)))))))) hm (fun _ _ _ _ _ _ us hl => match us, hl with | [_, _], _ => rfl)
/-! _law_gcd -/
abbrev s__law_gcd : Stmt := top 24
theorem sc__law_gcd : FnScope ["one", "two", "turn"] ["one", "two"] (defScope s__law_gcd) := ⟨rfl, rfl, rfl, by decide +kernel, rfl, by decide +kernel, by decide +kernel⟩
noncomputable def b__law_gcd : EvS := (sSeq (sFor 1000 (iR1 (aCons (eC (.int 400)) aNil)) (gN 2) (sAsg (eIf (toB (eBin fGt (eVar 1) (eC (.int 0)))) (eTup (aCons (eVar 1) (aCons (eBin fMod (eCB cInt (aCons (eVar 0) aNil)) (eVar 1)) aNil))) (eTup (aCons (eVar 0) (aCons (eC (.int 0)) aNil)))) (gT 2 (gsCons (gN 0) (gsCons (gN 1) gsNil))))) (sRet (eVar 0)))
noncomputable def r__law_gcd : FC := runF 2 3 b__law_gcd
theorem ok__law_gcd {f : Addr} {fd : FuncData} (T : Bs mg) (F : FnP K "_law_gcd" s__law_gcd f fd) (hm : mg "_law_gcd" = some (.ref f)) : Has P w K mg base 1 "_law_gcd" 2 r__law_gcd :=
  has_of F (fn_run F sc__law_gcd rfl rfl fun cdv A outer s H E hr =>
      (x_cons (x_for 1000 PassesOwn.never rfl (i_rng1 T.b_range (a_cons q_int a_nil)) (g_name (i := 2) sc__law_gcd.nd) (x_one (x_asg (q_if (u_cmp op_gt ok_gt (q_v 1) q_int (nomark _)) (q_tup (a_cons (q_v 1) (a_cons (q_mod (q_toInt T.b_int (a_cons (q_v 0) a_nil)) (q_v 1)) a_nil))) (q_tup (a_cons (q_v 0) (a_cons q_int a_nil)))) (g_tup rfl (gs_cons (g_name (i := 0) sc__law_gcd.nd) (gs_cons (g_name (i := 1) sc__law_gcd.nd) gs_nil))))))
      (x_one (x_ret (q_v 0))))) hm (fun _ _ _ _ _ _ us hl => match us, hl with | [_, _], _ => rfl)
/-! _law_degree -/
abbrev s__law_degree : Stmt := top 26
theorem sc__law_degree : FnScope ["order", "k"] ["order"] (defScope s__law_degree) := ⟨rfl, rfl, rfl, by decide +kernel, rfl, by decide +kernel, by decide +kernel⟩
noncomputable def b__law_degree : EvS := (sRet (eCB cLen (aCons (eLc 1000 [1] (iR2 (aCons (eC (.int 1)) (aCons (eBin fAdd (eVar 0) (eC (.int 1))) aNil))) (gN 1) (toB (eBin fEq (eCall 2 (alone gcdF) (aCons (eVar 1) (aCons (eVar 0) aNil))) (eC (.int 1)))) (eVar 1)) aNil)))
noncomputable def r__law_degree : FC := runF 1 2 b__law_degree
theorem ok__law_degree {f : Addr} {fd : FuncData} (T : Bs mg) (F : FnP K "_law_degree" s__law_degree f fd) (hm : mg "_law_degree" = some (.ref f)) (h__law_gcd : Has P w K mg base 1 "_law_gcd" 2 gcdF) : Has P w K mg base 2 "_law_degree" 1 r__law_degree :=
  has_of F (fn_run F sc__law_degree rfl rfl fun cdv A outer s H E hr =>
      (x_one (x_ret (q_len T.b_len (a_cons (q_lc 1000 [("k", 1)] rfl sc__law_degree.nd (i_rng2 T.b_range (a_cons q_int (a_cons (q_add (q_v 0) q_int) a_nil))) (blkOk_by (by kernel_rfl)) (gc_name (by decide)) (fun _ _ _ _ _ => (pg_n 1 sc__law_degree.nd)) (fun _ _ _ _ _ => (pts_one (u_cmp (op_eqA hr.units) ok_eq (q_call (h__law_gcd.alone) (hr.mono (by first | exact Nat.le_refl _ | omega)) (a_cons (q_v 1) (a_cons (q_v 0) a_nil))) q_int (nomark _)))) (fun _ _ _ _ _ => (q_v 1))) a_nil))))) hm (fun _ _ _ _ _ _ us hl => match us, hl with | [_], _ => rfl)
/-! _law_polynomial -/
abbrev s__law_polynomial : Stmt := top 27
theorem sc__law_polynomial : FnScope ["order", "found", "done", "p", "wide", "cell"] ["order"] (defScope s__law_polynomial) := ⟨rfl, rfl, rfl, by decide +kernel, rfl, by decide +kernel, by decide +kernel⟩
noncomputable def b__law_polynomial : EvS := (sSeq (sPar 1 2 (aCons (eLst (aCons (eBin fSub (eC (.int 0)) (eC (.int 1))) (aCons (eC (.int 1)) aNil))) (aCons (eC (.int 1)) aNil))) (sSeq (sFor 1000 (iSq (eCall 1 r__law_primes (aCons (eVar 0) aNil))) (gN 3) (sSeq (sSet 4 (eLst aNil)) (sSeq (sFor 1000 (iSq (eVar 1)) (gN 5) (sSet 4 (eBin fAdd (eBin fAdd (eVar 4) (eLst (aCons (eVar 5) aNil))) (eBin fMul (eLst (aCons (eC (.int 0)) aNil)) (eBin fSub (eVar 3) (eC (.int 1))))))) (sPar 1 2 (aCons (eBin fIx (eCall 2 r__law_divided (aCons (eSl (eVar 4) oNo (oAt (eBin fAdd (eBin fMul (eVar 3) (eBin fSub (eCB cLen (aCons (eVar 1) aNil)) (eC (.int 1)))) (eC (.int 1))))) (aCons (eVar 1) aNil))) (eC (.int 0))) (aCons (eBin fMul (eVar 2) (eVar 3)) aNil)))))) (sRet (eCB cTuple (aCons (eCall 2 r__law_spread (aCons (eVar 1) (aCons (eBin fDiv (eVar 0) (eVar 2)) aNil))) aNil)))))
noncomputable def r__law_polynomial : FC := runF 1 6 b__law_polynomial
theorem ok__law_polynomial {f : Addr} {fd : FuncData} (T : Bs mg) (F : FnP K "_law_polynomial" s__law_polynomial f fd) (hm : mg "_law_polynomial" = some (.ref f)) (h__law_divided : Has P w K mg base 1 "_law_divided" 2 r__law_divided) (h__law_primes : Has P w K mg base 1 "_law_primes" 1 r__law_primes) (h__law_spread : Has P w K mg base 1 "_law_spread" 2 r__law_spread) : Has P w K mg base 2 "_law_polynomial" 1 r__law_polynomial :=
  has_of F (fn_run F sc__law_polynomial rfl rfl fun cdv A outer s H E hr =>
      (x_cons (x_par (i := 1) (j := 2) rfl sc__law_polynomial.nd (a_cons (q_lst (a_cons (q_sub q_int q_int) (a_cons q_int a_nil))) (a_cons q_int a_nil)))
      (x_cons (x_for 1000 PassesOwn.never rfl (i_seq (q_call h__law_primes (hr.mono (by first | exact Nat.le_refl _ | omega)) (a_cons (q_v 0) a_nil))) (g_name (i := 3) sc__law_polynomial.nd) (x_cons (x_set (i := 4) sc__law_polynomial.nd (q_lst a_nil))
      (x_cons (x_for 1000 PassesOwn.never rfl (i_seq (q_v 1)) (g_name (i := 5) sc__law_polynomial.nd) (x_one (x_set (i := 4) sc__law_polynomial.nd (q_add (q_add (q_v 4) (q_lst (a_cons (q_v 5) a_nil))) (q_mul (q_lst (a_cons q_int a_nil)) (q_sub (q_v 3) q_int))))))
      (x_one (x_par (i := 1) (j := 2) rfl sc__law_polynomial.nd (a_cons (q_ix (q_call h__law_divided (hr.mono (by first | exact Nat.le_refl _ | omega)) (a_cons (q_sl (q_v 4) o_no (o_at (q_add (q_mul (q_v 3) (q_sub (q_len T.b_len (a_cons (q_v 1) a_nil)) q_int)) q_int))) (a_cons (q_v 1) a_nil))) q_int) (a_cons (q_mul (q_v 2) (q_v 3)) a_nil)))))))
      (x_one (x_ret (q_tuple T.b_tuple (a_cons (q_call h__law_spread (hr.mono (by first | exact Nat.le_refl _ | omega)) (a_cons (q_v 1) (a_cons (q_div (q_v 0) (q_v 2)) a_nil))) a_nil))))))) hm (fun _ _ _ _ _ _ us hl => match us, hl with | [_], _ => rfl)
/-! is_whole -/
abbrev s_is_whole : Stmt := top 11
theorem sc_is_whole : FnScope ["value"] ["value"] (defScope s_is_whole) := ⟨rfl, rfl, rfl, by decide +kernel, rfl, by decide +kernel, by decide +kernel⟩
noncomputable def b_is_whole : EvS := (sRet (eAnd (eIsi tabInt (eVar 0)) (eNot (eIsi tabBool (eVar 0)))))
noncomputable def r_is_whole : FC := runF 1 1 b_is_whole
theorem ok_is_whole {f : Addr} {fd : FuncData} (T : Bs mg) (F : FnP K "is_whole" s_is_whole f fd) (hm : mg "is_whole" = some (.ref f)) : Has P w K mg base 1 "is_whole" 1 r_is_whole :=
  has_of F (fn_run F sc_is_whole rfl rfl fun cdv A outer s H E hr =>
      (x_one (x_ret (q_and (q_isi tab_int (by decide +kernel) T.b_int T.b_isinstance (q_v 0)) (q_one (q_not (q_isi tab_bool (by decide +kernel) T.b_bool T.b_isinstance (q_v 0)))))))) hm (fun _ _ _ _ _ _ us hl => match us, hl with | [_], _ => rfl)
/-! is_from -/
abbrev s_is_from : Stmt := top 12
theorem sc_is_from : FnScope ["value", "least", "most"] ["value", "least", "most"] (defScope s_is_from) := ⟨rfl, rfl, rfl, by decide +kernel, rfl, by decide +kernel, by decide +kernel⟩
noncomputable def b_is_from : EvS := (sRet (eAnd (eCall 1 (alone r_is_whole) (aCons (eVar 0) aNil)) (eChain fLe fLe (eVar 1) (eVar 0) (eVar 2))))
noncomputable def r_is_from : FC := runF 3 3 b_is_from
theorem ok_is_from {f : Addr} {fd : FuncData} (T : Bs mg) (F : FnP K "is_from" s_is_from f fd) (hm : mg "is_from" = some (.ref f)) (h_is_whole : Has P w K mg base 1 "is_whole" 1 r_is_whole) : Has P w K mg base 2 "is_from" 3 r_is_from :=
  has_of F (fn_run F sc_is_from rfl rfl fun cdv A outer s H E hr =>
      (x_one (x_ret (q_and (q_call (h_is_whole.alone) (hr.mono (by first | exact Nat.le_refl _ | omega)) (a_cons (q_v 0) a_nil)) (q_one (q_chain op_le op_le ok_le ok_le (q_v 1) (q_v 0) (q_v 2))))))) hm (fun _ _ _ _ _ _ us hl => match us, hl with | [_, _, _], _ => rfl)
/-! is_order -/
abbrev s_is_order : Stmt := top 15
theorem sc_is_order : FnScope ["value"] ["value"] (defScope s_is_order) := ⟨rfl, rfl, rfl, by decide +kernel, rfl, by decide +kernel, by decide +kernel⟩
noncomputable def b_is_order : EvS := (sRet (eCall 3 (alone r_is_from) (aCons (eVar 0) (aCons (eC (.int 1)) (aCons (eC (.int 120)) aNil)))))
noncomputable def r_is_order : FC := runF 1 1 b_is_order
theorem ok_is_order {f : Addr} {fd : FuncData} (T : Bs mg) (F : FnP K "is_order" s_is_order f fd) (hm : mg "is_order" = some (.ref f)) (h_is_from : Has P w K mg base 2 "is_from" 3 r_is_from) : Has P w K mg base 3 "is_order" 1 r_is_order :=
  has_of F (fn_run F sc_is_order rfl rfl fun cdv A outer s H E hr =>
      (x_one (x_ret (q_call (h_is_from.alone) (hr.mono (by first | exact Nat.le_refl _ | omega)) (a_cons (q_v 0) (a_cons q_int (a_cons (q_gint T.c_MOST_ORDER) a_nil))))))) hm (fun _ _ _ _ _ _ us hl => match us, hl with | [_], _ => rfl)
/-! check_order -/
abbrev s_check_order : Stmt := top 17
theorem sc_check_order : FnScope ["order"] ["order"] (defScope s_check_order) := ⟨rfl, rfl, rfl, by decide +kernel, rfl, by decide +kernel, by decide +kernel⟩
noncomputable def b_check_order : EvS := (sIf (bNot (bTru (eCall 1 (alone r_is_order) (aCons (eVar 0) aNil)))) sNo sNext)
noncomputable def r_check_order : FC := runF 1 1 b_check_order
theorem ok_check_order {f : Addr} {fd : FuncData} (T : Bs mg) (F : FnP K "check_order" s_check_order f fd) (hm : mg "check_order" = some (.ref f)) (h_is_order : Has P w K mg base 3 "is_order" 1 r_is_order) : Has P w K mg base 4 "check_order" 1 r_check_order :=
  has_of F (fn_run F sc_check_order rfl rfl fun cdv A outer s H E hr =>
      (x_one (x_if (u_not (u_tru (q_call (h_is_order.alone) (hr.mono (by first | exact Nat.le_refl _ | omega)) (a_cons (q_v 0) a_nil)))) (x_one x_no) x_nil))) hm (fun _ _ _ _ _ _ us hl => match us, hl with | [_], _ => rfl)
/-! polynomial -/
abbrev s_polynomial : Stmt := top 18
theorem sc_polynomial : FnScope ["order"] ["order"] (defScope s_polynomial) := ⟨rfl, rfl, rfl, by decide +kernel, rfl, by decide +kernel, by decide +kernel⟩
noncomputable def b_polynomial : EvS := (sSeq (sDrop (eCall 1 r_check_order (aCons (eVar 0) aNil))) (sRet (eCall 1 (alone r_polynomial_by) (aCons (eVar 0) aNil))))
noncomputable def r_polynomial : FC := runF 1 1 b_polynomial
theorem ok_polynomial {f : Addr} {fd : FuncData} (T : Bs mg) (F : FnP K "polynomial" s_polynomial f fd) (hm : mg "polynomial" = some (.ref f)) (h_check_order : Has P w K mg base 4 "check_order" 1 r_check_order) (h_polynomial_by : Has P w K mg base 3 "polynomial_by" 1 r_polynomial_by) : Has P w K mg base 5 "polynomial" 1 r_polynomial :=
  has_of F (fn_run F sc_polynomial rfl rfl fun cdv A outer s H E hr =>
      (x_cons (x_drop (q_call h_check_order (hr.mono (by first | exact Nat.le_refl _ | omega)) (a_cons (q_v 0) a_nil)))
      (x_one (x_ret (q_call (h_polynomial_by.alone) (hr.mono (by first | exact Nat.le_refl _ | omega)) (a_cons (q_v 0) a_nil)))))) hm (fun _ _ _ _ _ _ us hl => match us, hl with | [_], _ => rfl)
theorem okk_polynomial {f : Addr} {fd : FuncData} (T : Bs mg) (F : FnP K "polynomial" s_polynomial f fd) (hm : mg "polynomial" = some (.ref f)) (h_check_order : Has P w K mg base 4 "check_order" 1 r_check_order) (h_polynomial_by : Has P w K mg base 3 "polynomial_by" 1 r_polynomial_by) : HasK P w K mg base 5 "polynomial" ["order"] r_polynomial :=
  hask_of F (fn_run F sc_polynomial rfl rfl fun cdv A outer s H E hr =>
      (x_cons (x_drop (q_call h_check_order (hr.mono (by first | exact Nat.le_refl _ | omega)) (a_cons (q_v 0) a_nil)))
      (x_one (x_ret (q_call (h_polynomial_by.alone) (hr.mono (by first | exact Nat.le_refl _ | omega)) (a_cons (q_v 0) a_nil)))))) hm (by decide) (fun _ _ _ _ _ _ us hl => match us, hl with | [_], _ => rfl)
/-! _law_bowl -/
abbrev s__law_bowl : Stmt := top 20
theorem sc__law_bowl : FnScope ["script", "lap", "own", "stir", "cell", "far"] ["script", "lap"] (defScope s__law_bowl) := ⟨rfl, rfl, rfl, by decide +kernel, rfl, by decide +kernel, by decide +kernel⟩
noncomputable def b__law_bowl : EvS := (sSeq (sPar 2 3 (aCons (eIf (toB (eBin fLt (eVar 1) (eCB cLen (aCons (eVar 0) aNil)))) (eCB cInt (aCons (eBin fIx (eVar 0) (eVar 1)) aNil)) (eC (.int 0))) (aCons (eBin fAdd (eC (.int 660047)) (eBin fMul (eC (.int 2711)) (eVar 1))) aNil))) (sSeq (sFor 1000 (iSq (eSl (eVar 0) oNo (oAt (eC (.int 16))))) (gN 4) (sSet 3 (eBin fMod (eCB cInt (aCons (eBin fAdd (eBin fAdd (eBin fMul (eVar 3) (eC (.int 48989))) (eBin fMul (eBin fMod (eCB cInt (aCons (eVar 4) aNil)) (eC (.int 2147483353))) (eC (.int 3)))) (eC (.int 71))) aNil)) (eC (.int 2147483423))))) (sSeq (sSet 5 (eIf (bOr (toB (eBin fLt (eVar 2) (eC (.int 0)))) (toB (eBin fGe (eVar 2) (eBin fPow (eC (.int 10)) (eC (.int 16)))))) (eBin fMod (eCB cAbs (aCons (eVar 2) aNil)) (eBin fPow (eC (.int 10)) (eC (.int 60)))) (eC (.int 0)))) (sRet (eLst (aCons (eVar 5) (aCons (eBin fMod (eCB cInt (aCons (eBin fAdd (eBin fAdd (eBin fMul (eVar 3) (eC (.int 31))) (eBin fMod (eCB cInt (aCons (eVar 2) aNil)) (eC (.int 2147483353)))) (eC (.int 401))) aNil)) (eC (.int 2147483423))) aNil)))))))
noncomputable def r__law_bowl : FC := runF 2 6 b__law_bowl
theorem ok__law_bowl {f : Addr} {fd : FuncData} (T : Bs mg) (F : FnP K "_law_bowl" s__law_bowl f fd) (hm : mg "_law_bowl" = some (.ref f)) : Has P w K mg base 1 "_law_bowl" 2 r__law_bowl :=
  has_of F (fn_run F sc__law_bowl rfl rfl fun cdv A outer s H E hr =>
      (x_cons (x_par (i := 2) (j := 3) rfl sc__law_bowl.nd (a_cons (q_if (u_cmp op_lt ok_lt (q_v 1) (q_len T.b_len (a_cons (q_v 0) a_nil)) (nomark _)) (q_toInt T.b_int (a_cons (q_ix (q_v 0) (q_v 1)) a_nil)) q_int) (a_cons (q_add q_int (q_mul q_int (q_v 1))) a_nil)))
      (x_cons (x_for 1000 PassesOwn.never rfl (i_seq (q_sl (q_v 0) o_no (o_at q_int))) (g_name (i := 4) sc__law_bowl.nd) (x_one (x_set (i := 3) sc__law_bowl.nd (q_mod (q_toInt T.b_int (a_cons (q_add (q_add (q_mul (q_v 3) q_int) (q_mul (q_mod (q_toInt T.b_int (a_cons (q_v 4) a_nil)) q_int) q_int)) q_int) a_nil)) q_int))))
      (x_cons (x_set (i := 5) sc__law_bowl.nd (q_if (PW.pt (w_or (u_cmp op_lt ok_lt (q_v 2) q_int (nomark _)) (w_or1 (u_cmp op_ge ok_ge (q_v 2) (q_pow q_int q_int) (nomark _))))) (q_mod (q_abs T.b_abs (a_cons (q_v 2) a_nil)) (q_pow q_int q_int)) q_int))
      (x_one (x_ret (q_lst (a_cons (q_v 5) (a_cons (q_mod (q_toInt T.b_int (a_cons (q_add (q_add (q_mul (q_v 3) q_int) (q_mod (q_toInt T.b_int (a_cons (q_v 2) a_nil)) q_int)) q_int) a_nil)) q_int) a_nil))))))))) hm (fun _ _ _ _ _ _ us hl => match us, hl with | [_, _], _ => rfl)
/-! _law_draw -/
abbrev s__law_draw : Stmt := top 21
theorem sc__law_draw : FnScope ["bowl", "many", "figure"] ["bowl", "many"] (defScope s__law_draw) := ⟨rfl, rfl, rfl, by decide +kernel, rfl, by decide +kernel, by decide +kernel⟩
noncomputable def b__law_draw : EvS := (sSeq (sIf (toB (eBin fGt (eBin fIx (eVar 0) (eC (.int 0))) (eC (.int 0)))) (sSeq (sAsg (eCB cDivmod (aCons (eBin fIx (eVar 0) (eC (.int 0))) (aCons (eVar 1) aNil))) (gT 2 (gsCons (gSb (eVar 0) (eC (.int 0))) (gsCons (gN 2) gsNil)))) (sRet (eVar 2))) sNext) (sSeq (sAsg (eBin fMod (eCB cInt (aCons (eBin fAdd (eBin fMul (eBin fIx (eVar 0) (eC (.int 1))) (eC (.int 36969))) (eC (.int 19))) aNil)) (eC (.int 2147483423))) (gSb (eVar 0) (eC (.int 1)))) (sSeq (sAsg (eBin fMod (eCB cInt (aCons (eBin fAdd (eBin fMul (eBin fIx (eVar 0) (eC (.int 1))) (eC (.int 18000))) (eBin fDiv (eBin fIx (eVar 0) (eC (.int 1))) (eC (.int 6263)))) aNil)) (eC (.int 2147483423))) (gSb (eVar 0) (eC (.int 1)))) (sRet (eBin fMod (eCB cInt (aCons (eBin fDiv (eBin fIx (eVar 0) (eC (.int 1))) (eC (.int 907))) aNil)) (eVar 1))))))
noncomputable def r__law_draw : FC := runF 2 3 b__law_draw
theorem ok__law_draw {f : Addr} {fd : FuncData} (T : Bs mg) (F : FnP K "_law_draw" s__law_draw f fd) (hm : mg "_law_draw" = some (.ref f)) : Has P w K mg base 1 "_law_draw" 2 r__law_draw :=
  has_of F (fn_run F sc__law_draw rfl rfl fun cdv A outer s H E hr =>
      (x_cons (x_if (u_cmp op_gt ok_gt (q_ix (q_v 0) q_int) q_int (nomark _)) (x_cons (x_asg (q_divmod T.b_divmod (a_cons (q_ix (q_v 0) q_int) (a_cons (q_v 1) a_nil))) (g_tup rfl (gs_cons (g_sub (q_v 0) q_int) (gs_cons (g_name (i := 2) sc__law_draw.nd) gs_nil))))
      (x_one (x_ret (q_v 2)))) x_nil)
      (x_cons (x_asg (q_mod (q_toInt T.b_int (a_cons (q_add (q_mul (q_ix (q_v 0) q_int) q_int) q_int) a_nil)) q_int) (g_sub (q_v 0) q_int))
      (x_cons (x_asg (q_mod (q_toInt T.b_int (a_cons (q_add (q_mul (q_ix (q_v 0) q_int) q_int) (q_div (q_ix (q_v 0) q_int) q_int)) a_nil)) q_int) (g_sub (q_v 0) q_int))
      (x_one (x_ret (q_mod (q_toInt T.b_int (a_cons (q_div (q_ix (q_v 0) q_int) q_int) a_nil)) (q_v 1)))))))) hm (fun _ _ _ _ _ _ us hl => match us, hl with | [_, _], _ => rfl)
/-! _law_of -/
abbrev s__law_of : Stmt := top 22
theorem sc__law_of : FnScope ["bowl", "some"] ["bowl", "some"] (defScope s__law_of) := ⟨rfl, rfl, rfl, by decide +kernel, rfl, by decide +kernel, by decide +kernel⟩
noncomputable def b__law_of : EvS := (sRet (eBin fIx (eVar 1) (eCall 2 r__law_draw (aCons (eVar 0) (aCons (eCB cLen (aCons (eVar 1) aNil)) aNil)))))
noncomputable def r__law_of : FC := runF 2 2 b__law_of
theorem ok__law_of {f : Addr} {fd : FuncData} (T : Bs mg) (F : FnP K "_law_of" s__law_of f fd) (hm : mg "_law_of" = some (.ref f)) (h__law_draw : Has P w K mg base 1 "_law_draw" 2 r__law_draw) : Has P w K mg base 2 "_law_of" 2 r__law_of :=
  has_of F (fn_run F sc__law_of rfl rfl fun cdv A outer s H E hr =>
      (x_one (x_ret (q_ix (q_v 1) (q_call h__law_draw (hr.mono (by first | exact Nat.le_refl _ | omega)) (a_cons (q_v 0) (a_cons (q_len T.b_len (a_cons (q_v 1) a_nil)) a_nil))))))) hm (fun _ _ _ _ _ _ us hl => match us, hl with | [_, _], _ => rfl)
end
end Sm
namespace Sm
open PySem PySem.Spec PyProof.Rows L2
/-! the law's gcd -/
noncomputable abbrev gBody : EvS := (sAsg (eIf (toB (eBin fGt (eVar 1) (eC (.int 0)))) (eTup (aCons (eVar 1) (aCons (eBin fMod (eCB cInt (aCons (eVar 0) aNil)) (eVar 1)) aNil))) (eTup (aCons (eVar 0) (aCons (eC (.int 0)) aNil)))) (gT 2 (gsCons (gN 0) (gsCons (gN 1) gsNil))))
theorem gBody_pos (a b : Nat) (o : Option W) (c : Ch) : gBody [some (.int a), some (.int ((b + 1 : Nat) : Int)), o] c = .nx [some (.int ((b + 1 : Nat) : Int)), some (.int ((a % (b + 1) : Nat) : Int)), o] c := rfl
theorem gBody_zero (a : Nat) (o : Option W) (c : Ch) : gBody [some (.int a), some (.int ((0 : Nat) : Int)), o] c = .nx [some (.int a), some (.int 0), o] c := rfl
theorem gLoop : ∀ (m i a b : Nat) (o : Option W) (c : Ch), i + m = 400 → b ≤ m → ∃ o', loopS (.rng 0 400) (gN 2) gBody (600 + m) i [some (.int a), some (.int b), o] c = .nx [some (.int (Nat.gcd a b : Nat)), some (.int 0), o'] c
  | 0, i, a, b, o, c, hi, hb => by
    have e : i = 400 := by omega
    have e2 : b = 0 := by omega
    subst e e2
    exact ⟨o, by rw [Nat.gcd_zero_right, show 600 + 0 = 599 + 1 from rfl, loopS_succ]; rfl⟩
  | m + 1, i, a, b, o, c, hi, hb => by
    have e : Nat.blt i 400 = true := by rw [Nat.blt_eq]; omega
    have step : ∀ ω2, gBody [some (.int a), some (.int b), some (.int (0 + (i : Nat)))] c = .nx ω2 c → loopS (.rng 0 400) (gN 2) gBody (600 + (m + 1)) i [some (.int a), some (.int b), o] c = loopS (.rng 0 400) (gN 2) gBody (600 + m) (i + 1) ω2 c := by
      intro ω2 h
      rw [show 600 + (m + 1) = (600 + m) + 1 from rfl, loopS_succ]
      have es : stepS (.rng 0 400) i c = .item (.int (0 + (i : Nat))) := by
        show (match Nat.blt i 400 with | true => SR.item (.int (0 + (i : Nat))) | false => .stop) = _
        rw [e]
      rw [es]
      show (match gBody [some (.int a), some (.int b), some (.int (0 + (i : Nat)))] c with
            | .nx ω2 c2 => loopS (.rng 0 400) (gN 2) gBody (600 + m) (i + 1) ω2 c2
            | .ct ω2 c2 => loopS (.rng 0 400) (gN 2) gBody (600 + m) (i + 1) ω2 c2
            | .bk ω2 c2 => .nx ω2 c2
            | .rt w c2 => .rt w c2
            | .no => .no) = _
      rw [h]
    cases b with
    | zero =>
      obtain ⟨o', h⟩ := gLoop m (i + 1) a 0 (some (.int (0 + (i : Nat)))) c (by omega) (by omega)
      exact ⟨o', by rw [step _ (gBody_zero a _ c)]; exact h⟩
    | succ b =>
      have hm : a % (b + 1) < b + 1 := Nat.mod_lt _ (Nat.succ_pos b)
      obtain ⟨o', h⟩ := gLoop m (i + 1) (b + 1) (a % (b + 1)) (some (.int (0 + (i : Nat)))) c (by omega) (by omega)
      refine ⟨o', ?_⟩
      rw [step _ (gBody_pos a b _ c), h]
      congr 4
      rw [Nat.gcd_comm a (b + 1), Nat.gcd_comm (b + 1)]
      exact congrArg _ (Nat.gcd_rec (b + 1) a).symm
theorem gcd_imp (ws : List W) (c : Ch) (x : W) (c' : Ch) (h : gcdF ws c = .ok x c') : r__law_gcd ws c = .ok x c' := by
  unfold gcdF at h
  split at h
  · rename_i a b
    cases e : Nat.blt b 400 with
    | false => rw [e] at h; cases h
    | true =>
      rw [e] at h
      cases h
      have hb : b < 400 := by rw [Nat.blt_eq] at e; exact e
      obtain ⟨o', hl⟩ := gLoop 400 0 a b none c rfl (Nat.le_of_lt hb)
      have hq : b__law_gcd [some (.int a), some (.int b), none] c = .rt (.int (Nat.gcd a b : Nat)) c := by
        have hi : iR1 (aCons (eC (.int 400)) aNil) [some (.int a), some (.int b), none] c = .ok (.rng 0 400) c := rfl
        have hf : sFor 1000 (iR1 (aCons (eC (.int 400)) aNil)) (gN 2) gBody [some (.int a), some (.int b), none] c = .nx [some (.int (Nat.gcd a b : Nat)), some (.int 0), o'] c := by
          unfold sFor
          rw [hi]
          exact hl
        unfold b__law_gcd sSeq
        rw [hf]
        rfl
      show (match b__law_gcd [some (.int a), some (.int b), none] c with
        | .rt w c1 => R.ok w c1
        | .nx _ c1 => .ok .non c1
        | _ => .no) = _
      rw [hq]
      rfl
  · cases h
end Sm
namespace Sm
open PySem PySem.Spec PyProof.Rows L2
/-! runs, step by step -/
section
variable {a b e : Ev} {f : F2} {g : FC} {ω ω1 : Sl} {c c1 c2 : Ch} {x y w : W} {r : R W} {i n : Nat} {tg : EvG} {s t : EvS} {q : RS} {ts : EvB} {k : Bool} {xs : List W} {ra : EvA}
theorem r_bin (h1 : a ω c = .ok x c1) (h2 : b ω c1 = .ok y c2) (h3 : f x y c2 = r) : eBin f a b ω c = r := by
  unfold eBin
  rw [h1]
  show (b ω c1).bind _ = _
  rw [h2]
  exact h3
theorem r_one (h1 : a ω c = .ok x c1) : aCons a aNil ω c = .ok [x] c1 := by
  unfold aCons
  rw [h1]
  rfl
theorem r_cons (h1 : a ω c = .ok x c1) (h2 : ra ω c1 = .ok xs c2) : aCons a ra ω c = .ok (x :: xs) c2 := by
  unfold aCons
  rw [h1]
  show (ra ω c1).bind _ = _
  rw [h2]
  rfl
theorem r_cb (h1 : ra ω c = .ok xs c1) (h2 : g xs c1 = r) : eCB g ra ω c = r := by
  unfold eCB
  rw [h1]
  exact h2
theorem r_call (h1 : ra ω c = .ok xs c1) (h0 : Nat.beq xs.length n = true) (h2 : g xs c1 = r) : eCall n g ra ω c = r := by
  unfold eCall
  rw [h1]
  show (match Nat.beq xs.length n with | true => g xs c1 | false => .no) = r
  rw [h0]
  exact h2
theorem r_asg (h1 : e ω c = .ok w c1) (h2 : tg w ω c1 = .ok ω1 c2) : sAsg e tg ω c = .nx ω1 c2 := by
  unfold sAsg
  rw [h1]
  show (tg w ω c1).run _ = _
  rw [h2]
  rfl
theorem r_set (h1 : e ω c = .ok w c1) : sSet i e ω c = .nx (setK (some w) ω i) c1 := by
  unfold sSet
  rw [h1]
  rfl
theorem r_seq (h1 : s ω c = .nx ω1 c1) (h2 : t ω1 c1 = q) : sSeq s t ω c = q := by
  unfold sSeq
  rw [h1]
  exact h2
theorem r_seqR (h1 : s ω c = .rt w c1) : sSeq s t ω c = .rt w c1 := by
  unfold sSeq
  rw [h1]
theorem r_ret (h1 : e ω c = .ok w c1) : sRet e ω c = .rt w c1 := by
  unfold sRet
  rw [h1]
  rfl
theorem r_ift (h1 : ts ω c = .ok true c1) (h2 : s ω c1 = q) : sIf ts s t ω c = q := by
  unfold sIf
  rw [h1]
  exact h2
theorem r_iff (h1 : ts ω c = .ok false c1) (h2 : t ω c1 = q) : sIf ts s t ω c = q := by
  unfold sIf
  rw [h1]
  exact h2
theorem r_toB (h1 : e ω c = .ok (.bl k) c1) : toB e ω c = .ok k c1 := by
  unfold toB
  rw [h1]
  rfl
end
theorem mul_lit {i j : Int} (c : Ch) (h : Nat.blt j.natAbs 18446744073709551616 = true) : fMul (.int i) (.int j) c = .ok (.int (i * j)) c := by
  have e : mulC i j = true := by
    unfold mulC
    rw [h, Bool.or_true]
  have e1 : fMulI (.int i) (.int j) c = .ok (.int (i * j)) c := by
    show (match mulC i j with | true => R.ok (W.int (i * j)) c | false => .no) = _
    rw [e]
  show (match fMulI (.int i) (.int j) c with | .ok w c' => R.ok w c' | .no => _) = _
  rw [e1]
/-! a draw: from the bowl at the small heap's 0 -/
noncomputable abbrev c0 (far stir : Int) : Ch := Ch.nil.push [W.int far, W.int stir]
theorem d_ix0 (far stir : Int) (x y : Option W) : eBin fIx (eVar 0) (eC (.int 0)) [some (.ref 0), x, y] (c0 far stir) = .ok (.int far) (c0 far stir) := rfl
theorem d_ix1 (far stir : Int) (x y : Option W) : eBin fIx (eVar 0) (eC (.int 1)) [some (.ref 0), x, y] (c0 far stir) = .ok (.int stir) (c0 far stir) := rfl
noncomputable def stirA (s : Int) : Int := (s * 36969 + 19) % 2147483423
noncomputable def stirB (s : Int) : Int := (s * 18000 + s / 6263) % 2147483423
theorem draw_rest (far stir m : Int) (y : Option W) (hm : ilt 0 m = true) :
    (sSeq (sAsg (eBin fMod (eCB cInt (aCons (eBin fAdd (eBin fMul (eBin fIx (eVar 0) (eC (.int 1))) (eC (.int 36969))) (eC (.int 19))) aNil)) (eC (.int 2147483423))) (gSb (eVar 0) (eC (.int 1)))) (sSeq (sAsg (eBin fMod (eCB cInt (aCons (eBin fAdd (eBin fMul (eBin fIx (eVar 0) (eC (.int 1))) (eC (.int 18000))) (eBin fDiv (eBin fIx (eVar 0) (eC (.int 1))) (eC (.int 6263)))) aNil)) (eC (.int 2147483423))) (gSb (eVar 0) (eC (.int 1)))) (sRet (eBin fMod (eCB cInt (aCons (eBin fDiv (eBin fIx (eVar 0) (eC (.int 1))) (eC (.int 907))) aNil)) (eVar 1)))))
      [some (.ref 0), some (.int m), y] (c0 far stir) = .rt (.int (stirB (stirA stir) / 907 % m)) (c0 far (stirB (stirA stir))) :=
  r_seq (c1 := c0 far (stirA stir)) (r_asg (r_bin (r_cb (r_one (r_bin (r_bin (d_ix1 _ _ _ _) rfl (mul_lit _ rfl)) rfl rfl)) rfl) rfl rfl) rfl)
    (r_seq (c1 := c0 far (stirB (stirA stir))) (r_asg (r_bin (r_cb (r_one (r_bin (r_bin (d_ix1 _ _ _ _) rfl (mul_lit _ rfl)) (r_bin (d_ix1 _ _ _ _) rfl rfl) rfl)) rfl) rfl rfl) rfl)
      (r_ret (r_bin (r_cb (r_one (r_bin (d_ix1 _ _ _ _) rfl rfl)) rfl) rfl (by
        show (match ilt 0 m with | true => R.ok (W.int (stirB (stirA stir) / 907 % m)) _ | false => .no) = _
        rw [hm]))))
theorem draw_run (far stir m : Int) (hm : ilt 0 m = true) (hM : ilt m 1073741824 = true) : b__law_draw [some (.ref 0), some (.int m), none] (c0 far stir) =
    (match ilt 0 far with | true => .rt (.int (far % m)) (c0 (far / m) stir) | false => .rt (.int (stirB (stirA stir) / 907 % m)) (c0 far (stirB (stirA stir)))) := by
  have ht : toB (eBin fGt (eBin fIx (eVar 0) (eC (.int 0))) (eC (.int 0))) [some (.ref 0), some (.int m), none] (c0 far stir) = .ok (ilt 0 far) (c0 far stir) := rfl
  cases e : ilt 0 far with
  | true =>
    rw [e] at ht
    have hd : cDivmod [.int far, .int m] (c0 far stir) = .ok (.tup [.int (far / m), .int (far % m)]) (c0 far stir) := by
      show (match ilt 0 m && ilt m 1073741824 with | true => R.ok (W.tup [.int (far / m), .int (far % m)]) (c0 far stir) | false => .no) = _
      rw [hm, hM]
      rfl
    exact r_seqR (r_ift ht (r_seq (c1 := c0 (far / m) stir) (ω1 := [some (.ref 0), some (.int m), some (.int (far % m))]) (r_asg (r_cb (r_cons (d_ix0 _ _ _ _) (r_one rfl)) hd) rfl) (r_ret rfl)))
  | false =>
    rw [e] at ht
    exact r_seq (r_iff ht rfl) (draw_rest far stir m none hm)
theorem draw_ok (far stir m : Int) (h : 0 ≤ far) (hs : 0 ≤ stir) (hm : ilt 0 m = true) (hM : ilt m 1073741824 = true) :
    ∃ (d : Nat) (far' stir' : Int), (d : Int) < m ∧ 0 ≤ far' ∧ 0 ≤ stir' ∧ r__law_draw [.ref 0, .int m] (c0 far stir) = .ok (.int d) (c0 far' stir') := by
  have hq := draw_run far stir m hm hM
  have hp : 0 < m := by
    rw [ilt_eq] at hm
    exact of_decide_eq_true hm
  have fin : ∀ (w : W) (c : Ch), b__law_draw [some (.ref 0), some (.int m), none] (c0 far stir) = .rt w c → r__law_draw [.ref 0, .int m] (c0 far stir) = .ok w c := by
    intro w c e
    show (match b__law_draw [some (.ref 0), some (.int m), none] (c0 far stir) with
      | .rt w c1 => R.ok w c1
      | .nx _ c1 => .ok .non c1
      | _ => .no) = _
    rw [e]
  have sb : ∀ s : Int, 0 ≤ stirB s := fun s => Int.emod_nonneg _ (by decide)
  cases e : ilt 0 far with
  | true =>
    rw [e] at hq
    have h1 := Int.emod_nonneg far (Int.ne_of_gt hp)
    refine ⟨(far % m).toNat, far / m, stir, ?_, Int.ediv_nonneg h (Int.le_of_lt hp), hs, ?_⟩
    · rw [Int.toNat_of_nonneg h1]
      exact Int.emod_lt_of_pos far hp
    · rw [Int.toNat_of_nonneg h1]
      exact fin _ _ hq
  | false =>
    rw [e] at hq
    have h1 := Int.emod_nonneg (stirB (stirA stir) / 907) (Int.ne_of_gt hp)
    refine ⟨(stirB (stirA stir) / 907 % m).toNat, far, stirB (stirA stir), ?_, h, sb _, ?_⟩
    · rw [Int.toNat_of_nonneg h1]
      exact Int.emod_lt_of_pos _ hp
    · rw [Int.toNat_of_nonneg h1]
      exact fin _ _ hq
theorem of_ok (far stir : Int) (ws : List W) (h : 0 ≤ far) (hs : 0 ≤ stir) (hm : ilt 0 (lenK ws : Nat) = true) (hM : ilt (lenK ws : Nat) 1073741824 = true) :
    ∃ (d : Nat) (w : W) (far' stir' : Int), ws[d]? = some w ∧ 0 ≤ far' ∧ 0 ≤ stir' ∧ r__law_of [.ref 0, .tup ws] (c0 far stir) = .ok w (c0 far' stir') := by
  obtain ⟨d, far', stir', h1, h2, h3, h4⟩ := draw_ok far stir (lenK ws : Nat) h hs hm hM
  have hl : d < ws.length := by
    rw [lenK_eq] at h1
    omega
  obtain ⟨w, hw⟩ : ∃ w, ws[d]? = some w := ⟨_, List.getElem?_eq_getElem hl⟩
  refine ⟨d, w, far', stir', hw, h2, h3, ?_⟩
  have hb : b__law_of [some (.ref 0), some (.tup ws)] (c0 far stir) = .rt w (c0 far' stir') := by
    refine r_ret (r_bin (x := .tup ws) (y := .int d) rfl (r_call (r_cons (x := .ref 0) rfl (r_one (r_cb (r_one rfl) rfl))) rfl h4) ?_)
    show (match getK ws d with | some w => R.ok w _ | none => .no) = _
    rw [getK_eq, hw]
  show (match b__law_of [some (.ref 0), some (.tup ws)] (c0 far stir) with
    | .rt w c1 => R.ok w c1
    | .nx _ c1 => .ok .non c1
    | _ => .no) = _
  rw [hb]
end Sm
namespace Sm
open PySem PySem.Spec PyProof.Rows L2
section
variable {P : Program} {w : World} {K : PySem.W.Frag} {mg : Str → Option Value} {base : Heap}
abbrev s__law_right : Stmt := top 32
abbrev N_right : List Str := ["bowl", "lap", "far", "rows", "order", "due", "small", "found", "k", "prime", "odd", "one", "two", "bad", "told"]
theorem sc__law_right : FnScope N_right ["bowl"] (defScope s__law_right) := ⟨rfl, rfl, rfl, by decide +kernel, rfl, by decide +kernel, by decide +kernel⟩
abbrev rX (P : Program) (w : World) (K : PySem.W.Frag) (mg : Str → Option Value) (base : Heap) (f : Addr) (cdv : Value) (A : Around) (outer : List Env) (s : Shared) (H : Hp) (E : XK) : Cx := (cxOf CX0 P w K mg base N_right "_law_right" (defScope s__law_right) f cdv A outer s H E).nox
def loopBody (st : Stmt) : List Stmt := match st with
  | .For _ _ b _ _ => b
  | _ => []
abbrev lb_right : List Stmt := loopBody ((defBody s__law_right).getD 0 (.Pass ⟨0, 0, 0, 0⟩))
noncomputable def p_q1_1 : EvS := (sSeq (sSet 10 (eBin fAdd (eC (.int 3)) (eBin fMul (eC (.int 2)) (eCall 2 r__law_draw (aCons (eVar 0) (aCons (eC (.int 20)) aNil)))))) (sSeq (sAsg (eTup (aCons (eCall 1 (alone r_polynomial) (aCons (eVar 10) aNil)) (aCons (eCall 1 (alone r_polynomial) (aCons (eBin fMul (eC (.int 2)) (eVar 10)) aNil)) aNil))) (gT 2 (gsCons (gN 11) (gsCons (gN 12) gsNil)))) (sIf (bNot (bTru (eCall 2 (alone (r__law_same 5)) (aCons (eVar 12) (aCons (eCB cTuple (aCons (eLc 1000 [8] (iR1 (aCons (eCB cLen (aCons (eVar 11) aNil)) aNil)) (gN 8) bYes (eIf (toB (eBin fEq (eBin fMod (eCB cInt (aCons (eVar 8) aNil)) (eC (.int 2))) (eC (.int 0)))) (eBin fIx (eVar 11) (eVar 8)) (eBin fSub (eC (.int 0)) (eBin fIx (eVar 11) (eVar 8))))) aNil)) aNil))))) (sRet (eC (.bl false))) sNext)))
noncomputable def p_q1_2 : EvS := (sSeq (sSet 9 (eCall 2 r__law_of (aCons (eVar 0) (aCons (eTup (aCons (eC (.int 2)) (aCons (eC (.int 3)) (aCons (eC (.int 5)) (aCons (eC (.int 7)) (aCons (eC (.int 11)) (aCons (eC (.int 13)) (aCons (eC (.int 29)) (aCons (eC (.int 59)) (aCons (eC (.int 113)) aNil)))))))))) aNil)))) (sSeq (sIf (bNot (bTru (eCall 2 (alone (r__law_same 5)) (aCons (eCall 1 (alone r_polynomial) (aCons (eVar 9) aNil)) (aCons (eBin fMul (eTup (aCons (eC (.int 1)) aNil)) (eVar 9)) aNil))))) (sRet (eC (.bl false))) sNext) (sSub 0 p_q1_1)))
noncomputable def p_q1_3 : EvS := (sSeq (sPar 6 7 (aCons (eBin fAdd (eC (.int 1)) (eCall 2 r__law_draw (aCons (eVar 0) (aCons (eC (.int 30)) aNil)))) (aCons (eLst (aCons (eC (.int 1)) aNil)) aNil))) (sSeq (sFor 1000 (iR2 (aCons (eC (.int 1)) (aCons (eBin fAdd (eVar 6) (eC (.int 1))) aNil))) (gN 8) (sIf (toB (eBin fEq (eBin fMod (eCB cInt (aCons (eVar 6) aNil)) (eVar 8)) (eC (.int 0)))) (sSet 7 (eCall 2 r__law_product (aCons (eVar 7) (aCons (eCB cList (aCons (eCall 1 (alone r_polynomial) (aCons (eVar 8) aNil)) aNil)) aNil)))) sNext)) (sSeq (sIf (toB (eBin fNe (eVar 7) (eBin fAdd (eBin fAdd (eLst (aCons (eBin fSub (eC (.int 0)) (eC (.int 1))) aNil)) (eBin fMul (eLst (aCons (eC (.int 0)) aNil)) (eBin fSub (eVar 6) (eC (.int 1))))) (eLst (aCons (eC (.int 1)) aNil))))) (sRet (eC (.bl false))) sNext) (sSub 0 p_q1_2))))
noncomputable def p_q1_4 : EvS := (sSeq (sSet 4 (eBin fAdd (eC (.int 1)) (eCall 2 r__law_draw (aCons (eVar 0) (aCons (eC (.int 120)) aNil))))) (sSeq (sSet 5 (eCall 1 (alone r__law_polynomial) (aCons (eVar 4) aNil))) (sSeq (sIf (bNot (bTru (eCall 2 (alone (r__law_same 5)) (aCons (eTup (aCons (eCall 1 (alone r_polynomial) (aCons (eVar 4) aNil)) (aCons (eCall 1 (alone r_polynomial) (aCons (eVar 4) aNil)) (aCons (eCB cLen (aCons (eVar 5) aNil)) (aCons (eBin fIx (eVar 5) (eUn fNeg (eC (.int 1)))) aNil))))) (aCons (eTup (aCons (eVar 5) (aCons (eVar 5) (aCons (eBin fAdd (eCall 1 (alone r__law_degree) (aCons (eVar 4) aNil)) (eC (.int 1))) (aCons (eC (.int 1)) aNil))))) aNil))))) (sRet (eC (.bl false))) sNext) (sSub 0 p_q1_3))))
noncomputable def q1 : EvS := (sSub 0 p_q1_4)
theorem ok_q1 {f : Addr} {cdv : Value} {A : Around} {outer : List Env} {s : Shared} {H : Hp} {E : XK} (T : Bs mg) (h__law_degree : Has P w K mg base 2 "_law_degree" 1 r__law_degree) (h__law_draw : Has P w K mg base 1 "_law_draw" 2 r__law_draw) (h__law_of : Has P w K mg base 2 "_law_of" 2 r__law_of) (h__law_polynomial : Has P w K mg base 2 "_law_polynomial" 1 r__law_polynomial) (h__law_product : Has P w K mg base 1 "_law_product" 2 r__law_product) (h__law_same : Has P w K mg base 6 "_law_same" 2 (r__law_same 5)) (h_polynomial : Has P w K mg base 5 "polynomial" 1 r_polynomial) (hk_polynomial : HasK P w K mg base 5 "polynomial" ["order"] r_polynomial) (hr : Room 8 (rX P w K mg base f cdv A outer s H E).A) : PSs (rX P w K mg base f cdv A outer s H E) (lb_right.take 11) (tX K q1) :=
  (x_sub 0 (x_cons (x_set (i := 4) sc__law_right.nd (q_add q_int (q_call h__law_draw (hr.mono (by first | exact Nat.le_refl _ | omega)) (a_cons (q_v 0) (a_cons q_int a_nil)))))
      (x_cons (x_set (i := 5) sc__law_right.nd (q_call (h__law_polynomial.alone) (hr.mono (by first | exact Nat.le_refl _ | omega)) (a_cons (q_v 4) a_nil)))
      (x_cons (x_if (u_not (u_tru (q_call (h__law_same.alone) (hr.mono (by first | exact Nat.le_refl _ | omega)) (a_cons (q_tup (a_cons (q_call (h_polynomial.alone) (hr.mono (by first | exact Nat.le_refl _ | omega)) (a_cons (q_v 4) a_nil)) (a_cons (q_callk (hk_polynomial.alone) (hr.mono (by first | exact Nat.le_refl _ | omega)) (k_cons (q_v 4) k_nil)) (a_cons (q_len T.b_len (a_cons (q_v 5) a_nil)) (a_cons (q_ix (q_v 5) (q_neg q_int)) a_nil))))) (a_cons (q_tup (a_cons (q_v 5) (a_cons (q_v 5) (a_cons (q_add (q_call (h__law_degree.alone) (hr.mono (by first | exact Nat.le_refl _ | omega)) (a_cons (q_v 4) a_nil)) q_int) (a_cons q_int a_nil))))) a_nil))))) (x_one (x_ret q_bl)) x_nil)
      (x_sub 0 (x_cons (x_par (i := 6) (j := 7) rfl sc__law_right.nd (a_cons (q_add q_int (q_call h__law_draw (hr.mono (by first | exact Nat.le_refl _ | omega)) (a_cons (q_v 0) (a_cons q_int a_nil)))) (a_cons (q_lst (a_cons q_int a_nil)) a_nil)))
      (x_cons (x_for 1000 PassesOwn.never rfl (i_rng2 T.b_range (a_cons q_int (a_cons (q_add (q_v 6) q_int) a_nil))) (g_name (i := 8) sc__law_right.nd) (x_one (x_if (u_cmp (op_eqA hr.units) ok_eq (q_mod (q_toInt T.b_int (a_cons (q_v 6) a_nil)) (q_v 8)) q_int (nomark _)) (x_one (x_set (i := 7) sc__law_right.nd (q_call h__law_product (hr.mono (by first | exact Nat.le_refl _ | omega)) (a_cons (q_v 7) (a_cons (q_list T.b_list (a_cons (q_call (h_polynomial.alone) (hr.mono (by first | exact Nat.le_refl _ | omega)) (a_cons (q_v 8) a_nil)) a_nil)) a_nil))))) x_nil)))
      (x_cons (x_if (u_cmp (opr_or op_ne (op_neD hr.units)) ok_ne (q_v 7) (q_add (q_add (q_lst (a_cons (q_sub q_int q_int) a_nil)) (q_mul (q_lst (a_cons q_int a_nil)) (q_sub (q_v 6) q_int))) (q_lst (a_cons q_int a_nil))) (nomark _)) (x_one (x_ret q_bl)) x_nil)
      (x_sub 0 (x_cons (x_set (i := 9) sc__law_right.nd (q_call h__law_of (hr.mono (by first | exact Nat.le_refl _ | omega)) (a_cons (q_v 0) (a_cons (q_tup (a_cons q_int (a_cons q_int (a_cons q_int (a_cons q_int (a_cons q_int (a_cons q_int (a_cons q_int (a_cons q_int (a_cons q_int a_nil)))))))))) a_nil))))
      (x_cons (x_if (u_not (u_tru (q_call (h__law_same.alone) (hr.mono (by first | exact Nat.le_refl _ | omega)) (a_cons (q_call (h_polynomial.alone) (hr.mono (by first | exact Nat.le_refl _ | omega)) (a_cons (q_v 9) a_nil)) (a_cons (q_mul (q_tup (a_cons q_int a_nil)) (q_v 9)) a_nil))))) (x_one (x_ret q_bl)) x_nil)
      (x_sub 0 (x_cons (x_set (i := 10) sc__law_right.nd (q_add q_int (q_mul q_int (q_call h__law_draw (hr.mono (by first | exact Nat.le_refl _ | omega)) (a_cons (q_v 0) (a_cons q_int a_nil))))))
      (x_cons (x_asg (q_tup (a_cons (q_call (h_polynomial.alone) (hr.mono (by first | exact Nat.le_refl _ | omega)) (a_cons (q_v 10) a_nil)) (a_cons (q_call (h_polynomial.alone) (hr.mono (by first | exact Nat.le_refl _ | omega)) (a_cons (q_mul q_int (q_v 10)) a_nil)) a_nil))) (g_tup rfl (gs_cons (g_name (i := 11) sc__law_right.nd) (gs_cons (g_name (i := 12) sc__law_right.nd) gs_nil))))
      (x_one (x_if (u_not (u_tru (q_call (h__law_same.alone) (hr.mono (by first | exact Nat.le_refl _ | omega)) (a_cons (q_v 12) (a_cons (q_tuple T.b_tuple (a_cons (q_lc 1000 [("k", 8)] rfl sc__law_right.nd (i_rng1 T.b_range (a_cons (q_len T.b_len (a_cons (q_v 11) a_nil)) a_nil)) (blkOk_by (by kernel_rfl)) (gc_name (by decide)) (fun _ _ _ _ _ => (pg_n 8 sc__law_right.nd)) (fun _ _ _ _ _ => ts_nil) (fun _ _ _ _ _ => (q_if (u_cmp (op_eqA hr.units) ok_eq (q_mod (q_toInt T.b_int (a_cons (q_v 8) a_nil)) q_int) q_int (nomark _)) (q_ix (q_v 11) (q_v 8)) (q_sub q_int (q_ix (q_v 11) (q_v 8)))))) a_nil)) a_nil))))) (x_one (x_ret q_bl)) x_nil))))))))))))))))
noncomputable def q2 : EvS := (sSet 13 (eCall 2 r__law_of (aCons (eVar 0) (aCons (eTup (aCons (eC .non) (aCons (eC (.int 0)) (aCons (eC (.int 121)) (aCons (eBin fSub (eC (.int 0)) (eC (.int 1))) (aCons (eC (.bl true)) (aCons (eC (.str "1")) (aCons (eTup (aCons (eC (.int 1)) aNil)) (aCons (eC .mt) (aCons (eC .emp) (aCons (eBin fPow (eC (.int 10)) (eC (.int 30))) aNil))))))))))) aNil))))
theorem ok_q2 {f : Addr} {cdv : Value} {A : Around} {outer : List Env} {s : Shared} {H : Hp} {E : XK} (T : Bs mg) (h__law_of : Has P w K mg base 2 "_law_of" 2 r__law_of) (hr : Room 8 (rX P w K mg base f cdv A outer s H E).A) : PSs (rX P w K mg base f cdv A outer s H E) [lb_right.getD 11 (.Pass ⟨0, 0, 0, 0⟩)] (tX K q2) :=
  (x_one (x_set (i := 13) sc__law_right.nd (q_call h__law_of (hr.mono (by first | exact Nat.le_refl _ | omega)) (a_cons (q_v 0) (a_cons (q_tup (a_cons q_non (a_cons q_int (a_cons q_int (a_cons (q_sub q_int q_int) (a_cons q_bl (a_cons q_str (a_cons (q_tup (a_cons q_int a_nil)) (a_cons q_mt (a_cons q_emp (a_cons (q_pow q_int q_int) a_nil))))))))))) a_nil)))))
noncomputable def q3 : EvS := (sIf (bNot (bTru (eCall 2 (alone (r__law_same 5)) (aCons (eVar 14) (aCons (eTup (aCons (eTup (aCons (eC (.str "teeth")) (aCons (eVar 13) aNil))) (aCons (eTup (aCons (eC (.str "teeth")) (aCons (eVar 13) aNil))) aNil))) aNil))))) (sRet (eC (.bl false))) sNext)
theorem ok_q3 {f : Addr} {cdv : Value} {A : Around} {outer : List Env} {s : Shared} {H : Hp} {E : XK} (T : Bs mg) (h__law_same : Has P w K mg base 6 "_law_same" 2 (r__law_same 5)) (hr : Room 8 (rX P w K mg base f cdv A outer s H E).A) : PSs (rX P w K mg base f cdv A outer s H E) [lb_right.getD 14 (.Pass ⟨0, 0, 0, 0⟩)] (tX K q3) :=
  (x_one (x_if (u_not (u_tru (q_call (h__law_same.alone) (hr.mono (by first | exact Nat.le_refl _ | omega)) (a_cons (q_v 14) (a_cons (q_tup (a_cons (q_tup (a_cons q_str (a_cons (q_v 13) a_nil))) (a_cons (q_tup (a_cons q_str (a_cons (q_v 13) a_nil))) a_nil))) a_nil))))) (x_one (x_ret q_bl)) x_nil))
noncomputable def p_q4_1 : EvS := (sSeq (sSet 2 (eCall 1 (alone r_polynomial) (aCons (eC (.int 105)) aNil))) (sSeq (sSet 3 (eTup (aCons (eTup (aCons (eC (.int 1)) (aCons (eTup (aCons (eBin fSub (eC (.int 0)) (eC (.int 1))) (aCons (eC (.int 1)) aNil))) aNil))) (aCons (eTup (aCons (eC (.int 2)) (aCons (eTup (aCons (eC (.int 1)) (aCons (eC (.int 1)) aNil))) aNil))) (aCons (eTup (aCons (eC (.int 8)) (aCons (eTup (aCons (eC (.int 1)) (aCons (eC (.int 0)) (aCons (eC (.int 0)) (aCons (eC (.int 0)) (aCons (eC (.int 1)) aNil)))))) aNil))) (aCons (eTup (aCons (eC (.int 12)) (aCons (eTup (aCons (eC (.int 1)) (aCons (eC (.int 0)) (aCons (eBin fSub (eC (.int 0)) (eC (.int 1))) (aCons (eC (.int 0)) (aCons (eC (.int 1)) aNil)))))) aNil))) (aCons (eTup (aCons (eC (.int 6)) (aCons (eTup (aCons (eC (.int 1)) (aCons (eBin fSub (eC (.int 0)) (eC (.int 1))) (aCons (eC (.int 1)) aNil)))) aNil))) aNil))))))) (sSeq (sIf (toB (eBin fNe (eLc 1000 [8, 5] (iSq (eVar 3)) (gT 2 (gsCons (gN 8) (gsCons (gN 5) gsNil))) (bNot (bTru (eCall 2 (alone (r__law_same 5)) (aCons (eCall 1 (alone r_polynomial) (aCons (eVar 8) aNil)) (aCons (eVar 5) aNil))))) (eVar 8)) (eLst aNil))) (sRet (eC (.bl false))) sNext) (sRet (eCall 2 (alone (r__law_same 5)) (aCons (eTup (aCons (eBin fIx (eVar 2) (eC (.int 7))) (aCons (eBin fIx (eVar 2) (eC (.int 41))) (aCons (eCB cLen (aCons (eVar 2) aNil)) aNil)))) (aCons (eTup (aCons (eBin fSub (eC (.int 0)) (eC (.int 2))) (aCons (eBin fSub (eC (.int 0)) (eC (.int 2))) (aCons (eC (.int 49)) aNil)))) aNil)))))))
noncomputable def q4 : EvS := (sSub 0 p_q4_1)
theorem ok_q4 {f : Addr} {cdv : Value} {A : Around} {outer : List Env} {s : Shared} {H : Hp} {E : XK} (T : Bs mg) (h__law_same : Has P w K mg base 6 "_law_same" 2 (r__law_same 5)) (h_polynomial : Has P w K mg base 5 "polynomial" 1 r_polynomial) (hr : Room 8 (rX P w K mg base f cdv A outer s H E).A) : PSs (rX P w K mg base f cdv A outer s H E) ((defBody s__law_right).drop 1) (tX K q4) :=
  (x_sub 0 (x_cons (x_set (i := 2) sc__law_right.nd (q_call (h_polynomial.alone) (hr.mono (by first | exact Nat.le_refl _ | omega)) (a_cons q_int a_nil)))
      (x_cons (x_set (i := 3) sc__law_right.nd (q_tup (a_cons (q_tup (a_cons q_int (a_cons (q_tup (a_cons (q_sub q_int q_int) (a_cons q_int a_nil))) a_nil))) (a_cons (q_tup (a_cons q_int (a_cons (q_tup (a_cons q_int (a_cons q_int a_nil))) a_nil))) (a_cons (q_tup (a_cons q_int (a_cons (q_tup (a_cons q_int (a_cons q_int (a_cons q_int (a_cons q_int (a_cons q_int a_nil)))))) a_nil))) (a_cons (q_tup (a_cons q_int (a_cons (q_tup (a_cons q_int (a_cons q_int (a_cons (q_sub q_int q_int) (a_cons q_int (a_cons q_int a_nil)))))) a_nil))) (a_cons (q_tup (a_cons q_int (a_cons (q_tup (a_cons q_int (a_cons (q_sub q_int q_int) (a_cons q_int a_nil)))) a_nil))) a_nil)))))))
      (x_cons (x_if (u_cmp (opr_or op_ne (op_neD hr.units)) ok_ne (q_lc 1000 [("k", 8), ("due", 5)] rfl sc__law_right.nd (i_seq (q_v 3)) (blkOk_by (by kernel_rfl)) (gc_tup (gcs_cons (gc_name (by decide)) (gcs_cons (gc_name (by decide)) gcs_nil))) (fun _ _ _ _ _ => (pg_tup rfl (pgs_cons (pg_n 8 sc__law_right.nd) (pgs_cons (pg_n 5 sc__law_right.nd) pgs_nil)))) (fun _ _ _ _ _ => (pts_one (u_not (u_tru (q_call (h__law_same.alone) (hr.mono (by first | exact Nat.le_refl _ | omega)) (a_cons (q_call (h_polynomial.alone) (hr.mono (by first | exact Nat.le_refl _ | omega)) (a_cons (q_v 8) a_nil)) (a_cons (q_v 5) a_nil))))))) (fun _ _ _ _ _ => (q_v 8))) (q_lst a_nil) (nomark _)) (x_one (x_ret q_bl)) x_nil)
      (x_one (x_ret (q_call (h__law_same.alone) (hr.mono (by first | exact Nat.le_refl _ | omega)) (a_cons (q_tup (a_cons (q_ix (q_v 2) q_int) (a_cons (q_ix (q_v 2) q_int) (a_cons (q_len T.b_len (a_cons (q_v 2) a_nil)) a_nil)))) (a_cons (q_tup (a_cons (q_sub q_int q_int) (a_cons (q_sub q_int q_int) (a_cons q_int a_nil)))) a_nil)))))))))
end
end Sm
namespace Sm
open PySem PySem.Spec PyProof.Rows L2
noncomputable def k4 : EvS := (sSeq (sSet 5 (eCall 1 (alone r__law_polynomial) (aCons (eVar 4) aNil))) (sIf (bNot (bTru (eCall 2 (alone (r__law_same 5)) (aCons (eTup (aCons (eCall 1 (alone r_polynomial) (aCons (eVar 4) aNil)) (aCons (eCall 1 (alone r_polynomial) (aCons (eVar 4) aNil)) (aCons (eCB cLen (aCons (eVar 5) aNil)) (aCons (eBin fIx (eVar 5) (eUn fNeg (eC (.int 1)))) aNil))))) (aCons (eTup (aCons (eVar 5) (aCons (eVar 5) (aCons (eBin fAdd (eCall 1 (alone r__law_degree) (aCons (eVar 4) aNil)) (eC (.int 1))) (aCons (eC (.int 1)) aNil))))) aNil))))) (sRet (eC (.bl false))) sNext))
noncomputable def k3 : EvS := (sSeq (sFor 1000 (iR2 (aCons (eC (.int 1)) (aCons (eBin fAdd (eVar 6) (eC (.int 1))) aNil))) (gN 8) (sIf (toB (eBin fEq (eBin fMod (eCB cInt (aCons (eVar 6) aNil)) (eVar 8)) (eC (.int 0)))) (sSet 7 (eCall 2 r__law_product (aCons (eVar 7) (aCons (eCB cList (aCons (eCall 1 (alone r_polynomial) (aCons (eVar 8) aNil)) aNil)) aNil)))) sNext)) (sIf (toB (eBin fNe (eVar 7) (eBin fAdd (eBin fAdd (eLst (aCons (eBin fSub (eC (.int 0)) (eC (.int 1))) aNil)) (eBin fMul (eLst (aCons (eC (.int 0)) aNil)) (eBin fSub (eVar 6) (eC (.int 1))))) (eLst (aCons (eC (.int 1)) aNil))))) (sRet (eC (.bl false))) sNext))
noncomputable def k2 : EvS := (sIf (bNot (bTru (eCall 2 (alone (r__law_same 5)) (aCons (eCall 1 (alone r_polynomial) (aCons (eVar 9) aNil)) (aCons (eBin fMul (eTup (aCons (eC (.int 1)) aNil)) (eVar 9)) aNil))))) (sRet (eC (.bl false))) sNext)
noncomputable def k1 : EvS := (sSeq (sAsg (eTup (aCons (eCall 1 (alone r_polynomial) (aCons (eVar 10) aNil)) (aCons (eCall 1 (alone r_polynomial) (aCons (eBin fMul (eC (.int 2)) (eVar 10)) aNil)) aNil))) (gT 2 (gsCons (gN 11) (gsCons (gN 12) gsNil)))) (sIf (bNot (bTru (eCall 2 (alone (r__law_same 5)) (aCons (eVar 12) (aCons (eCB cTuple (aCons (eLc 1000 [8] (iR1 (aCons (eCB cLen (aCons (eVar 11) aNil)) aNil)) (gN 8) bYes (eIf (toB (eBin fEq (eBin fMod (eCB cInt (aCons (eVar 8) aNil)) (eC (.int 2))) (eC (.int 0)))) (eBin fIx (eVar 11) (eVar 8)) (eBin fSub (eC (.int 0)) (eBin fIx (eVar 11) (eVar 8))))) aNil)) aNil))))) (sRet (eC (.bl false))) sNext))
noncomputable def outS (r : RS) : Option (Option (Option W) × Nat × Option (List W)) := match r with
  | .nx ω c => some (ω[0]?, ω.length, c.get 0)
  | _ => none
abbrev good (far stir : Int) : Option (Option (Option W) × Nat × Option (List W)) := some (some (some (.ref 0)), 15, some [.int far, .int stir])

end Sm
namespace Sm
open PySem PySem.Spec PyProof.Rows L2
theorem t4_0 (o1 o2 o3 o5 o6 o7 o8 o9 o10 o11 o12 o13 o14 : Option W) (far stir : Int) : outS (k4 [some (.ref 0), o1, o2, o3, some (.int (1 + ((0 : Nat) : Int))), o5, o6, o7, o8, o9, o10, o11, o12, o13, o14] (c0 far stir)) = good far stir := by kernel_rfl
theorem t4_1 (o1 o2 o3 o5 o6 o7 o8 o9 o10 o11 o12 o13 o14 : Option W) (far stir : Int) : outS (k4 [some (.ref 0), o1, o2, o3, some (.int (1 + ((1 : Nat) : Int))), o5, o6, o7, o8, o9, o10, o11, o12, o13, o14] (c0 far stir)) = good far stir := by kernel_rfl
theorem t4_2 (o1 o2 o3 o5 o6 o7 o8 o9 o10 o11 o12 o13 o14 : Option W) (far stir : Int) : outS (k4 [some (.ref 0), o1, o2, o3, some (.int (1 + ((2 : Nat) : Int))), o5, o6, o7, o8, o9, o10, o11, o12, o13, o14] (c0 far stir)) = good far stir := by kernel_rfl
theorem t4_3 (o1 o2 o3 o5 o6 o7 o8 o9 o10 o11 o12 o13 o14 : Option W) (far stir : Int) : outS (k4 [some (.ref 0), o1, o2, o3, some (.int (1 + ((3 : Nat) : Int))), o5, o6, o7, o8, o9, o10, o11, o12, o13, o14] (c0 far stir)) = good far stir := by kernel_rfl
theorem t4_4 (o1 o2 o3 o5 o6 o7 o8 o9 o10 o11 o12 o13 o14 : Option W) (far stir : Int) : outS (k4 [some (.ref 0), o1, o2, o3, some (.int (1 + ((4 : Nat) : Int))), o5, o6, o7, o8, o9, o10, o11, o12, o13, o14] (c0 far stir)) = good far stir := by kernel_rfl
theorem t4_5 (o1 o2 o3 o5 o6 o7 o8 o9 o10 o11 o12 o13 o14 : Option W) (far stir : Int) : outS (k4 [some (.ref 0), o1, o2, o3, some (.int (1 + ((5 : Nat) : Int))), o5, o6, o7, o8, o9, o10, o11, o12, o13, o14] (c0 far stir)) = good far stir := by kernel_rfl
theorem t4_6 (o1 o2 o3 o5 o6 o7 o8 o9 o10 o11 o12 o13 o14 : Option W) (far stir : Int) : outS (k4 [some (.ref 0), o1, o2, o3, some (.int (1 + ((6 : Nat) : Int))), o5, o6, o7, o8, o9, o10, o11, o12, o13, o14] (c0 far stir)) = good far stir := by kernel_rfl
theorem t4_7 (o1 o2 o3 o5 o6 o7 o8 o9 o10 o11 o12 o13 o14 : Option W) (far stir : Int) : outS (k4 [some (.ref 0), o1, o2, o3, some (.int (1 + ((7 : Nat) : Int))), o5, o6, o7, o8, o9, o10, o11, o12, o13, o14] (c0 far stir)) = good far stir := by kernel_rfl
theorem t4_8 (o1 o2 o3 o5 o6 o7 o8 o9 o10 o11 o12 o13 o14 : Option W) (far stir : Int) : outS (k4 [some (.ref 0), o1, o2, o3, some (.int (1 + ((8 : Nat) : Int))), o5, o6, o7, o8, o9, o10, o11, o12, o13, o14] (c0 far stir)) = good far stir := by kernel_rfl
theorem t4_9 (o1 o2 o3 o5 o6 o7 o8 o9 o10 o11 o12 o13 o14 : Option W) (far stir : Int) : outS (k4 [some (.ref 0), o1, o2, o3, some (.int (1 + ((9 : Nat) : Int))), o5, o6, o7, o8, o9, o10, o11, o12, o13, o14] (c0 far stir)) = good far stir := by kernel_rfl
theorem t4_10 (o1 o2 o3 o5 o6 o7 o8 o9 o10 o11 o12 o13 o14 : Option W) (far stir : Int) : outS (k4 [some (.ref 0), o1, o2, o3, some (.int (1 + ((10 : Nat) : Int))), o5, o6, o7, o8, o9, o10, o11, o12, o13, o14] (c0 far stir)) = good far stir := by kernel_rfl
theorem t4_11 (o1 o2 o3 o5 o6 o7 o8 o9 o10 o11 o12 o13 o14 : Option W) (far stir : Int) : outS (k4 [some (.ref 0), o1, o2, o3, some (.int (1 + ((11 : Nat) : Int))), o5, o6, o7, o8, o9, o10, o11, o12, o13, o14] (c0 far stir)) = good far stir := by kernel_rfl
theorem t4_12 (o1 o2 o3 o5 o6 o7 o8 o9 o10 o11 o12 o13 o14 : Option W) (far stir : Int) : outS (k4 [some (.ref 0), o1, o2, o3, some (.int (1 + ((12 : Nat) : Int))), o5, o6, o7, o8, o9, o10, o11, o12, o13, o14] (c0 far stir)) = good far stir := by kernel_rfl
theorem t4_13 (o1 o2 o3 o5 o6 o7 o8 o9 o10 o11 o12 o13 o14 : Option W) (far stir : Int) : outS (k4 [some (.ref 0), o1, o2, o3, some (.int (1 + ((13 : Nat) : Int))), o5, o6, o7, o8, o9, o10, o11, o12, o13, o14] (c0 far stir)) = good far stir := by kernel_rfl
theorem t4_14 (o1 o2 o3 o5 o6 o7 o8 o9 o10 o11 o12 o13 o14 : Option W) (far stir : Int) : outS (k4 [some (.ref 0), o1, o2, o3, some (.int (1 + ((14 : Nat) : Int))), o5, o6, o7, o8, o9, o10, o11, o12, o13, o14] (c0 far stir)) = good far stir := by kernel_rfl
theorem t4_15 (o1 o2 o3 o5 o6 o7 o8 o9 o10 o11 o12 o13 o14 : Option W) (far stir : Int) : outS (k4 [some (.ref 0), o1, o2, o3, some (.int (1 + ((15 : Nat) : Int))), o5, o6, o7, o8, o9, o10, o11, o12, o13, o14] (c0 far stir)) = good far stir := by kernel_rfl
theorem t4_16 (o1 o2 o3 o5 o6 o7 o8 o9 o10 o11 o12 o13 o14 : Option W) (far stir : Int) : outS (k4 [some (.ref 0), o1, o2, o3, some (.int (1 + ((16 : Nat) : Int))), o5, o6, o7, o8, o9, o10, o11, o12, o13, o14] (c0 far stir)) = good far stir := by kernel_rfl
theorem t4_17 (o1 o2 o3 o5 o6 o7 o8 o9 o10 o11 o12 o13 o14 : Option W) (far stir : Int) : outS (k4 [some (.ref 0), o1, o2, o3, some (.int (1 + ((17 : Nat) : Int))), o5, o6, o7, o8, o9, o10, o11, o12, o13, o14] (c0 far stir)) = good far stir := by kernel_rfl
theorem t4_18 (o1 o2 o3 o5 o6 o7 o8 o9 o10 o11 o12 o13 o14 : Option W) (far stir : Int) : outS (k4 [some (.ref 0), o1, o2, o3, some (.int (1 + ((18 : Nat) : Int))), o5, o6, o7, o8, o9, o10, o11, o12, o13, o14] (c0 far stir)) = good far stir := by kernel_rfl
theorem t4_19 (o1 o2 o3 o5 o6 o7 o8 o9 o10 o11 o12 o13 o14 : Option W) (far stir : Int) : outS (k4 [some (.ref 0), o1, o2, o3, some (.int (1 + ((19 : Nat) : Int))), o5, o6, o7, o8, o9, o10, o11, o12, o13, o14] (c0 far stir)) = good far stir := by kernel_rfl
theorem t4_20 (o1 o2 o3 o5 o6 o7 o8 o9 o10 o11 o12 o13 o14 : Option W) (far stir : Int) : outS (k4 [some (.ref 0), o1, o2, o3, some (.int (1 + ((20 : Nat) : Int))), o5, o6, o7, o8, o9, o10, o11, o12, o13, o14] (c0 far stir)) = good far stir := by kernel_rfl
theorem t4_21 (o1 o2 o3 o5 o6 o7 o8 o9 o10 o11 o12 o13 o14 : Option W) (far stir : Int) : outS (k4 [some (.ref 0), o1, o2, o3, some (.int (1 + ((21 : Nat) : Int))), o5, o6, o7, o8, o9, o10, o11, o12, o13, o14] (c0 far stir)) = good far stir := by kernel_rfl
theorem t4_22 (o1 o2 o3 o5 o6 o7 o8 o9 o10 o11 o12 o13 o14 : Option W) (far stir : Int) : outS (k4 [some (.ref 0), o1, o2, o3, some (.int (1 + ((22 : Nat) : Int))), o5, o6, o7, o8, o9, o10, o11, o12, o13, o14] (c0 far stir)) = good far stir := by kernel_rfl
theorem t4_23 (o1 o2 o3 o5 o6 o7 o8 o9 o10 o11 o12 o13 o14 : Option W) (far stir : Int) : outS (k4 [some (.ref 0), o1, o2, o3, some (.int (1 + ((23 : Nat) : Int))), o5, o6, o7, o8, o9, o10, o11, o12, o13, o14] (c0 far stir)) = good far stir := by kernel_rfl
theorem t4_24 (o1 o2 o3 o5 o6 o7 o8 o9 o10 o11 o12 o13 o14 : Option W) (far stir : Int) : outS (k4 [some (.ref 0), o1, o2, o3, some (.int (1 + ((24 : Nat) : Int))), o5, o6, o7, o8, o9, o10, o11, o12, o13, o14] (c0 far stir)) = good far stir := by kernel_rfl
theorem t4_25 (o1 o2 o3 o5 o6 o7 o8 o9 o10 o11 o12 o13 o14 : Option W) (far stir : Int) : outS (k4 [some (.ref 0), o1, o2, o3, some (.int (1 + ((25 : Nat) : Int))), o5, o6, o7, o8, o9, o10, o11, o12, o13, o14] (c0 far stir)) = good far stir := by kernel_rfl
theorem t4_26 (o1 o2 o3 o5 o6 o7 o8 o9 o10 o11 o12 o13 o14 : Option W) (far stir : Int) : outS (k4 [some (.ref 0), o1, o2, o3, some (.int (1 + ((26 : Nat) : Int))), o5, o6, o7, o8, o9, o10, o11, o12, o13, o14] (c0 far stir)) = good far stir := by kernel_rfl
theorem t4_27 (o1 o2 o3 o5 o6 o7 o8 o9 o10 o11 o12 o13 o14 : Option W) (far stir : Int) : outS (k4 [some (.ref 0), o1, o2, o3, some (.int (1 + ((27 : Nat) : Int))), o5, o6, o7, o8, o9, o10, o11, o12, o13, o14] (c0 far stir)) = good far stir := by kernel_rfl
theorem t4_28 (o1 o2 o3 o5 o6 o7 o8 o9 o10 o11 o12 o13 o14 : Option W) (far stir : Int) : outS (k4 [some (.ref 0), o1, o2, o3, some (.int (1 + ((28 : Nat) : Int))), o5, o6, o7, o8, o9, o10, o11, o12, o13, o14] (c0 far stir)) = good far stir := by kernel_rfl
theorem t4_29 (o1 o2 o3 o5 o6 o7 o8 o9 o10 o11 o12 o13 o14 : Option W) (far stir : Int) : outS (k4 [some (.ref 0), o1, o2, o3, some (.int (1 + ((29 : Nat) : Int))), o5, o6, o7, o8, o9, o10, o11, o12, o13, o14] (c0 far stir)) = good far stir := by kernel_rfl
theorem t4_30 (o1 o2 o3 o5 o6 o7 o8 o9 o10 o11 o12 o13 o14 : Option W) (far stir : Int) : outS (k4 [some (.ref 0), o1, o2, o3, some (.int (1 + ((30 : Nat) : Int))), o5, o6, o7, o8, o9, o10, o11, o12, o13, o14] (c0 far stir)) = good far stir := by kernel_rfl
theorem t4_31 (o1 o2 o3 o5 o6 o7 o8 o9 o10 o11 o12 o13 o14 : Option W) (far stir : Int) : outS (k4 [some (.ref 0), o1, o2, o3, some (.int (1 + ((31 : Nat) : Int))), o5, o6, o7, o8, o9, o10, o11, o12, o13, o14] (c0 far stir)) = good far stir := by kernel_rfl
theorem t4_32 (o1 o2 o3 o5 o6 o7 o8 o9 o10 o11 o12 o13 o14 : Option W) (far stir : Int) : outS (k4 [some (.ref 0), o1, o2, o3, some (.int (1 + ((32 : Nat) : Int))), o5, o6, o7, o8, o9, o10, o11, o12, o13, o14] (c0 far stir)) = good far stir := by kernel_rfl
theorem t4_33 (o1 o2 o3 o5 o6 o7 o8 o9 o10 o11 o12 o13 o14 : Option W) (far stir : Int) : outS (k4 [some (.ref 0), o1, o2, o3, some (.int (1 + ((33 : Nat) : Int))), o5, o6, o7, o8, o9, o10, o11, o12, o13, o14] (c0 far stir)) = good far stir := by kernel_rfl
theorem t4_34 (o1 o2 o3 o5 o6 o7 o8 o9 o10 o11 o12 o13 o14 : Option W) (far stir : Int) : outS (k4 [some (.ref 0), o1, o2, o3, some (.int (1 + ((34 : Nat) : Int))), o5, o6, o7, o8, o9, o10, o11, o12, o13, o14] (c0 far stir)) = good far stir := by kernel_rfl
theorem t4_35 (o1 o2 o3 o5 o6 o7 o8 o9 o10 o11 o12 o13 o14 : Option W) (far stir : Int) : outS (k4 [some (.ref 0), o1, o2, o3, some (.int (1 + ((35 : Nat) : Int))), o5, o6, o7, o8, o9, o10, o11, o12, o13, o14] (c0 far stir)) = good far stir := by kernel_rfl
theorem t4_36 (o1 o2 o3 o5 o6 o7 o8 o9 o10 o11 o12 o13 o14 : Option W) (far stir : Int) : outS (k4 [some (.ref 0), o1, o2, o3, some (.int (1 + ((36 : Nat) : Int))), o5, o6, o7, o8, o9, o10, o11, o12, o13, o14] (c0 far stir)) = good far stir := by kernel_rfl
theorem t4_37 (o1 o2 o3 o5 o6 o7 o8 o9 o10 o11 o12 o13 o14 : Option W) (far stir : Int) : outS (k4 [some (.ref 0), o1, o2, o3, some (.int (1 + ((37 : Nat) : Int))), o5, o6, o7, o8, o9, o10, o11, o12, o13, o14] (c0 far stir)) = good far stir := by kernel_rfl
theorem t4_38 (o1 o2 o3 o5 o6 o7 o8 o9 o10 o11 o12 o13 o14 : Option W) (far stir : Int) : outS (k4 [some (.ref 0), o1, o2, o3, some (.int (1 + ((38 : Nat) : Int))), o5, o6, o7, o8, o9, o10, o11, o12, o13, o14] (c0 far stir)) = good far stir := by kernel_rfl
theorem t4_39 (o1 o2 o3 o5 o6 o7 o8 o9 o10 o11 o12 o13 o14 : Option W) (far stir : Int) : outS (k4 [some (.ref 0), o1, o2, o3, some (.int (1 + ((39 : Nat) : Int))), o5, o6, o7, o8, o9, o10, o11, o12, o13, o14] (c0 far stir)) = good far stir := by kernel_rfl
theorem t4_40 (o1 o2 o3 o5 o6 o7 o8 o9 o10 o11 o12 o13 o14 : Option W) (far stir : Int) : outS (k4 [some (.ref 0), o1, o2, o3, some (.int (1 + ((40 : Nat) : Int))), o5, o6, o7, o8, o9, o10, o11, o12, o13, o14] (c0 far stir)) = good far stir := by kernel_rfl
theorem t4_41 (o1 o2 o3 o5 o6 o7 o8 o9 o10 o11 o12 o13 o14 : Option W) (far stir : Int) : outS (k4 [some (.ref 0), o1, o2, o3, some (.int (1 + ((41 : Nat) : Int))), o5, o6, o7, o8, o9, o10, o11, o12, o13, o14] (c0 far stir)) = good far stir := by kernel_rfl
theorem t4_42 (o1 o2 o3 o5 o6 o7 o8 o9 o10 o11 o12 o13 o14 : Option W) (far stir : Int) : outS (k4 [some (.ref 0), o1, o2, o3, some (.int (1 + ((42 : Nat) : Int))), o5, o6, o7, o8, o9, o10, o11, o12, o13, o14] (c0 far stir)) = good far stir := by kernel_rfl
theorem t4_43 (o1 o2 o3 o5 o6 o7 o8 o9 o10 o11 o12 o13 o14 : Option W) (far stir : Int) : outS (k4 [some (.ref 0), o1, o2, o3, some (.int (1 + ((43 : Nat) : Int))), o5, o6, o7, o8, o9, o10, o11, o12, o13, o14] (c0 far stir)) = good far stir := by kernel_rfl
theorem t4_44 (o1 o2 o3 o5 o6 o7 o8 o9 o10 o11 o12 o13 o14 : Option W) (far stir : Int) : outS (k4 [some (.ref 0), o1, o2, o3, some (.int (1 + ((44 : Nat) : Int))), o5, o6, o7, o8, o9, o10, o11, o12, o13, o14] (c0 far stir)) = good far stir := by kernel_rfl
theorem t4_45 (o1 o2 o3 o5 o6 o7 o8 o9 o10 o11 o12 o13 o14 : Option W) (far stir : Int) : outS (k4 [some (.ref 0), o1, o2, o3, some (.int (1 + ((45 : Nat) : Int))), o5, o6, o7, o8, o9, o10, o11, o12, o13, o14] (c0 far stir)) = good far stir := by kernel_rfl
theorem t4_46 (o1 o2 o3 o5 o6 o7 o8 o9 o10 o11 o12 o13 o14 : Option W) (far stir : Int) : outS (k4 [some (.ref 0), o1, o2, o3, some (.int (1 + ((46 : Nat) : Int))), o5, o6, o7, o8, o9, o10, o11, o12, o13, o14] (c0 far stir)) = good far stir := by kernel_rfl
theorem t4_47 (o1 o2 o3 o5 o6 o7 o8 o9 o10 o11 o12 o13 o14 : Option W) (far stir : Int) : outS (k4 [some (.ref 0), o1, o2, o3, some (.int (1 + ((47 : Nat) : Int))), o5, o6, o7, o8, o9, o10, o11, o12, o13, o14] (c0 far stir)) = good far stir := by kernel_rfl
theorem t4_48 (o1 o2 o3 o5 o6 o7 o8 o9 o10 o11 o12 o13 o14 : Option W) (far stir : Int) : outS (k4 [some (.ref 0), o1, o2, o3, some (.int (1 + ((48 : Nat) : Int))), o5, o6, o7, o8, o9, o10, o11, o12, o13, o14] (c0 far stir)) = good far stir := by kernel_rfl
theorem t4_49 (o1 o2 o3 o5 o6 o7 o8 o9 o10 o11 o12 o13 o14 : Option W) (far stir : Int) : outS (k4 [some (.ref 0), o1, o2, o3, some (.int (1 + ((49 : Nat) : Int))), o5, o6, o7, o8, o9, o10, o11, o12, o13, o14] (c0 far stir)) = good far stir := by kernel_rfl
theorem t4_50 (o1 o2 o3 o5 o6 o7 o8 o9 o10 o11 o12 o13 o14 : Option W) (far stir : Int) : outS (k4 [some (.ref 0), o1, o2, o3, some (.int (1 + ((50 : Nat) : Int))), o5, o6, o7, o8, o9, o10, o11, o12, o13, o14] (c0 far stir)) = good far stir := by kernel_rfl
theorem t4_51 (o1 o2 o3 o5 o6 o7 o8 o9 o10 o11 o12 o13 o14 : Option W) (far stir : Int) : outS (k4 [some (.ref 0), o1, o2, o3, some (.int (1 + ((51 : Nat) : Int))), o5, o6, o7, o8, o9, o10, o11, o12, o13, o14] (c0 far stir)) = good far stir := by kernel_rfl
theorem t4_52 (o1 o2 o3 o5 o6 o7 o8 o9 o10 o11 o12 o13 o14 : Option W) (far stir : Int) : outS (k4 [some (.ref 0), o1, o2, o3, some (.int (1 + ((52 : Nat) : Int))), o5, o6, o7, o8, o9, o10, o11, o12, o13, o14] (c0 far stir)) = good far stir := by kernel_rfl
theorem t4_53 (o1 o2 o3 o5 o6 o7 o8 o9 o10 o11 o12 o13 o14 : Option W) (far stir : Int) : outS (k4 [some (.ref 0), o1, o2, o3, some (.int (1 + ((53 : Nat) : Int))), o5, o6, o7, o8, o9, o10, o11, o12, o13, o14] (c0 far stir)) = good far stir := by kernel_rfl
theorem t4_54 (o1 o2 o3 o5 o6 o7 o8 o9 o10 o11 o12 o13 o14 : Option W) (far stir : Int) : outS (k4 [some (.ref 0), o1, o2, o3, some (.int (1 + ((54 : Nat) : Int))), o5, o6, o7, o8, o9, o10, o11, o12, o13, o14] (c0 far stir)) = good far stir := by kernel_rfl
theorem t4_55 (o1 o2 o3 o5 o6 o7 o8 o9 o10 o11 o12 o13 o14 : Option W) (far stir : Int) : outS (k4 [some (.ref 0), o1, o2, o3, some (.int (1 + ((55 : Nat) : Int))), o5, o6, o7, o8, o9, o10, o11, o12, o13, o14] (c0 far stir)) = good far stir := by kernel_rfl
theorem t4_56 (o1 o2 o3 o5 o6 o7 o8 o9 o10 o11 o12 o13 o14 : Option W) (far stir : Int) : outS (k4 [some (.ref 0), o1, o2, o3, some (.int (1 + ((56 : Nat) : Int))), o5, o6, o7, o8, o9, o10, o11, o12, o13, o14] (c0 far stir)) = good far stir := by kernel_rfl
theorem t4_57 (o1 o2 o3 o5 o6 o7 o8 o9 o10 o11 o12 o13 o14 : Option W) (far stir : Int) : outS (k4 [some (.ref 0), o1, o2, o3, some (.int (1 + ((57 : Nat) : Int))), o5, o6, o7, o8, o9, o10, o11, o12, o13, o14] (c0 far stir)) = good far stir := by kernel_rfl
theorem t4_58 (o1 o2 o3 o5 o6 o7 o8 o9 o10 o11 o12 o13 o14 : Option W) (far stir : Int) : outS (k4 [some (.ref 0), o1, o2, o3, some (.int (1 + ((58 : Nat) : Int))), o5, o6, o7, o8, o9, o10, o11, o12, o13, o14] (c0 far stir)) = good far stir := by kernel_rfl
theorem t4_59 (o1 o2 o3 o5 o6 o7 o8 o9 o10 o11 o12 o13 o14 : Option W) (far stir : Int) : outS (k4 [some (.ref 0), o1, o2, o3, some (.int (1 + ((59 : Nat) : Int))), o5, o6, o7, o8, o9, o10, o11, o12, o13, o14] (c0 far stir)) = good far stir := by kernel_rfl
theorem t4_60 (o1 o2 o3 o5 o6 o7 o8 o9 o10 o11 o12 o13 o14 : Option W) (far stir : Int) : outS (k4 [some (.ref 0), o1, o2, o3, some (.int (1 + ((60 : Nat) : Int))), o5, o6, o7, o8, o9, o10, o11, o12, o13, o14] (c0 far stir)) = good far stir := by kernel_rfl
theorem t4_61 (o1 o2 o3 o5 o6 o7 o8 o9 o10 o11 o12 o13 o14 : Option W) (far stir : Int) : outS (k4 [some (.ref 0), o1, o2, o3, some (.int (1 + ((61 : Nat) : Int))), o5, o6, o7, o8, o9, o10, o11, o12, o13, o14] (c0 far stir)) = good far stir := by kernel_rfl
theorem t4_62 (o1 o2 o3 o5 o6 o7 o8 o9 o10 o11 o12 o13 o14 : Option W) (far stir : Int) : outS (k4 [some (.ref 0), o1, o2, o3, some (.int (1 + ((62 : Nat) : Int))), o5, o6, o7, o8, o9, o10, o11, o12, o13, o14] (c0 far stir)) = good far stir := by kernel_rfl
theorem t4_63 (o1 o2 o3 o5 o6 o7 o8 o9 o10 o11 o12 o13 o14 : Option W) (far stir : Int) : outS (k4 [some (.ref 0), o1, o2, o3, some (.int (1 + ((63 : Nat) : Int))), o5, o6, o7, o8, o9, o10, o11, o12, o13, o14] (c0 far stir)) = good far stir := by kernel_rfl
theorem t4_64 (o1 o2 o3 o5 o6 o7 o8 o9 o10 o11 o12 o13 o14 : Option W) (far stir : Int) : outS (k4 [some (.ref 0), o1, o2, o3, some (.int (1 + ((64 : Nat) : Int))), o5, o6, o7, o8, o9, o10, o11, o12, o13, o14] (c0 far stir)) = good far stir := by kernel_rfl
theorem t4_65 (o1 o2 o3 o5 o6 o7 o8 o9 o10 o11 o12 o13 o14 : Option W) (far stir : Int) : outS (k4 [some (.ref 0), o1, o2, o3, some (.int (1 + ((65 : Nat) : Int))), o5, o6, o7, o8, o9, o10, o11, o12, o13, o14] (c0 far stir)) = good far stir := by kernel_rfl
theorem t4_66 (o1 o2 o3 o5 o6 o7 o8 o9 o10 o11 o12 o13 o14 : Option W) (far stir : Int) : outS (k4 [some (.ref 0), o1, o2, o3, some (.int (1 + ((66 : Nat) : Int))), o5, o6, o7, o8, o9, o10, o11, o12, o13, o14] (c0 far stir)) = good far stir := by kernel_rfl
theorem t4_67 (o1 o2 o3 o5 o6 o7 o8 o9 o10 o11 o12 o13 o14 : Option W) (far stir : Int) : outS (k4 [some (.ref 0), o1, o2, o3, some (.int (1 + ((67 : Nat) : Int))), o5, o6, o7, o8, o9, o10, o11, o12, o13, o14] (c0 far stir)) = good far stir := by kernel_rfl
theorem t4_68 (o1 o2 o3 o5 o6 o7 o8 o9 o10 o11 o12 o13 o14 : Option W) (far stir : Int) : outS (k4 [some (.ref 0), o1, o2, o3, some (.int (1 + ((68 : Nat) : Int))), o5, o6, o7, o8, o9, o10, o11, o12, o13, o14] (c0 far stir)) = good far stir := by kernel_rfl
theorem t4_69 (o1 o2 o3 o5 o6 o7 o8 o9 o10 o11 o12 o13 o14 : Option W) (far stir : Int) : outS (k4 [some (.ref 0), o1, o2, o3, some (.int (1 + ((69 : Nat) : Int))), o5, o6, o7, o8, o9, o10, o11, o12, o13, o14] (c0 far stir)) = good far stir := by kernel_rfl
theorem t4_70 (o1 o2 o3 o5 o6 o7 o8 o9 o10 o11 o12 o13 o14 : Option W) (far stir : Int) : outS (k4 [some (.ref 0), o1, o2, o3, some (.int (1 + ((70 : Nat) : Int))), o5, o6, o7, o8, o9, o10, o11, o12, o13, o14] (c0 far stir)) = good far stir := by kernel_rfl
theorem t4_71 (o1 o2 o3 o5 o6 o7 o8 o9 o10 o11 o12 o13 o14 : Option W) (far stir : Int) : outS (k4 [some (.ref 0), o1, o2, o3, some (.int (1 + ((71 : Nat) : Int))), o5, o6, o7, o8, o9, o10, o11, o12, o13, o14] (c0 far stir)) = good far stir := by kernel_rfl
theorem t4_72 (o1 o2 o3 o5 o6 o7 o8 o9 o10 o11 o12 o13 o14 : Option W) (far stir : Int) : outS (k4 [some (.ref 0), o1, o2, o3, some (.int (1 + ((72 : Nat) : Int))), o5, o6, o7, o8, o9, o10, o11, o12, o13, o14] (c0 far stir)) = good far stir := by kernel_rfl
theorem t4_73 (o1 o2 o3 o5 o6 o7 o8 o9 o10 o11 o12 o13 o14 : Option W) (far stir : Int) : outS (k4 [some (.ref 0), o1, o2, o3, some (.int (1 + ((73 : Nat) : Int))), o5, o6, o7, o8, o9, o10, o11, o12, o13, o14] (c0 far stir)) = good far stir := by kernel_rfl
theorem t4_74 (o1 o2 o3 o5 o6 o7 o8 o9 o10 o11 o12 o13 o14 : Option W) (far stir : Int) : outS (k4 [some (.ref 0), o1, o2, o3, some (.int (1 + ((74 : Nat) : Int))), o5, o6, o7, o8, o9, o10, o11, o12, o13, o14] (c0 far stir)) = good far stir := by kernel_rfl
theorem t4_75 (o1 o2 o3 o5 o6 o7 o8 o9 o10 o11 o12 o13 o14 : Option W) (far stir : Int) : outS (k4 [some (.ref 0), o1, o2, o3, some (.int (1 + ((75 : Nat) : Int))), o5, o6, o7, o8, o9, o10, o11, o12, o13, o14] (c0 far stir)) = good far stir := by kernel_rfl
theorem t4_76 (o1 o2 o3 o5 o6 o7 o8 o9 o10 o11 o12 o13 o14 : Option W) (far stir : Int) : outS (k4 [some (.ref 0), o1, o2, o3, some (.int (1 + ((76 : Nat) : Int))), o5, o6, o7, o8, o9, o10, o11, o12, o13, o14] (c0 far stir)) = good far stir := by kernel_rfl
theorem t4_77 (o1 o2 o3 o5 o6 o7 o8 o9 o10 o11 o12 o13 o14 : Option W) (far stir : Int) : outS (k4 [some (.ref 0), o1, o2, o3, some (.int (1 + ((77 : Nat) : Int))), o5, o6, o7, o8, o9, o10, o11, o12, o13, o14] (c0 far stir)) = good far stir := by kernel_rfl
theorem t4_78 (o1 o2 o3 o5 o6 o7 o8 o9 o10 o11 o12 o13 o14 : Option W) (far stir : Int) : outS (k4 [some (.ref 0), o1, o2, o3, some (.int (1 + ((78 : Nat) : Int))), o5, o6, o7, o8, o9, o10, o11, o12, o13, o14] (c0 far stir)) = good far stir := by kernel_rfl
theorem t4_79 (o1 o2 o3 o5 o6 o7 o8 o9 o10 o11 o12 o13 o14 : Option W) (far stir : Int) : outS (k4 [some (.ref 0), o1, o2, o3, some (.int (1 + ((79 : Nat) : Int))), o5, o6, o7, o8, o9, o10, o11, o12, o13, o14] (c0 far stir)) = good far stir := by kernel_rfl
theorem t4_80 (o1 o2 o3 o5 o6 o7 o8 o9 o10 o11 o12 o13 o14 : Option W) (far stir : Int) : outS (k4 [some (.ref 0), o1, o2, o3, some (.int (1 + ((80 : Nat) : Int))), o5, o6, o7, o8, o9, o10, o11, o12, o13, o14] (c0 far stir)) = good far stir := by kernel_rfl
theorem t4_81 (o1 o2 o3 o5 o6 o7 o8 o9 o10 o11 o12 o13 o14 : Option W) (far stir : Int) : outS (k4 [some (.ref 0), o1, o2, o3, some (.int (1 + ((81 : Nat) : Int))), o5, o6, o7, o8, o9, o10, o11, o12, o13, o14] (c0 far stir)) = good far stir := by kernel_rfl
theorem t4_82 (o1 o2 o3 o5 o6 o7 o8 o9 o10 o11 o12 o13 o14 : Option W) (far stir : Int) : outS (k4 [some (.ref 0), o1, o2, o3, some (.int (1 + ((82 : Nat) : Int))), o5, o6, o7, o8, o9, o10, o11, o12, o13, o14] (c0 far stir)) = good far stir := by kernel_rfl
theorem t4_83 (o1 o2 o3 o5 o6 o7 o8 o9 o10 o11 o12 o13 o14 : Option W) (far stir : Int) : outS (k4 [some (.ref 0), o1, o2, o3, some (.int (1 + ((83 : Nat) : Int))), o5, o6, o7, o8, o9, o10, o11, o12, o13, o14] (c0 far stir)) = good far stir := by kernel_rfl
theorem t4_84 (o1 o2 o3 o5 o6 o7 o8 o9 o10 o11 o12 o13 o14 : Option W) (far stir : Int) : outS (k4 [some (.ref 0), o1, o2, o3, some (.int (1 + ((84 : Nat) : Int))), o5, o6, o7, o8, o9, o10, o11, o12, o13, o14] (c0 far stir)) = good far stir := by kernel_rfl
theorem t4_85 (o1 o2 o3 o5 o6 o7 o8 o9 o10 o11 o12 o13 o14 : Option W) (far stir : Int) : outS (k4 [some (.ref 0), o1, o2, o3, some (.int (1 + ((85 : Nat) : Int))), o5, o6, o7, o8, o9, o10, o11, o12, o13, o14] (c0 far stir)) = good far stir := by kernel_rfl
theorem t4_86 (o1 o2 o3 o5 o6 o7 o8 o9 o10 o11 o12 o13 o14 : Option W) (far stir : Int) : outS (k4 [some (.ref 0), o1, o2, o3, some (.int (1 + ((86 : Nat) : Int))), o5, o6, o7, o8, o9, o10, o11, o12, o13, o14] (c0 far stir)) = good far stir := by kernel_rfl
theorem t4_87 (o1 o2 o3 o5 o6 o7 o8 o9 o10 o11 o12 o13 o14 : Option W) (far stir : Int) : outS (k4 [some (.ref 0), o1, o2, o3, some (.int (1 + ((87 : Nat) : Int))), o5, o6, o7, o8, o9, o10, o11, o12, o13, o14] (c0 far stir)) = good far stir := by kernel_rfl
theorem t4_88 (o1 o2 o3 o5 o6 o7 o8 o9 o10 o11 o12 o13 o14 : Option W) (far stir : Int) : outS (k4 [some (.ref 0), o1, o2, o3, some (.int (1 + ((88 : Nat) : Int))), o5, o6, o7, o8, o9, o10, o11, o12, o13, o14] (c0 far stir)) = good far stir := by kernel_rfl
theorem t4_89 (o1 o2 o3 o5 o6 o7 o8 o9 o10 o11 o12 o13 o14 : Option W) (far stir : Int) : outS (k4 [some (.ref 0), o1, o2, o3, some (.int (1 + ((89 : Nat) : Int))), o5, o6, o7, o8, o9, o10, o11, o12, o13, o14] (c0 far stir)) = good far stir := by kernel_rfl
theorem t4_90 (o1 o2 o3 o5 o6 o7 o8 o9 o10 o11 o12 o13 o14 : Option W) (far stir : Int) : outS (k4 [some (.ref 0), o1, o2, o3, some (.int (1 + ((90 : Nat) : Int))), o5, o6, o7, o8, o9, o10, o11, o12, o13, o14] (c0 far stir)) = good far stir := by kernel_rfl
theorem t4_91 (o1 o2 o3 o5 o6 o7 o8 o9 o10 o11 o12 o13 o14 : Option W) (far stir : Int) : outS (k4 [some (.ref 0), o1, o2, o3, some (.int (1 + ((91 : Nat) : Int))), o5, o6, o7, o8, o9, o10, o11, o12, o13, o14] (c0 far stir)) = good far stir := by kernel_rfl
theorem t4_92 (o1 o2 o3 o5 o6 o7 o8 o9 o10 o11 o12 o13 o14 : Option W) (far stir : Int) : outS (k4 [some (.ref 0), o1, o2, o3, some (.int (1 + ((92 : Nat) : Int))), o5, o6, o7, o8, o9, o10, o11, o12, o13, o14] (c0 far stir)) = good far stir := by kernel_rfl
theorem t4_93 (o1 o2 o3 o5 o6 o7 o8 o9 o10 o11 o12 o13 o14 : Option W) (far stir : Int) : outS (k4 [some (.ref 0), o1, o2, o3, some (.int (1 + ((93 : Nat) : Int))), o5, o6, o7, o8, o9, o10, o11, o12, o13, o14] (c0 far stir)) = good far stir := by kernel_rfl
theorem t4_94 (o1 o2 o3 o5 o6 o7 o8 o9 o10 o11 o12 o13 o14 : Option W) (far stir : Int) : outS (k4 [some (.ref 0), o1, o2, o3, some (.int (1 + ((94 : Nat) : Int))), o5, o6, o7, o8, o9, o10, o11, o12, o13, o14] (c0 far stir)) = good far stir := by kernel_rfl
theorem t4_95 (o1 o2 o3 o5 o6 o7 o8 o9 o10 o11 o12 o13 o14 : Option W) (far stir : Int) : outS (k4 [some (.ref 0), o1, o2, o3, some (.int (1 + ((95 : Nat) : Int))), o5, o6, o7, o8, o9, o10, o11, o12, o13, o14] (c0 far stir)) = good far stir := by kernel_rfl
theorem t4_96 (o1 o2 o3 o5 o6 o7 o8 o9 o10 o11 o12 o13 o14 : Option W) (far stir : Int) : outS (k4 [some (.ref 0), o1, o2, o3, some (.int (1 + ((96 : Nat) : Int))), o5, o6, o7, o8, o9, o10, o11, o12, o13, o14] (c0 far stir)) = good far stir := by kernel_rfl
theorem t4_97 (o1 o2 o3 o5 o6 o7 o8 o9 o10 o11 o12 o13 o14 : Option W) (far stir : Int) : outS (k4 [some (.ref 0), o1, o2, o3, some (.int (1 + ((97 : Nat) : Int))), o5, o6, o7, o8, o9, o10, o11, o12, o13, o14] (c0 far stir)) = good far stir := by kernel_rfl
theorem t4_98 (o1 o2 o3 o5 o6 o7 o8 o9 o10 o11 o12 o13 o14 : Option W) (far stir : Int) : outS (k4 [some (.ref 0), o1, o2, o3, some (.int (1 + ((98 : Nat) : Int))), o5, o6, o7, o8, o9, o10, o11, o12, o13, o14] (c0 far stir)) = good far stir := by kernel_rfl
theorem t4_99 (o1 o2 o3 o5 o6 o7 o8 o9 o10 o11 o12 o13 o14 : Option W) (far stir : Int) : outS (k4 [some (.ref 0), o1, o2, o3, some (.int (1 + ((99 : Nat) : Int))), o5, o6, o7, o8, o9, o10, o11, o12, o13, o14] (c0 far stir)) = good far stir := by kernel_rfl
theorem t4_100 (o1 o2 o3 o5 o6 o7 o8 o9 o10 o11 o12 o13 o14 : Option W) (far stir : Int) : outS (k4 [some (.ref 0), o1, o2, o3, some (.int (1 + ((100 : Nat) : Int))), o5, o6, o7, o8, o9, o10, o11, o12, o13, o14] (c0 far stir)) = good far stir := by kernel_rfl
theorem t4_101 (o1 o2 o3 o5 o6 o7 o8 o9 o10 o11 o12 o13 o14 : Option W) (far stir : Int) : outS (k4 [some (.ref 0), o1, o2, o3, some (.int (1 + ((101 : Nat) : Int))), o5, o6, o7, o8, o9, o10, o11, o12, o13, o14] (c0 far stir)) = good far stir := by kernel_rfl
theorem t4_102 (o1 o2 o3 o5 o6 o7 o8 o9 o10 o11 o12 o13 o14 : Option W) (far stir : Int) : outS (k4 [some (.ref 0), o1, o2, o3, some (.int (1 + ((102 : Nat) : Int))), o5, o6, o7, o8, o9, o10, o11, o12, o13, o14] (c0 far stir)) = good far stir := by kernel_rfl
theorem t4_103 (o1 o2 o3 o5 o6 o7 o8 o9 o10 o11 o12 o13 o14 : Option W) (far stir : Int) : outS (k4 [some (.ref 0), o1, o2, o3, some (.int (1 + ((103 : Nat) : Int))), o5, o6, o7, o8, o9, o10, o11, o12, o13, o14] (c0 far stir)) = good far stir := by kernel_rfl
theorem t4_104 (o1 o2 o3 o5 o6 o7 o8 o9 o10 o11 o12 o13 o14 : Option W) (far stir : Int) : outS (k4 [some (.ref 0), o1, o2, o3, some (.int (1 + ((104 : Nat) : Int))), o5, o6, o7, o8, o9, o10, o11, o12, o13, o14] (c0 far stir)) = good far stir := by kernel_rfl
theorem t4_105 (o1 o2 o3 o5 o6 o7 o8 o9 o10 o11 o12 o13 o14 : Option W) (far stir : Int) : outS (k4 [some (.ref 0), o1, o2, o3, some (.int (1 + ((105 : Nat) : Int))), o5, o6, o7, o8, o9, o10, o11, o12, o13, o14] (c0 far stir)) = good far stir := by kernel_rfl
theorem t4_106 (o1 o2 o3 o5 o6 o7 o8 o9 o10 o11 o12 o13 o14 : Option W) (far stir : Int) : outS (k4 [some (.ref 0), o1, o2, o3, some (.int (1 + ((106 : Nat) : Int))), o5, o6, o7, o8, o9, o10, o11, o12, o13, o14] (c0 far stir)) = good far stir := by kernel_rfl
theorem t4_107 (o1 o2 o3 o5 o6 o7 o8 o9 o10 o11 o12 o13 o14 : Option W) (far stir : Int) : outS (k4 [some (.ref 0), o1, o2, o3, some (.int (1 + ((107 : Nat) : Int))), o5, o6, o7, o8, o9, o10, o11, o12, o13, o14] (c0 far stir)) = good far stir := by kernel_rfl
theorem t4_108 (o1 o2 o3 o5 o6 o7 o8 o9 o10 o11 o12 o13 o14 : Option W) (far stir : Int) : outS (k4 [some (.ref 0), o1, o2, o3, some (.int (1 + ((108 : Nat) : Int))), o5, o6, o7, o8, o9, o10, o11, o12, o13, o14] (c0 far stir)) = good far stir := by kernel_rfl
theorem t4_109 (o1 o2 o3 o5 o6 o7 o8 o9 o10 o11 o12 o13 o14 : Option W) (far stir : Int) : outS (k4 [some (.ref 0), o1, o2, o3, some (.int (1 + ((109 : Nat) : Int))), o5, o6, o7, o8, o9, o10, o11, o12, o13, o14] (c0 far stir)) = good far stir := by kernel_rfl
theorem t4_110 (o1 o2 o3 o5 o6 o7 o8 o9 o10 o11 o12 o13 o14 : Option W) (far stir : Int) : outS (k4 [some (.ref 0), o1, o2, o3, some (.int (1 + ((110 : Nat) : Int))), o5, o6, o7, o8, o9, o10, o11, o12, o13, o14] (c0 far stir)) = good far stir := by kernel_rfl
theorem t4_111 (o1 o2 o3 o5 o6 o7 o8 o9 o10 o11 o12 o13 o14 : Option W) (far stir : Int) : outS (k4 [some (.ref 0), o1, o2, o3, some (.int (1 + ((111 : Nat) : Int))), o5, o6, o7, o8, o9, o10, o11, o12, o13, o14] (c0 far stir)) = good far stir := by kernel_rfl
theorem t4_112 (o1 o2 o3 o5 o6 o7 o8 o9 o10 o11 o12 o13 o14 : Option W) (far stir : Int) : outS (k4 [some (.ref 0), o1, o2, o3, some (.int (1 + ((112 : Nat) : Int))), o5, o6, o7, o8, o9, o10, o11, o12, o13, o14] (c0 far stir)) = good far stir := by kernel_rfl
theorem t4_113 (o1 o2 o3 o5 o6 o7 o8 o9 o10 o11 o12 o13 o14 : Option W) (far stir : Int) : outS (k4 [some (.ref 0), o1, o2, o3, some (.int (1 + ((113 : Nat) : Int))), o5, o6, o7, o8, o9, o10, o11, o12, o13, o14] (c0 far stir)) = good far stir := by kernel_rfl
theorem t4_114 (o1 o2 o3 o5 o6 o7 o8 o9 o10 o11 o12 o13 o14 : Option W) (far stir : Int) : outS (k4 [some (.ref 0), o1, o2, o3, some (.int (1 + ((114 : Nat) : Int))), o5, o6, o7, o8, o9, o10, o11, o12, o13, o14] (c0 far stir)) = good far stir := by kernel_rfl
theorem t4_115 (o1 o2 o3 o5 o6 o7 o8 o9 o10 o11 o12 o13 o14 : Option W) (far stir : Int) : outS (k4 [some (.ref 0), o1, o2, o3, some (.int (1 + ((115 : Nat) : Int))), o5, o6, o7, o8, o9, o10, o11, o12, o13, o14] (c0 far stir)) = good far stir := by kernel_rfl
theorem t4_116 (o1 o2 o3 o5 o6 o7 o8 o9 o10 o11 o12 o13 o14 : Option W) (far stir : Int) : outS (k4 [some (.ref 0), o1, o2, o3, some (.int (1 + ((116 : Nat) : Int))), o5, o6, o7, o8, o9, o10, o11, o12, o13, o14] (c0 far stir)) = good far stir := by kernel_rfl
theorem t4_117 (o1 o2 o3 o5 o6 o7 o8 o9 o10 o11 o12 o13 o14 : Option W) (far stir : Int) : outS (k4 [some (.ref 0), o1, o2, o3, some (.int (1 + ((117 : Nat) : Int))), o5, o6, o7, o8, o9, o10, o11, o12, o13, o14] (c0 far stir)) = good far stir := by kernel_rfl
theorem t4_118 (o1 o2 o3 o5 o6 o7 o8 o9 o10 o11 o12 o13 o14 : Option W) (far stir : Int) : outS (k4 [some (.ref 0), o1, o2, o3, some (.int (1 + ((118 : Nat) : Int))), o5, o6, o7, o8, o9, o10, o11, o12, o13, o14] (c0 far stir)) = good far stir := by kernel_rfl
theorem t4_119 (o1 o2 o3 o5 o6 o7 o8 o9 o10 o11 o12 o13 o14 : Option W) (far stir : Int) : outS (k4 [some (.ref 0), o1, o2, o3, some (.int (1 + ((119 : Nat) : Int))), o5, o6, o7, o8, o9, o10, o11, o12, o13, o14] (c0 far stir)) = good far stir := by kernel_rfl
theorem t4 (o1 o2 o3 o5 o6 o7 o8 o9 o10 o11 o12 o13 o14 : Option W) (far stir : Int) (d : Nat) (hd : d < 120) : outS (k4 [some (.ref 0), o1, o2, o3, some (.int (1 + (d : Int))), o5, o6, o7, o8, o9, o10, o11, o12, o13, o14] (c0 far stir)) = good far stir :=
  match d, hd with
  | 0, _ => t4_0 o1 o2 o3 o5 o6 o7 o8 o9 o10 o11 o12 o13 o14 far stir
  | 1, _ => t4_1 o1 o2 o3 o5 o6 o7 o8 o9 o10 o11 o12 o13 o14 far stir
  | 2, _ => t4_2 o1 o2 o3 o5 o6 o7 o8 o9 o10 o11 o12 o13 o14 far stir
  | 3, _ => t4_3 o1 o2 o3 o5 o6 o7 o8 o9 o10 o11 o12 o13 o14 far stir
  | 4, _ => t4_4 o1 o2 o3 o5 o6 o7 o8 o9 o10 o11 o12 o13 o14 far stir
  | 5, _ => t4_5 o1 o2 o3 o5 o6 o7 o8 o9 o10 o11 o12 o13 o14 far stir
  | 6, _ => t4_6 o1 o2 o3 o5 o6 o7 o8 o9 o10 o11 o12 o13 o14 far stir
  | 7, _ => t4_7 o1 o2 o3 o5 o6 o7 o8 o9 o10 o11 o12 o13 o14 far stir
  | 8, _ => t4_8 o1 o2 o3 o5 o6 o7 o8 o9 o10 o11 o12 o13 o14 far stir
  | 9, _ => t4_9 o1 o2 o3 o5 o6 o7 o8 o9 o10 o11 o12 o13 o14 far stir
  | 10, _ => t4_10 o1 o2 o3 o5 o6 o7 o8 o9 o10 o11 o12 o13 o14 far stir
  | 11, _ => t4_11 o1 o2 o3 o5 o6 o7 o8 o9 o10 o11 o12 o13 o14 far stir
  | 12, _ => t4_12 o1 o2 o3 o5 o6 o7 o8 o9 o10 o11 o12 o13 o14 far stir
  | 13, _ => t4_13 o1 o2 o3 o5 o6 o7 o8 o9 o10 o11 o12 o13 o14 far stir
  | 14, _ => t4_14 o1 o2 o3 o5 o6 o7 o8 o9 o10 o11 o12 o13 o14 far stir
  | 15, _ => t4_15 o1 o2 o3 o5 o6 o7 o8 o9 o10 o11 o12 o13 o14 far stir
  | 16, _ => t4_16 o1 o2 o3 o5 o6 o7 o8 o9 o10 o11 o12 o13 o14 far stir
  | 17, _ => t4_17 o1 o2 o3 o5 o6 o7 o8 o9 o10 o11 o12 o13 o14 far stir
  | 18, _ => t4_18 o1 o2 o3 o5 o6 o7 o8 o9 o10 o11 o12 o13 o14 far stir
  | 19, _ => t4_19 o1 o2 o3 o5 o6 o7 o8 o9 o10 o11 o12 o13 o14 far stir
  | 20, _ => t4_20 o1 o2 o3 o5 o6 o7 o8 o9 o10 o11 o12 o13 o14 far stir
  | 21, _ => t4_21 o1 o2 o3 o5 o6 o7 o8 o9 o10 o11 o12 o13 o14 far stir
  | 22, _ => t4_22 o1 o2 o3 o5 o6 o7 o8 o9 o10 o11 o12 o13 o14 far stir
  | 23, _ => t4_23 o1 o2 o3 o5 o6 o7 o8 o9 o10 o11 o12 o13 o14 far stir
  | 24, _ => t4_24 o1 o2 o3 o5 o6 o7 o8 o9 o10 o11 o12 o13 o14 far stir
  | 25, _ => t4_25 o1 o2 o3 o5 o6 o7 o8 o9 o10 o11 o12 o13 o14 far stir
  | 26, _ => t4_26 o1 o2 o3 o5 o6 o7 o8 o9 o10 o11 o12 o13 o14 far stir
  | 27, _ => t4_27 o1 o2 o3 o5 o6 o7 o8 o9 o10 o11 o12 o13 o14 far stir
  | 28, _ => t4_28 o1 o2 o3 o5 o6 o7 o8 o9 o10 o11 o12 o13 o14 far stir
  | 29, _ => t4_29 o1 o2 o3 o5 o6 o7 o8 o9 o10 o11 o12 o13 o14 far stir
  | 30, _ => t4_30 o1 o2 o3 o5 o6 o7 o8 o9 o10 o11 o12 o13 o14 far stir
  | 31, _ => t4_31 o1 o2 o3 o5 o6 o7 o8 o9 o10 o11 o12 o13 o14 far stir
  | 32, _ => t4_32 o1 o2 o3 o5 o6 o7 o8 o9 o10 o11 o12 o13 o14 far stir
  | 33, _ => t4_33 o1 o2 o3 o5 o6 o7 o8 o9 o10 o11 o12 o13 o14 far stir
  | 34, _ => t4_34 o1 o2 o3 o5 o6 o7 o8 o9 o10 o11 o12 o13 o14 far stir
  | 35, _ => t4_35 o1 o2 o3 o5 o6 o7 o8 o9 o10 o11 o12 o13 o14 far stir
  | 36, _ => t4_36 o1 o2 o3 o5 o6 o7 o8 o9 o10 o11 o12 o13 o14 far stir
  | 37, _ => t4_37 o1 o2 o3 o5 o6 o7 o8 o9 o10 o11 o12 o13 o14 far stir
  | 38, _ => t4_38 o1 o2 o3 o5 o6 o7 o8 o9 o10 o11 o12 o13 o14 far stir
  | 39, _ => t4_39 o1 o2 o3 o5 o6 o7 o8 o9 o10 o11 o12 o13 o14 far stir
  | 40, _ => t4_40 o1 o2 o3 o5 o6 o7 o8 o9 o10 o11 o12 o13 o14 far stir
  | 41, _ => t4_41 o1 o2 o3 o5 o6 o7 o8 o9 o10 o11 o12 o13 o14 far stir
  | 42, _ => t4_42 o1 o2 o3 o5 o6 o7 o8 o9 o10 o11 o12 o13 o14 far stir
  | 43, _ => t4_43 o1 o2 o3 o5 o6 o7 o8 o9 o10 o11 o12 o13 o14 far stir
  | 44, _ => t4_44 o1 o2 o3 o5 o6 o7 o8 o9 o10 o11 o12 o13 o14 far stir
  | 45, _ => t4_45 o1 o2 o3 o5 o6 o7 o8 o9 o10 o11 o12 o13 o14 far stir
  | 46, _ => t4_46 o1 o2 o3 o5 o6 o7 o8 o9 o10 o11 o12 o13 o14 far stir
  | 47, _ => t4_47 o1 o2 o3 o5 o6 o7 o8 o9 o10 o11 o12 o13 o14 far stir
  | 48, _ => t4_48 o1 o2 o3 o5 o6 o7 o8 o9 o10 o11 o12 o13 o14 far stir
  | 49, _ => t4_49 o1 o2 o3 o5 o6 o7 o8 o9 o10 o11 o12 o13 o14 far stir
  | 50, _ => t4_50 o1 o2 o3 o5 o6 o7 o8 o9 o10 o11 o12 o13 o14 far stir
  | 51, _ => t4_51 o1 o2 o3 o5 o6 o7 o8 o9 o10 o11 o12 o13 o14 far stir
  | 52, _ => t4_52 o1 o2 o3 o5 o6 o7 o8 o9 o10 o11 o12 o13 o14 far stir
  | 53, _ => t4_53 o1 o2 o3 o5 o6 o7 o8 o9 o10 o11 o12 o13 o14 far stir
  | 54, _ => t4_54 o1 o2 o3 o5 o6 o7 o8 o9 o10 o11 o12 o13 o14 far stir
  | 55, _ => t4_55 o1 o2 o3 o5 o6 o7 o8 o9 o10 o11 o12 o13 o14 far stir
  | 56, _ => t4_56 o1 o2 o3 o5 o6 o7 o8 o9 o10 o11 o12 o13 o14 far stir
  | 57, _ => t4_57 o1 o2 o3 o5 o6 o7 o8 o9 o10 o11 o12 o13 o14 far stir
  | 58, _ => t4_58 o1 o2 o3 o5 o6 o7 o8 o9 o10 o11 o12 o13 o14 far stir
  | 59, _ => t4_59 o1 o2 o3 o5 o6 o7 o8 o9 o10 o11 o12 o13 o14 far stir
  | 60, _ => t4_60 o1 o2 o3 o5 o6 o7 o8 o9 o10 o11 o12 o13 o14 far stir
  | 61, _ => t4_61 o1 o2 o3 o5 o6 o7 o8 o9 o10 o11 o12 o13 o14 far stir
  | 62, _ => t4_62 o1 o2 o3 o5 o6 o7 o8 o9 o10 o11 o12 o13 o14 far stir
  | 63, _ => t4_63 o1 o2 o3 o5 o6 o7 o8 o9 o10 o11 o12 o13 o14 far stir
  | 64, _ => t4_64 o1 o2 o3 o5 o6 o7 o8 o9 o10 o11 o12 o13 o14 far stir
  | 65, _ => t4_65 o1 o2 o3 o5 o6 o7 o8 o9 o10 o11 o12 o13 o14 far stir
  | 66, _ => t4_66 o1 o2 o3 o5 o6 o7 o8 o9 o10 o11 o12 o13 o14 far stir
  | 67, _ => t4_67 o1 o2 o3 o5 o6 o7 o8 o9 o10 o11 o12 o13 o14 far stir
  | 68, _ => t4_68 o1 o2 o3 o5 o6 o7 o8 o9 o10 o11 o12 o13 o14 far stir
  | 69, _ => t4_69 o1 o2 o3 o5 o6 o7 o8 o9 o10 o11 o12 o13 o14 far stir
  | 70, _ => t4_70 o1 o2 o3 o5 o6 o7 o8 o9 o10 o11 o12 o13 o14 far stir
  | 71, _ => t4_71 o1 o2 o3 o5 o6 o7 o8 o9 o10 o11 o12 o13 o14 far stir
  | 72, _ => t4_72 o1 o2 o3 o5 o6 o7 o8 o9 o10 o11 o12 o13 o14 far stir
  | 73, _ => t4_73 o1 o2 o3 o5 o6 o7 o8 o9 o10 o11 o12 o13 o14 far stir
  | 74, _ => t4_74 o1 o2 o3 o5 o6 o7 o8 o9 o10 o11 o12 o13 o14 far stir
  | 75, _ => t4_75 o1 o2 o3 o5 o6 o7 o8 o9 o10 o11 o12 o13 o14 far stir
  | 76, _ => t4_76 o1 o2 o3 o5 o6 o7 o8 o9 o10 o11 o12 o13 o14 far stir
  | 77, _ => t4_77 o1 o2 o3 o5 o6 o7 o8 o9 o10 o11 o12 o13 o14 far stir
  | 78, _ => t4_78 o1 o2 o3 o5 o6 o7 o8 o9 o10 o11 o12 o13 o14 far stir
  | 79, _ => t4_79 o1 o2 o3 o5 o6 o7 o8 o9 o10 o11 o12 o13 o14 far stir
  | 80, _ => t4_80 o1 o2 o3 o5 o6 o7 o8 o9 o10 o11 o12 o13 o14 far stir
  | 81, _ => t4_81 o1 o2 o3 o5 o6 o7 o8 o9 o10 o11 o12 o13 o14 far stir
  | 82, _ => t4_82 o1 o2 o3 o5 o6 o7 o8 o9 o10 o11 o12 o13 o14 far stir
  | 83, _ => t4_83 o1 o2 o3 o5 o6 o7 o8 o9 o10 o11 o12 o13 o14 far stir
  | 84, _ => t4_84 o1 o2 o3 o5 o6 o7 o8 o9 o10 o11 o12 o13 o14 far stir
  | 85, _ => t4_85 o1 o2 o3 o5 o6 o7 o8 o9 o10 o11 o12 o13 o14 far stir
  | 86, _ => t4_86 o1 o2 o3 o5 o6 o7 o8 o9 o10 o11 o12 o13 o14 far stir
  | 87, _ => t4_87 o1 o2 o3 o5 o6 o7 o8 o9 o10 o11 o12 o13 o14 far stir
  | 88, _ => t4_88 o1 o2 o3 o5 o6 o7 o8 o9 o10 o11 o12 o13 o14 far stir
  | 89, _ => t4_89 o1 o2 o3 o5 o6 o7 o8 o9 o10 o11 o12 o13 o14 far stir
  | 90, _ => t4_90 o1 o2 o3 o5 o6 o7 o8 o9 o10 o11 o12 o13 o14 far stir
  | 91, _ => t4_91 o1 o2 o3 o5 o6 o7 o8 o9 o10 o11 o12 o13 o14 far stir
  | 92, _ => t4_92 o1 o2 o3 o5 o6 o7 o8 o9 o10 o11 o12 o13 o14 far stir
  | 93, _ => t4_93 o1 o2 o3 o5 o6 o7 o8 o9 o10 o11 o12 o13 o14 far stir
  | 94, _ => t4_94 o1 o2 o3 o5 o6 o7 o8 o9 o10 o11 o12 o13 o14 far stir
  | 95, _ => t4_95 o1 o2 o3 o5 o6 o7 o8 o9 o10 o11 o12 o13 o14 far stir
  | 96, _ => t4_96 o1 o2 o3 o5 o6 o7 o8 o9 o10 o11 o12 o13 o14 far stir
  | 97, _ => t4_97 o1 o2 o3 o5 o6 o7 o8 o9 o10 o11 o12 o13 o14 far stir
  | 98, _ => t4_98 o1 o2 o3 o5 o6 o7 o8 o9 o10 o11 o12 o13 o14 far stir
  | 99, _ => t4_99 o1 o2 o3 o5 o6 o7 o8 o9 o10 o11 o12 o13 o14 far stir
  | 100, _ => t4_100 o1 o2 o3 o5 o6 o7 o8 o9 o10 o11 o12 o13 o14 far stir
  | 101, _ => t4_101 o1 o2 o3 o5 o6 o7 o8 o9 o10 o11 o12 o13 o14 far stir
  | 102, _ => t4_102 o1 o2 o3 o5 o6 o7 o8 o9 o10 o11 o12 o13 o14 far stir
  | 103, _ => t4_103 o1 o2 o3 o5 o6 o7 o8 o9 o10 o11 o12 o13 o14 far stir
  | 104, _ => t4_104 o1 o2 o3 o5 o6 o7 o8 o9 o10 o11 o12 o13 o14 far stir
  | 105, _ => t4_105 o1 o2 o3 o5 o6 o7 o8 o9 o10 o11 o12 o13 o14 far stir
  | 106, _ => t4_106 o1 o2 o3 o5 o6 o7 o8 o9 o10 o11 o12 o13 o14 far stir
  | 107, _ => t4_107 o1 o2 o3 o5 o6 o7 o8 o9 o10 o11 o12 o13 o14 far stir
  | 108, _ => t4_108 o1 o2 o3 o5 o6 o7 o8 o9 o10 o11 o12 o13 o14 far stir
  | 109, _ => t4_109 o1 o2 o3 o5 o6 o7 o8 o9 o10 o11 o12 o13 o14 far stir
  | 110, _ => t4_110 o1 o2 o3 o5 o6 o7 o8 o9 o10 o11 o12 o13 o14 far stir
  | 111, _ => t4_111 o1 o2 o3 o5 o6 o7 o8 o9 o10 o11 o12 o13 o14 far stir
  | 112, _ => t4_112 o1 o2 o3 o5 o6 o7 o8 o9 o10 o11 o12 o13 o14 far stir
  | 113, _ => t4_113 o1 o2 o3 o5 o6 o7 o8 o9 o10 o11 o12 o13 o14 far stir
  | 114, _ => t4_114 o1 o2 o3 o5 o6 o7 o8 o9 o10 o11 o12 o13 o14 far stir
  | 115, _ => t4_115 o1 o2 o3 o5 o6 o7 o8 o9 o10 o11 o12 o13 o14 far stir
  | 116, _ => t4_116 o1 o2 o3 o5 o6 o7 o8 o9 o10 o11 o12 o13 o14 far stir
  | 117, _ => t4_117 o1 o2 o3 o5 o6 o7 o8 o9 o10 o11 o12 o13 o14 far stir
  | 118, _ => t4_118 o1 o2 o3 o5 o6 o7 o8 o9 o10 o11 o12 o13 o14 far stir
  | 119, _ => t4_119 o1 o2 o3 o5 o6 o7 o8 o9 o10 o11 o12 o13 o14 far stir
  | d + 120, h => absurd h (by omega)
end Sm
namespace Sm
open PySem PySem.Spec PyProof.Rows L2
theorem t3_0 (o1 o2 o3 o4 o5 o8 o9 o10 o11 o12 o13 o14 : Option W) (far stir : Int) : outS (k3 [some (.ref 0), o1, o2, o3, o4, o5, some (.int (1 + ((0 : Nat) : Int))), some (.ref 1), o8, o9, o10, o11, o12, o13, o14] ((c0 far stir).push [.int 1])) = good far stir := by kernel_rfl
theorem t3_1 (o1 o2 o3 o4 o5 o8 o9 o10 o11 o12 o13 o14 : Option W) (far stir : Int) : outS (k3 [some (.ref 0), o1, o2, o3, o4, o5, some (.int (1 + ((1 : Nat) : Int))), some (.ref 1), o8, o9, o10, o11, o12, o13, o14] ((c0 far stir).push [.int 1])) = good far stir := by kernel_rfl
theorem t3_2 (o1 o2 o3 o4 o5 o8 o9 o10 o11 o12 o13 o14 : Option W) (far stir : Int) : outS (k3 [some (.ref 0), o1, o2, o3, o4, o5, some (.int (1 + ((2 : Nat) : Int))), some (.ref 1), o8, o9, o10, o11, o12, o13, o14] ((c0 far stir).push [.int 1])) = good far stir := by kernel_rfl
theorem t3_3 (o1 o2 o3 o4 o5 o8 o9 o10 o11 o12 o13 o14 : Option W) (far stir : Int) : outS (k3 [some (.ref 0), o1, o2, o3, o4, o5, some (.int (1 + ((3 : Nat) : Int))), some (.ref 1), o8, o9, o10, o11, o12, o13, o14] ((c0 far stir).push [.int 1])) = good far stir := by kernel_rfl
theorem t3_4 (o1 o2 o3 o4 o5 o8 o9 o10 o11 o12 o13 o14 : Option W) (far stir : Int) : outS (k3 [some (.ref 0), o1, o2, o3, o4, o5, some (.int (1 + ((4 : Nat) : Int))), some (.ref 1), o8, o9, o10, o11, o12, o13, o14] ((c0 far stir).push [.int 1])) = good far stir := by kernel_rfl
theorem t3_5 (o1 o2 o3 o4 o5 o8 o9 o10 o11 o12 o13 o14 : Option W) (far stir : Int) : outS (k3 [some (.ref 0), o1, o2, o3, o4, o5, some (.int (1 + ((5 : Nat) : Int))), some (.ref 1), o8, o9, o10, o11, o12, o13, o14] ((c0 far stir).push [.int 1])) = good far stir := by kernel_rfl
theorem t3_6 (o1 o2 o3 o4 o5 o8 o9 o10 o11 o12 o13 o14 : Option W) (far stir : Int) : outS (k3 [some (.ref 0), o1, o2, o3, o4, o5, some (.int (1 + ((6 : Nat) : Int))), some (.ref 1), o8, o9, o10, o11, o12, o13, o14] ((c0 far stir).push [.int 1])) = good far stir := by kernel_rfl
theorem t3_7 (o1 o2 o3 o4 o5 o8 o9 o10 o11 o12 o13 o14 : Option W) (far stir : Int) : outS (k3 [some (.ref 0), o1, o2, o3, o4, o5, some (.int (1 + ((7 : Nat) : Int))), some (.ref 1), o8, o9, o10, o11, o12, o13, o14] ((c0 far stir).push [.int 1])) = good far stir := by kernel_rfl
theorem t3_8 (o1 o2 o3 o4 o5 o8 o9 o10 o11 o12 o13 o14 : Option W) (far stir : Int) : outS (k3 [some (.ref 0), o1, o2, o3, o4, o5, some (.int (1 + ((8 : Nat) : Int))), some (.ref 1), o8, o9, o10, o11, o12, o13, o14] ((c0 far stir).push [.int 1])) = good far stir := by kernel_rfl
theorem t3_9 (o1 o2 o3 o4 o5 o8 o9 o10 o11 o12 o13 o14 : Option W) (far stir : Int) : outS (k3 [some (.ref 0), o1, o2, o3, o4, o5, some (.int (1 + ((9 : Nat) : Int))), some (.ref 1), o8, o9, o10, o11, o12, o13, o14] ((c0 far stir).push [.int 1])) = good far stir := by kernel_rfl
theorem t3_10 (o1 o2 o3 o4 o5 o8 o9 o10 o11 o12 o13 o14 : Option W) (far stir : Int) : outS (k3 [some (.ref 0), o1, o2, o3, o4, o5, some (.int (1 + ((10 : Nat) : Int))), some (.ref 1), o8, o9, o10, o11, o12, o13, o14] ((c0 far stir).push [.int 1])) = good far stir := by kernel_rfl
theorem t3_11 (o1 o2 o3 o4 o5 o8 o9 o10 o11 o12 o13 o14 : Option W) (far stir : Int) : outS (k3 [some (.ref 0), o1, o2, o3, o4, o5, some (.int (1 + ((11 : Nat) : Int))), some (.ref 1), o8, o9, o10, o11, o12, o13, o14] ((c0 far stir).push [.int 1])) = good far stir := by kernel_rfl
theorem t3_12 (o1 o2 o3 o4 o5 o8 o9 o10 o11 o12 o13 o14 : Option W) (far stir : Int) : outS (k3 [some (.ref 0), o1, o2, o3, o4, o5, some (.int (1 + ((12 : Nat) : Int))), some (.ref 1), o8, o9, o10, o11, o12, o13, o14] ((c0 far stir).push [.int 1])) = good far stir := by kernel_rfl
theorem t3_13 (o1 o2 o3 o4 o5 o8 o9 o10 o11 o12 o13 o14 : Option W) (far stir : Int) : outS (k3 [some (.ref 0), o1, o2, o3, o4, o5, some (.int (1 + ((13 : Nat) : Int))), some (.ref 1), o8, o9, o10, o11, o12, o13, o14] ((c0 far stir).push [.int 1])) = good far stir := by kernel_rfl
theorem t3_14 (o1 o2 o3 o4 o5 o8 o9 o10 o11 o12 o13 o14 : Option W) (far stir : Int) : outS (k3 [some (.ref 0), o1, o2, o3, o4, o5, some (.int (1 + ((14 : Nat) : Int))), some (.ref 1), o8, o9, o10, o11, o12, o13, o14] ((c0 far stir).push [.int 1])) = good far stir := by kernel_rfl
theorem t3_15 (o1 o2 o3 o4 o5 o8 o9 o10 o11 o12 o13 o14 : Option W) (far stir : Int) : outS (k3 [some (.ref 0), o1, o2, o3, o4, o5, some (.int (1 + ((15 : Nat) : Int))), some (.ref 1), o8, o9, o10, o11, o12, o13, o14] ((c0 far stir).push [.int 1])) = good far stir := by kernel_rfl
theorem t3_16 (o1 o2 o3 o4 o5 o8 o9 o10 o11 o12 o13 o14 : Option W) (far stir : Int) : outS (k3 [some (.ref 0), o1, o2, o3, o4, o5, some (.int (1 + ((16 : Nat) : Int))), some (.ref 1), o8, o9, o10, o11, o12, o13, o14] ((c0 far stir).push [.int 1])) = good far stir := by kernel_rfl
theorem t3_17 (o1 o2 o3 o4 o5 o8 o9 o10 o11 o12 o13 o14 : Option W) (far stir : Int) : outS (k3 [some (.ref 0), o1, o2, o3, o4, o5, some (.int (1 + ((17 : Nat) : Int))), some (.ref 1), o8, o9, o10, o11, o12, o13, o14] ((c0 far stir).push [.int 1])) = good far stir := by kernel_rfl
theorem t3_18 (o1 o2 o3 o4 o5 o8 o9 o10 o11 o12 o13 o14 : Option W) (far stir : Int) : outS (k3 [some (.ref 0), o1, o2, o3, o4, o5, some (.int (1 + ((18 : Nat) : Int))), some (.ref 1), o8, o9, o10, o11, o12, o13, o14] ((c0 far stir).push [.int 1])) = good far stir := by kernel_rfl
theorem t3_19 (o1 o2 o3 o4 o5 o8 o9 o10 o11 o12 o13 o14 : Option W) (far stir : Int) : outS (k3 [some (.ref 0), o1, o2, o3, o4, o5, some (.int (1 + ((19 : Nat) : Int))), some (.ref 1), o8, o9, o10, o11, o12, o13, o14] ((c0 far stir).push [.int 1])) = good far stir := by kernel_rfl
theorem t3_20 (o1 o2 o3 o4 o5 o8 o9 o10 o11 o12 o13 o14 : Option W) (far stir : Int) : outS (k3 [some (.ref 0), o1, o2, o3, o4, o5, some (.int (1 + ((20 : Nat) : Int))), some (.ref 1), o8, o9, o10, o11, o12, o13, o14] ((c0 far stir).push [.int 1])) = good far stir := by kernel_rfl
theorem t3_21 (o1 o2 o3 o4 o5 o8 o9 o10 o11 o12 o13 o14 : Option W) (far stir : Int) : outS (k3 [some (.ref 0), o1, o2, o3, o4, o5, some (.int (1 + ((21 : Nat) : Int))), some (.ref 1), o8, o9, o10, o11, o12, o13, o14] ((c0 far stir).push [.int 1])) = good far stir := by kernel_rfl
theorem t3_22 (o1 o2 o3 o4 o5 o8 o9 o10 o11 o12 o13 o14 : Option W) (far stir : Int) : outS (k3 [some (.ref 0), o1, o2, o3, o4, o5, some (.int (1 + ((22 : Nat) : Int))), some (.ref 1), o8, o9, o10, o11, o12, o13, o14] ((c0 far stir).push [.int 1])) = good far stir := by kernel_rfl
theorem t3_23 (o1 o2 o3 o4 o5 o8 o9 o10 o11 o12 o13 o14 : Option W) (far stir : Int) : outS (k3 [some (.ref 0), o1, o2, o3, o4, o5, some (.int (1 + ((23 : Nat) : Int))), some (.ref 1), o8, o9, o10, o11, o12, o13, o14] ((c0 far stir).push [.int 1])) = good far stir := by kernel_rfl
theorem t3_24 (o1 o2 o3 o4 o5 o8 o9 o10 o11 o12 o13 o14 : Option W) (far stir : Int) : outS (k3 [some (.ref 0), o1, o2, o3, o4, o5, some (.int (1 + ((24 : Nat) : Int))), some (.ref 1), o8, o9, o10, o11, o12, o13, o14] ((c0 far stir).push [.int 1])) = good far stir := by kernel_rfl
theorem t3_25 (o1 o2 o3 o4 o5 o8 o9 o10 o11 o12 o13 o14 : Option W) (far stir : Int) : outS (k3 [some (.ref 0), o1, o2, o3, o4, o5, some (.int (1 + ((25 : Nat) : Int))), some (.ref 1), o8, o9, o10, o11, o12, o13, o14] ((c0 far stir).push [.int 1])) = good far stir := by kernel_rfl
theorem t3_26 (o1 o2 o3 o4 o5 o8 o9 o10 o11 o12 o13 o14 : Option W) (far stir : Int) : outS (k3 [some (.ref 0), o1, o2, o3, o4, o5, some (.int (1 + ((26 : Nat) : Int))), some (.ref 1), o8, o9, o10, o11, o12, o13, o14] ((c0 far stir).push [.int 1])) = good far stir := by kernel_rfl
theorem t3_27 (o1 o2 o3 o4 o5 o8 o9 o10 o11 o12 o13 o14 : Option W) (far stir : Int) : outS (k3 [some (.ref 0), o1, o2, o3, o4, o5, some (.int (1 + ((27 : Nat) : Int))), some (.ref 1), o8, o9, o10, o11, o12, o13, o14] ((c0 far stir).push [.int 1])) = good far stir := by kernel_rfl
theorem t3_28 (o1 o2 o3 o4 o5 o8 o9 o10 o11 o12 o13 o14 : Option W) (far stir : Int) : outS (k3 [some (.ref 0), o1, o2, o3, o4, o5, some (.int (1 + ((28 : Nat) : Int))), some (.ref 1), o8, o9, o10, o11, o12, o13, o14] ((c0 far stir).push [.int 1])) = good far stir := by kernel_rfl
theorem t3_29 (o1 o2 o3 o4 o5 o8 o9 o10 o11 o12 o13 o14 : Option W) (far stir : Int) : outS (k3 [some (.ref 0), o1, o2, o3, o4, o5, some (.int (1 + ((29 : Nat) : Int))), some (.ref 1), o8, o9, o10, o11, o12, o13, o14] ((c0 far stir).push [.int 1])) = good far stir := by kernel_rfl
theorem t2_2 (o1 o2 o3 o4 o5 o6 o7 o8 o10 o11 o12 o13 o14 : Option W) (far stir : Int) : outS (k2 [some (.ref 0), o1, o2, o3, o4, o5, o6, o7, o8, some (.int 2), o10, o11, o12, o13, o14] (c0 far stir)) = good far stir := by kernel_rfl
theorem t2_3 (o1 o2 o3 o4 o5 o6 o7 o8 o10 o11 o12 o13 o14 : Option W) (far stir : Int) : outS (k2 [some (.ref 0), o1, o2, o3, o4, o5, o6, o7, o8, some (.int 3), o10, o11, o12, o13, o14] (c0 far stir)) = good far stir := by kernel_rfl
theorem t2_5 (o1 o2 o3 o4 o5 o6 o7 o8 o10 o11 o12 o13 o14 : Option W) (far stir : Int) : outS (k2 [some (.ref 0), o1, o2, o3, o4, o5, o6, o7, o8, some (.int 5), o10, o11, o12, o13, o14] (c0 far stir)) = good far stir := by kernel_rfl
theorem t2_7 (o1 o2 o3 o4 o5 o6 o7 o8 o10 o11 o12 o13 o14 : Option W) (far stir : Int) : outS (k2 [some (.ref 0), o1, o2, o3, o4, o5, o6, o7, o8, some (.int 7), o10, o11, o12, o13, o14] (c0 far stir)) = good far stir := by kernel_rfl
theorem t2_11 (o1 o2 o3 o4 o5 o6 o7 o8 o10 o11 o12 o13 o14 : Option W) (far stir : Int) : outS (k2 [some (.ref 0), o1, o2, o3, o4, o5, o6, o7, o8, some (.int 11), o10, o11, o12, o13, o14] (c0 far stir)) = good far stir := by kernel_rfl
theorem t2_13 (o1 o2 o3 o4 o5 o6 o7 o8 o10 o11 o12 o13 o14 : Option W) (far stir : Int) : outS (k2 [some (.ref 0), o1, o2, o3, o4, o5, o6, o7, o8, some (.int 13), o10, o11, o12, o13, o14] (c0 far stir)) = good far stir := by kernel_rfl
theorem t2_29 (o1 o2 o3 o4 o5 o6 o7 o8 o10 o11 o12 o13 o14 : Option W) (far stir : Int) : outS (k2 [some (.ref 0), o1, o2, o3, o4, o5, o6, o7, o8, some (.int 29), o10, o11, o12, o13, o14] (c0 far stir)) = good far stir := by kernel_rfl
theorem t2_59 (o1 o2 o3 o4 o5 o6 o7 o8 o10 o11 o12 o13 o14 : Option W) (far stir : Int) : outS (k2 [some (.ref 0), o1, o2, o3, o4, o5, o6, o7, o8, some (.int 59), o10, o11, o12, o13, o14] (c0 far stir)) = good far stir := by kernel_rfl
theorem t2_113 (o1 o2 o3 o4 o5 o6 o7 o8 o10 o11 o12 o13 o14 : Option W) (far stir : Int) : outS (k2 [some (.ref 0), o1, o2, o3, o4, o5, o6, o7, o8, some (.int 113), o10, o11, o12, o13, o14] (c0 far stir)) = good far stir := by kernel_rfl
theorem t1_0 (o1 o2 o3 o4 o5 o6 o7 o8 o9 o11 o12 o13 o14 : Option W) (far stir : Int) : outS (k1 [some (.ref 0), o1, o2, o3, o4, o5, o6, o7, o8, o9, some (.int (3 + 2 * ((0 : Nat) : Int))), o11, o12, o13, o14] (c0 far stir)) = good far stir := by kernel_rfl
theorem t1_1 (o1 o2 o3 o4 o5 o6 o7 o8 o9 o11 o12 o13 o14 : Option W) (far stir : Int) : outS (k1 [some (.ref 0), o1, o2, o3, o4, o5, o6, o7, o8, o9, some (.int (3 + 2 * ((1 : Nat) : Int))), o11, o12, o13, o14] (c0 far stir)) = good far stir := by kernel_rfl
theorem t1_2 (o1 o2 o3 o4 o5 o6 o7 o8 o9 o11 o12 o13 o14 : Option W) (far stir : Int) : outS (k1 [some (.ref 0), o1, o2, o3, o4, o5, o6, o7, o8, o9, some (.int (3 + 2 * ((2 : Nat) : Int))), o11, o12, o13, o14] (c0 far stir)) = good far stir := by kernel_rfl
theorem t1_3 (o1 o2 o3 o4 o5 o6 o7 o8 o9 o11 o12 o13 o14 : Option W) (far stir : Int) : outS (k1 [some (.ref 0), o1, o2, o3, o4, o5, o6, o7, o8, o9, some (.int (3 + 2 * ((3 : Nat) : Int))), o11, o12, o13, o14] (c0 far stir)) = good far stir := by kernel_rfl
theorem t1_4 (o1 o2 o3 o4 o5 o6 o7 o8 o9 o11 o12 o13 o14 : Option W) (far stir : Int) : outS (k1 [some (.ref 0), o1, o2, o3, o4, o5, o6, o7, o8, o9, some (.int (3 + 2 * ((4 : Nat) : Int))), o11, o12, o13, o14] (c0 far stir)) = good far stir := by kernel_rfl
theorem t1_5 (o1 o2 o3 o4 o5 o6 o7 o8 o9 o11 o12 o13 o14 : Option W) (far stir : Int) : outS (k1 [some (.ref 0), o1, o2, o3, o4, o5, o6, o7, o8, o9, some (.int (3 + 2 * ((5 : Nat) : Int))), o11, o12, o13, o14] (c0 far stir)) = good far stir := by kernel_rfl
theorem t1_6 (o1 o2 o3 o4 o5 o6 o7 o8 o9 o11 o12 o13 o14 : Option W) (far stir : Int) : outS (k1 [some (.ref 0), o1, o2, o3, o4, o5, o6, o7, o8, o9, some (.int (3 + 2 * ((6 : Nat) : Int))), o11, o12, o13, o14] (c0 far stir)) = good far stir := by kernel_rfl
theorem t1_7 (o1 o2 o3 o4 o5 o6 o7 o8 o9 o11 o12 o13 o14 : Option W) (far stir : Int) : outS (k1 [some (.ref 0), o1, o2, o3, o4, o5, o6, o7, o8, o9, some (.int (3 + 2 * ((7 : Nat) : Int))), o11, o12, o13, o14] (c0 far stir)) = good far stir := by kernel_rfl
theorem t1_8 (o1 o2 o3 o4 o5 o6 o7 o8 o9 o11 o12 o13 o14 : Option W) (far stir : Int) : outS (k1 [some (.ref 0), o1, o2, o3, o4, o5, o6, o7, o8, o9, some (.int (3 + 2 * ((8 : Nat) : Int))), o11, o12, o13, o14] (c0 far stir)) = good far stir := by kernel_rfl
theorem t1_9 (o1 o2 o3 o4 o5 o6 o7 o8 o9 o11 o12 o13 o14 : Option W) (far stir : Int) : outS (k1 [some (.ref 0), o1, o2, o3, o4, o5, o6, o7, o8, o9, some (.int (3 + 2 * ((9 : Nat) : Int))), o11, o12, o13, o14] (c0 far stir)) = good far stir := by kernel_rfl
theorem t1_10 (o1 o2 o3 o4 o5 o6 o7 o8 o9 o11 o12 o13 o14 : Option W) (far stir : Int) : outS (k1 [some (.ref 0), o1, o2, o3, o4, o5, o6, o7, o8, o9, some (.int (3 + 2 * ((10 : Nat) : Int))), o11, o12, o13, o14] (c0 far stir)) = good far stir := by kernel_rfl
theorem t1_11 (o1 o2 o3 o4 o5 o6 o7 o8 o9 o11 o12 o13 o14 : Option W) (far stir : Int) : outS (k1 [some (.ref 0), o1, o2, o3, o4, o5, o6, o7, o8, o9, some (.int (3 + 2 * ((11 : Nat) : Int))), o11, o12, o13, o14] (c0 far stir)) = good far stir := by kernel_rfl
theorem t1_12 (o1 o2 o3 o4 o5 o6 o7 o8 o9 o11 o12 o13 o14 : Option W) (far stir : Int) : outS (k1 [some (.ref 0), o1, o2, o3, o4, o5, o6, o7, o8, o9, some (.int (3 + 2 * ((12 : Nat) : Int))), o11, o12, o13, o14] (c0 far stir)) = good far stir := by kernel_rfl
theorem t1_13 (o1 o2 o3 o4 o5 o6 o7 o8 o9 o11 o12 o13 o14 : Option W) (far stir : Int) : outS (k1 [some (.ref 0), o1, o2, o3, o4, o5, o6, o7, o8, o9, some (.int (3 + 2 * ((13 : Nat) : Int))), o11, o12, o13, o14] (c0 far stir)) = good far stir := by kernel_rfl
theorem t1_14 (o1 o2 o3 o4 o5 o6 o7 o8 o9 o11 o12 o13 o14 : Option W) (far stir : Int) : outS (k1 [some (.ref 0), o1, o2, o3, o4, o5, o6, o7, o8, o9, some (.int (3 + 2 * ((14 : Nat) : Int))), o11, o12, o13, o14] (c0 far stir)) = good far stir := by kernel_rfl
theorem t1_15 (o1 o2 o3 o4 o5 o6 o7 o8 o9 o11 o12 o13 o14 : Option W) (far stir : Int) : outS (k1 [some (.ref 0), o1, o2, o3, o4, o5, o6, o7, o8, o9, some (.int (3 + 2 * ((15 : Nat) : Int))), o11, o12, o13, o14] (c0 far stir)) = good far stir := by kernel_rfl
theorem t1_16 (o1 o2 o3 o4 o5 o6 o7 o8 o9 o11 o12 o13 o14 : Option W) (far stir : Int) : outS (k1 [some (.ref 0), o1, o2, o3, o4, o5, o6, o7, o8, o9, some (.int (3 + 2 * ((16 : Nat) : Int))), o11, o12, o13, o14] (c0 far stir)) = good far stir := by kernel_rfl
theorem t1_17 (o1 o2 o3 o4 o5 o6 o7 o8 o9 o11 o12 o13 o14 : Option W) (far stir : Int) : outS (k1 [some (.ref 0), o1, o2, o3, o4, o5, o6, o7, o8, o9, some (.int (3 + 2 * ((17 : Nat) : Int))), o11, o12, o13, o14] (c0 far stir)) = good far stir := by kernel_rfl
theorem t1_18 (o1 o2 o3 o4 o5 o6 o7 o8 o9 o11 o12 o13 o14 : Option W) (far stir : Int) : outS (k1 [some (.ref 0), o1, o2, o3, o4, o5, o6, o7, o8, o9, some (.int (3 + 2 * ((18 : Nat) : Int))), o11, o12, o13, o14] (c0 far stir)) = good far stir := by kernel_rfl
theorem t1_19 (o1 o2 o3 o4 o5 o6 o7 o8 o9 o11 o12 o13 o14 : Option W) (far stir : Int) : outS (k1 [some (.ref 0), o1, o2, o3, o4, o5, o6, o7, o8, o9, some (.int (3 + 2 * ((19 : Nat) : Int))), o11, o12, o13, o14] (c0 far stir)) = good far stir := by kernel_rfl
noncomputable def outR (r : RS) : Option (W × Option (List W)) := match r with
  | .rt w c => some (w, c.get 0)
  | _ => none
theorem t5 (o1 o2 o3 o4 o5 o6 o7 o8 o9 o10 o11 o12 o13 o14 : Option W) (far stir : Int) : outR (p_q4_1 [some (.ref 0), o1, o2, o3, o4, o5, o6, o7, o8, o9, o10, o11, o12, o13, o14] (c0 far stir)) = some (.bl true, some [.int far, .int stir]) := by kernel_rfl
theorem t3 (o1 o2 o3 o4 o5 o8 o9 o10 o11 o12 o13 o14 : Option W) (far stir : Int) (d : Nat) (hd : d < 30) : outS (k3 [some (.ref 0), o1, o2, o3, o4, o5, some (.int (1 + (d : Int))), some (.ref 1), o8, o9, o10, o11, o12, o13, o14] ((c0 far stir).push [.int 1])) = good far stir :=
  match d, hd with
  | 0, _ => t3_0 o1 o2 o3 o4 o5 o8 o9 o10 o11 o12 o13 o14 far stir
  | 1, _ => t3_1 o1 o2 o3 o4 o5 o8 o9 o10 o11 o12 o13 o14 far stir
  | 2, _ => t3_2 o1 o2 o3 o4 o5 o8 o9 o10 o11 o12 o13 o14 far stir
  | 3, _ => t3_3 o1 o2 o3 o4 o5 o8 o9 o10 o11 o12 o13 o14 far stir
  | 4, _ => t3_4 o1 o2 o3 o4 o5 o8 o9 o10 o11 o12 o13 o14 far stir
  | 5, _ => t3_5 o1 o2 o3 o4 o5 o8 o9 o10 o11 o12 o13 o14 far stir
  | 6, _ => t3_6 o1 o2 o3 o4 o5 o8 o9 o10 o11 o12 o13 o14 far stir
  | 7, _ => t3_7 o1 o2 o3 o4 o5 o8 o9 o10 o11 o12 o13 o14 far stir
  | 8, _ => t3_8 o1 o2 o3 o4 o5 o8 o9 o10 o11 o12 o13 o14 far stir
  | 9, _ => t3_9 o1 o2 o3 o4 o5 o8 o9 o10 o11 o12 o13 o14 far stir
  | 10, _ => t3_10 o1 o2 o3 o4 o5 o8 o9 o10 o11 o12 o13 o14 far stir
  | 11, _ => t3_11 o1 o2 o3 o4 o5 o8 o9 o10 o11 o12 o13 o14 far stir
  | 12, _ => t3_12 o1 o2 o3 o4 o5 o8 o9 o10 o11 o12 o13 o14 far stir
  | 13, _ => t3_13 o1 o2 o3 o4 o5 o8 o9 o10 o11 o12 o13 o14 far stir
  | 14, _ => t3_14 o1 o2 o3 o4 o5 o8 o9 o10 o11 o12 o13 o14 far stir
  | 15, _ => t3_15 o1 o2 o3 o4 o5 o8 o9 o10 o11 o12 o13 o14 far stir
  | 16, _ => t3_16 o1 o2 o3 o4 o5 o8 o9 o10 o11 o12 o13 o14 far stir
  | 17, _ => t3_17 o1 o2 o3 o4 o5 o8 o9 o10 o11 o12 o13 o14 far stir
  | 18, _ => t3_18 o1 o2 o3 o4 o5 o8 o9 o10 o11 o12 o13 o14 far stir
  | 19, _ => t3_19 o1 o2 o3 o4 o5 o8 o9 o10 o11 o12 o13 o14 far stir
  | 20, _ => t3_20 o1 o2 o3 o4 o5 o8 o9 o10 o11 o12 o13 o14 far stir
  | 21, _ => t3_21 o1 o2 o3 o4 o5 o8 o9 o10 o11 o12 o13 o14 far stir
  | 22, _ => t3_22 o1 o2 o3 o4 o5 o8 o9 o10 o11 o12 o13 o14 far stir
  | 23, _ => t3_23 o1 o2 o3 o4 o5 o8 o9 o10 o11 o12 o13 o14 far stir
  | 24, _ => t3_24 o1 o2 o3 o4 o5 o8 o9 o10 o11 o12 o13 o14 far stir
  | 25, _ => t3_25 o1 o2 o3 o4 o5 o8 o9 o10 o11 o12 o13 o14 far stir
  | 26, _ => t3_26 o1 o2 o3 o4 o5 o8 o9 o10 o11 o12 o13 o14 far stir
  | 27, _ => t3_27 o1 o2 o3 o4 o5 o8 o9 o10 o11 o12 o13 o14 far stir
  | 28, _ => t3_28 o1 o2 o3 o4 o5 o8 o9 o10 o11 o12 o13 o14 far stir
  | 29, _ => t3_29 o1 o2 o3 o4 o5 o8 o9 o10 o11 o12 o13 o14 far stir
  | d + 30, h => absurd h (by omega)
theorem t1 (o1 o2 o3 o4 o5 o6 o7 o8 o9 o11 o12 o13 o14 : Option W) (far stir : Int) (d : Nat) (hd : d < 20) : outS (k1 [some (.ref 0), o1, o2, o3, o4, o5, o6, o7, o8, o9, some (.int (3 + 2 * (d : Int))), o11, o12, o13, o14] (c0 far stir)) = good far stir :=
  match d, hd with
  | 0, _ => t1_0 o1 o2 o3 o4 o5 o6 o7 o8 o9 o11 o12 o13 o14 far stir
  | 1, _ => t1_1 o1 o2 o3 o4 o5 o6 o7 o8 o9 o11 o12 o13 o14 far stir
  | 2, _ => t1_2 o1 o2 o3 o4 o5 o6 o7 o8 o9 o11 o12 o13 o14 far stir
  | 3, _ => t1_3 o1 o2 o3 o4 o5 o6 o7 o8 o9 o11 o12 o13 o14 far stir
  | 4, _ => t1_4 o1 o2 o3 o4 o5 o6 o7 o8 o9 o11 o12 o13 o14 far stir
  | 5, _ => t1_5 o1 o2 o3 o4 o5 o6 o7 o8 o9 o11 o12 o13 o14 far stir
  | 6, _ => t1_6 o1 o2 o3 o4 o5 o6 o7 o8 o9 o11 o12 o13 o14 far stir
  | 7, _ => t1_7 o1 o2 o3 o4 o5 o6 o7 o8 o9 o11 o12 o13 o14 far stir
  | 8, _ => t1_8 o1 o2 o3 o4 o5 o6 o7 o8 o9 o11 o12 o13 o14 far stir
  | 9, _ => t1_9 o1 o2 o3 o4 o5 o6 o7 o8 o9 o11 o12 o13 o14 far stir
  | 10, _ => t1_10 o1 o2 o3 o4 o5 o6 o7 o8 o9 o11 o12 o13 o14 far stir
  | 11, _ => t1_11 o1 o2 o3 o4 o5 o6 o7 o8 o9 o11 o12 o13 o14 far stir
  | 12, _ => t1_12 o1 o2 o3 o4 o5 o6 o7 o8 o9 o11 o12 o13 o14 far stir
  | 13, _ => t1_13 o1 o2 o3 o4 o5 o6 o7 o8 o9 o11 o12 o13 o14 far stir
  | 14, _ => t1_14 o1 o2 o3 o4 o5 o6 o7 o8 o9 o11 o12 o13 o14 far stir
  | 15, _ => t1_15 o1 o2 o3 o4 o5 o6 o7 o8 o9 o11 o12 o13 o14 far stir
  | 16, _ => t1_16 o1 o2 o3 o4 o5 o6 o7 o8 o9 o11 o12 o13 o14 far stir
  | 17, _ => t1_17 o1 o2 o3 o4 o5 o6 o7 o8 o9 o11 o12 o13 o14 far stir
  | 18, _ => t1_18 o1 o2 o3 o4 o5 o6 o7 o8 o9 o11 o12 o13 o14 far stir
  | 19, _ => t1_19 o1 o2 o3 o4 o5 o6 o7 o8 o9 o11 o12 o13 o14 far stir
  | d + 20, h => absurd h (by omega)
end Sm
namespace Sm
open PySem PySem.Spec PyProof.Rows L2
/-! how the stages come one behind another -/
def Fin (r : RS) : Prop := ∃ (ω' : Sl) (c' : Ch) (far' stir' : Int), r = .nx ω' c' ∧ ω'.length = 15 ∧ ω'[0]? = some (some (.ref 0)) ∧ c'.get 0 = some [.int far', .int stir'] ∧ 0 ≤ far' ∧ 0 ≤ stir'
def Pk (b : EvS) : Prop := ∀ (ω : Sl) (far stir : Int), ω.length = 15 → ω[0]? = some (some (.ref 0)) → 0 ≤ far → 0 ≤ stir → Fin (b ω (c0 far stir))
theorem split15 {ω : Sl} (hl : ω.length = 15) (h0 : ω[0]? = some (some (.ref 0))) : ∃ o1 o2 o3 o4 o5 o6 o7 o8 o9 o10 o11 o12 o13 o14, ω = [some (.ref 0), o1, o2, o3, o4, o5, o6, o7, o8, o9, o10, o11, o12, o13, o14] := by
  match ω, hl, h0 with
  | [a, o1, o2, o3, o4, o5, o6, o7, o8, o9, o10, o11, o12, o13, o14], _, h0 =>
    have h0 : a = some (.ref 0) := by simpa using h0
    exact ⟨o1, o2, o3, o4, o5, o6, o7, o8, o9, o10, o11, o12, o13, o14, by rw [h0]⟩
theorem sub_fin {b : EvS} (h : Pk b) {ω : Sl} {c : Ch} {far stir : Int} (hl : ω.length = 15) (h0 : ω[0]? = some (some (.ref 0))) (hc : c.get 0 = some [.int far, .int stir]) (n1 : 0 ≤ far) (n2 : 0 ≤ stir) : Fin (sSub 0 b ω c) := by
  obtain ⟨ω', c', far', stir', e, l', z', g', m1, m2⟩ := h ((keepF ω).set 0 (some (.ref 0))) far stir (by rw [List.length_set]; unfold keepF; rw [List.length_map, hl]) (List.getElem?_set_self (by unfold keepF; rw [List.length_map, hl]; decide)) n1 n2
  have hs : sSub 0 b ω c = subEnd 0 c (b ((keepF ω).set 0 (some (.ref 0))) (Ch.nil.push [.int far, .int stir])) := by
    unfold sSub
    rw [h0]
    dsimp only
    rw [hc]
    rfl
  have he : subEnd 0 c (.nx ω' c') = .nx (backF 0 ω') (c.set 0 [.int far', .int stir']) := by
    unfold subEnd
    dsimp only
    rw [g']
    rfl
  refine ⟨backF 0 ω', c.set 0 [.int far', .int stir'], far', stir', by rw [hs, e, he], by unfold backF; rw [List.length_map, l'], ?_, by rw [Ch.get_set, if_pos rfl], m1, m2⟩
  unfold backF
  rw [List.getElem?_map, z']
  rfl
theorem out_nx {r : RS} {far stir : Int} (h : outS r = good far stir) : ∃ ω' c', r = .nx ω' c' ∧ ω'[0]? = some (some (.ref 0)) ∧ ω'.length = 15 ∧ c'.get 0 = some [.int far, .int stir] := by
  cases r with
  | nx ω' c' =>
    have h : some (ω'[0]?, ω'.length, c'.get 0) = some (some (some (W.ref 0)), 15, some [W.int far, W.int stir]) := h
    have h := Option.some.inj h
    obtain ⟨h1, h⟩ := Prod.mk.inj h
    obtain ⟨h2, h3⟩ := Prod.mk.inj h
    exact ⟨ω', c', rfl, h1, h2, h3⟩
  | _ => cases h
theorem seq3 {A B t : EvS} {ω ω' : Sl} {c c' : Ch} (h : sSeq A B ω c = .nx ω' c') : sSeq A (sSeq B t) ω c = t ω' c' := by
  unfold sSeq at h ⊢
  cases e : A ω c with
  | nx ω1 c1 =>
    rw [e] at h
    have h : B ω1 c1 = .nx ω' c' := h
    dsimp only
    rw [h]
  | _ => rw [e] at h; cases h
theorem r_par {i j : Nat} {a : EvA} {v w : W} {ω : Sl} {c c1 : Ch} (h : a ω c = .ok [v, w] c1) : sPar i j a ω c = .nx (setK (some w) (setK (some v) ω i) j) c1 := by
  unfold sPar
  rw [h]
  rfl
theorem pk1 : Pk p_q1_1 := by
  intro ω far stir hl h0 n1 n2
  obtain ⟨o1, o2, o3, o4, o5, o6, o7, o8, o9, o10, o11, o12, o13, o14, rfl⟩ := split15 hl h0
  obtain ⟨d, far', stir', hd, m1, m2, h4⟩ := draw_ok far stir 20 n1 n2 rfl rfl
  obtain ⟨ω', c', e, e0, el, eg⟩ := out_nx (t1 o1 o2 o3 o4 o5 o6 o7 o8 o9 o11 o12 o13 o14 far' stir' d (by omega))
  exact ⟨ω', c', far', stir', r_seq (r_set (r_bin rfl (r_bin rfl (r_call (r_cons rfl (r_one rfl)) rfl h4) rfl) rfl)) e, el, e0, eg, m1, m2⟩
theorem pk2 : Pk p_q1_2 := by
  intro ω far stir hl h0 n1 n2
  obtain ⟨o1, o2, o3, o4, o5, o6, o7, o8, o9, o10, o11, o12, o13, o14, rfl⟩ := split15 hl h0
  obtain ⟨d, w, far', stir', hw, m1, m2, h4⟩ := of_ok far stir [.int 2, .int 3, .int 5, .int 7, .int 11, .int 13, .int 29, .int 59, .int 113] n1 n2 rfl rfl
  have key : outS (k2 [some (.ref 0), o1, o2, o3, o4, o5, o6, o7, o8, some w, o10, o11, o12, o13, o14] (c0 far' stir')) = good far' stir' := by
    match d, hw with
    | 0, hw => cases hw; exact t2_2 ..
    | 1, hw => cases hw; exact t2_3 ..
    | 2, hw => cases hw; exact t2_5 ..
    | 3, hw => cases hw; exact t2_7 ..
    | 4, hw => cases hw; exact t2_11 ..
    | 5, hw => cases hw; exact t2_13 ..
    | 6, hw => cases hw; exact t2_29 ..
    | 7, hw => cases hw; exact t2_59 ..
    | 8, hw => cases hw; exact t2_113 ..
    | d + 9, hw => simp at hw
  obtain ⟨ω', c', e, e0, el, eg⟩ := out_nx key
  have fin := sub_fin pk1 el e0 eg m1 m2
  obtain ⟨ω2, c2, f2, s2, e2, r⟩ := fin
  exact ⟨ω2, c2, f2, s2, r_seq (r_set (r_call (r_cons rfl (r_one rfl)) rfl h4)) (r_seq e e2), r⟩
theorem pk3 : Pk p_q1_3 := by
  intro ω far stir hl h0 n1 n2
  obtain ⟨o1, o2, o3, o4, o5, o6, o7, o8, o9, o10, o11, o12, o13, o14, rfl⟩ := split15 hl h0
  obtain ⟨d, far', stir', hd, m1, m2, h4⟩ := draw_ok far stir 30 n1 n2 rfl rfl
  obtain ⟨ω', c', e, e0, el, eg⟩ := out_nx (t3 o1 o2 o3 o4 o5 o8 o9 o10 o11 o12 o13 o14 far' stir' d (by omega))
  obtain ⟨ω2, c2, f2, s2, e2, r⟩ := sub_fin pk2 el e0 eg m1 m2
  exact ⟨ω2, c2, f2, s2, r_seq (r_par (r_cons (r_bin rfl (r_call (r_cons rfl (r_one rfl)) rfl h4) rfl) (r_one rfl))) ((seq3 e).trans e2), r⟩
theorem pk4 : Pk p_q1_4 := by
  intro ω far stir hl h0 n1 n2
  obtain ⟨o1, o2, o3, o4, o5, o6, o7, o8, o9, o10, o11, o12, o13, o14, rfl⟩ := split15 hl h0
  obtain ⟨d, far', stir', hd, m1, m2, h4⟩ := draw_ok far stir 120 n1 n2 rfl rfl
  obtain ⟨ω', c', e, e0, el, eg⟩ := out_nx (t4 o1 o2 o3 o5 o6 o7 o8 o9 o10 o11 o12 o13 o14 far' stir' d (by omega))
  obtain ⟨ω2, c2, f2, s2, e2, r⟩ := sub_fin pk3 el e0 eg m1 m2
  exact ⟨ω2, c2, f2, s2, r_seq (r_set (r_bin rfl (r_call (r_cons rfl (r_one rfl)) rfl h4) rfl)) ((seq3 e).trans e2), r⟩
theorem q1_ok (ω : Sl) (far stir : Int) (hl : ω.length = 15) (h0 : ω[0]? = some (some (.ref 0))) (n1 : 0 ≤ far) (n2 : 0 ≤ stir) : Fin (q1 ω (c0 far stir)) := sub_fin pk4 hl h0 rfl n1 n2
end Sm
/-! Xc1: an own exception over ValueError whose __init__ says super().__init__(), then keeps what it was given -/
namespace Xc
open PySem PySem.W PySem.Spec PySem.Calls PyProof.Rows
section
variable {prog : Program} {w : World} {A : Around} {E : Value → Shared → Prop} {h : Heap} {g : Array GenState} {d : Drawn} {t : Nat} {os : OsState}
variable {nm q : Str} {C N : Addr} {bs bm : List Value} {hdct : Bool} {sn : List Str} {sub : List Value} {ab : Bool} {col : Option Bool} {dd : Option Addr} {k0 k1 k2 k3 k5 : Option Value}
theorem ve_call {u e t0 : Addr} {rest : List Value} {Q : Value → Shared → Prop}
    (hC : h.get? C = some (excClassObj nm q C N bs bm hdct sn sub ab col dd k0 k1 k2 k3 k5 "ValueError.__new__")) (he : h.get? e = some (HandSPX.excO C t0)) (hu : h.get? u = some (kxs_mw "ValueError.__init__" e)) (hrest : rest.length ≤ sizeLine)
    (hq : ∀ h' t1, (∀ b o, b ≠ e → h.get? b = some o → h'.get? b = some o) → h'.get? e = some (HandSPX.excO C t1) → Q .none ⟨h', g, d, t, os⟩) :
    wpAny (model prog w) A (call (.ref u) rest) Q E ⟨h, g, d, t, os⟩ := by
  refine wpAny_call (codeAny_of_tree ?_)
  show wpAny _ A.in1 (callAny (.ref u) ⟨rest, []⟩) _ _ _
  simp only [callAny]
  refine wpAny_bind (wpAny_load hu ?_)
  simp only [kxs_mw, show (Value.type "method-wrapper" == Value.type "method" || Value.type "method-wrapper" == Value.type "builtin_function_or_method" || Value.type "method-wrapper" == Value.type "method-wrapper") = true by decide, if_true]
  refine W.KFB.if_so (by decide) ?_
  refine wpAny_bind (ESX.check_bound F.excBase_ValueError hC he rfl ?_)
  refine wpAny_bind (wpAny_pure (wpAny_pure ?_))
  refine ⟨Code.quiet_builtin _ (by decide +kernel), codeAny_builtin F.excBase_ValueError.initEntry ?_⟩
  rw [Around.under_plainId F.excBase_ValueError.init.plain _]
  wp_walk
  refine hq _ h.objs.size (fun b o hb ho => ?_) ?_
  · rw [Heap.get?_update_other _ _ (Ne.symm hb)]
    exact Heap.get?_push_of_some _ ho
  · rw [Heap.get?_update_self _ (Heap.get?_push_of_some _ he) rfl]
    rfl
end
/-- the text of such an __init__ -/
abbrev xBody (at_ : Str) (p0 p1 p2 p3 p4 p5 p6 p7 p8 : Pos) : List Stmt :=
  [.Expr (.Call (.Attribute (.Call (.Name "super" p0) [] [] p1) "__init__" p2) [] [] p3) p4, .Assign [.Attribute (.Name "self" p5) at_ p6] (.Name at_ p7) p8]
/-- what the written part says of the class at C and its __init__ at f -/
structure XInit (P : Program) (K : Frag) (mg : Str → Option Value) (C f : Addr) (at_ : Str) (fd : FuncData) : Prop where
  T : L2.OexC K C
  fn : ∃ (oc : Value) (od : Option Addr) (doc pm ct : Value) (an : Option Addr) (osl : Array (Option Value)) (qual : Str) (params : Arguments) (scope : Scope) (cda cc : Addr) (p0 p1 p2 p3 p4 p5 p6 p7 p8 : Pos) (ccl cl : Value) (cdd cld : Option Addr) (vs : Array Value) (ccs csl : Array (Option Value)) (file : Str) (tf : Tok) (ar : Arg),
    fd = ksFn "__init__" qual params (xBody at_ p0 p1 p2 p3 p4 p5 p6 p7 p8) scope .none .none doc pm an (.ref cda) ct cc ∧
    K.lookup f = some ⟨oc, od, .func fd, osl⟩ ∧ codeIn K (.ref cda) qual = true ∧
    (params.posonlyargs ++ params.args).head? = some ar ∧ ar.arg = "self" ∧
    K.lookup cda = some ⟨ccl, cdd, .fields vs, ccs⟩ ∧ vs[2]? = some (.str file tf) ∧ ((P.main.file : Str) == file) = true ∧
    K.lookup cc = some ⟨cl, cld, .cell (some (.ref C)), csl⟩ ∧
    scope.names.lookup ("super" : Str) = some NameKind.globalImplicit ∧ scope.names.lookup ("__class__" : Str) = some NameKind.free ∧ scope.names.lookup ("self" : Str) = some NameKind.local ∧ scope.names.lookup at_ = some NameKind.local ∧
    (∀ env : Env, ∃ pl : Sem Bool, eval (.Call (.Attribute (.Call (.Name "super" p0) [] [] p1) "__init__" p2) [] [] p3) env = (do
      let ov ← attributeBase (.Call (.Name "super" p0) [] [] p1) "__init__" env (eval (.Call (.Name "super" p0) [] [] p1) env)
      standAt p2.atName
      let (f, first) ← holding [ov] (getMethod ov "__init__" pl)
      callWith p3 f first (backTo p3 (starEach [] env)) [])) ∧
    (∀ x ∈ scope.names, x.2 ≠ NameKind.cell) ∧ scope.isCoroutine = false ∧ scope.isGenerator = false ∧ scope.kind = ScopeKind.function
  top : (P.main.scope.names.lookup ("super" : Str)).isSome = false
  sup : mg "super" = none
  own : mroIn K C (.ref C) = some true
  noN : findIn K (.ref C) at_ = some none
  sub : subIn K (.ref C) (.type "ValueError") = some true
  hm : ks_superIn K C C "__init__" = some (some (.builtin "ValueError.__init__"))
  opq : nsIn K cStatics "thirdparty.any" = some none
  nself : at_ ≠ "self"
  ndeb : (at_ == ("__debug__" : Str)) = false
theorem mw_push {h : Heap} {x : Addr} {o : Obj} (b : Addr) (u : Obj) (e : h.get? b = some u) : (h.push o).get? b = some u := Heap.get?_push_of_some _ e
open L2 in
theorem XInit.ok {P : Program} {w : World} {K : Frag} {mg : Str → Option Value} {base : Heap} {CX : CXT} {C f : Addr} {at_ : Str} {fd : FuncData} (G : XInit P K mg C f at_ fd) :
    FnOk P w K mg base CX 1 f fd ["self", at_] (fun vs H Q _ => ∃ (a : Addr) (y : V), vs = [.ref a, y] ∧ H a = some (exo a C none) ∧ ∀ dx, H dx = none → dx ≠ a → Q .non (upd (upd H dx (exd dx [(at_, y)])) a (exo a C (some dx)))) := by
  refine ⟨fun vs H Q E ⟨a, y, e, _⟩ => by rw [e]; rfl, fun A outer s H args us vs Q E hr e0 hbind r hsp => ?_⟩
  obtain ⟨a, y, rfl, ea, hq⟩ := hsp
  obtain ⟨ua, uy, rfl, ra, ry⟩ := vals2 r
  obtain rfl : ua = Value.ref a := ra
  obtain ⟨oc, od, doc, pm, ct, an, osl, qual, params, scope, cda, cc, p0, p1, p2, p3, p4, p5, p6, p7, p8, ccl, cl, cdd, cld, vs, ccs, csl, file, tf, ar, rfl, ho, hcd, hp, hself, hcode, hvs, hfile, hcell, n1, n2, n3, n4, hev, n5, n6, n7, n8⟩ := G.fn
  obtain ⟨nm, q, N, bs, bm, sn, sub, ab, col, dd, k0, k1, k2, k3, k5, hC, hbm⟩ := G.T.cls
  have hcl : clsIn K C = some { name := nm, bases := bs, mro := .ref C :: bm, ns := N, qualname := q, hasDict := true, slotNames := sn, subclasses := sub, abstract := ab, collection := col, hasDel := false } := by unfold clsIn; rw [hC] <;> rfl
  have KX : K.In s.heap := e0.mod.kin.keeps fun b o e => (e0.bs b o e).1
  have lim : s.heap.NoLimit := e0.mod.nolimit.keeps fun b o e => (e0.bs b o e).1
  have bk : ∀ b o, base.get? b = some o → s.heap.get? b = some o := fun b o e => (e0.bs b o e).1
  obtain ⟨mb, b1, b2⟩ := e0.mod.blt
  obtain ⟨t0, hx⟩ := exo_at e0.hok ea
  obtain ⟨hp0, g, d, t, os⟩ := s
  refine ks_codeAny_call_defAt (fd := ksFn "__init__" qual params (xBody at_ p0 p1 p2 p3 p4 p5 p6 p7 p8) scope .none .none doc pm an (.ref cda) ct cc) (body := xBody at_ p0 p1 p2 p3 p4 p5 p6 p7 p8) hr.depth (KX _ _ ho) rfl lim (codeRec_of KX hcd) rfl hbind n5 (fun z hz => ?_) (fun h₁ hns hk₁ => ?_) n6 n7 n8
  · simp only [List.zip_cons_cons, List.zip_nil_right, List.mem_cons, List.not_mem_nil, or_false] at hz
    rcases hz with rfl | rfl
    · exact n3
    · exact n4
  have K₁ : K.In h₁ := KX.keeps hk₁
  have bk₁ : ∀ b o, base.get? b = some o → h₁.get? b = some o := fun b o e => hk₁ b o (bk b o e)
  have hx₁ := hk₁ _ _ hx
  have hC₁ := K₁ _ _ hC
  have haC : a ≠ C := fun z => by
    rw [z, hC₁] at hx₁
    cases hx₁
  obtain ⟨pl, hev⟩ := hev (callEnv (ksFn "__init__" qual params (xBody at_ p0 p1 p2 p3 p4 p5 p6 p7 p8) scope .none .none doc pm an (.ref cda) ct cc) hp0.objs.size f)
  have lkS : List.lookup ("self" : Str) (List.reverse ([("self" : Str), at_].zip [Value.ref a, uy])) = some (.ref a) := by
    have e : (("self" : Str) == at_) = false := by simpa using fun z : ("self" : Str) = at_ => G.nself z.symm
    show List.lookup ("self" : Str) [(at_, uy), (("self" : Str), Value.ref a)] = _
    rw [List.lookup_cons, e]
    simp
  have lkA : List.lookup at_ (List.reverse ([("self" : Str), at_].zip [Value.ref a, uy])) = some uy := by
    show List.lookup at_ [(at_, uy), (("self" : Str), Value.ref a)] = _
    rw [List.lookup_cons]
    simp
  refine ks_wpAt_execs_cons (ks_wpAt_Expr_any (ks_wpAt_MethodCall (pl := pl) ?_ hev) (by unfold interactive; first | (rw [show (callEnv (ksFn "__init__" qual params (xBody at_ p0 p1 p2 p3 p4 p5 p6 p7 p8) scope .none .none doc pm an (.ref cda) ct cc) hp0.objs.size f).scope.kind = ScopeKind.function from n8]; rfl) | simp [n8]))
  refine ks_wpAt_super_base (f := f) (cc := cda) n1 n2 (by decide) rfl (K₁ _ _ ho) rfl hp rfl (K₁ _ _ hcode) rfl hvs hfile G.top ?_
  refine ks_loadName_global n8 n1 (loadGlobal_builtin (e0.mod.glob.keeps bk₁) G.sup (b1.keeps bk₁) ((b2 _ (by decide)).trans (by decide +kernel : bootBuiltins "super" = some (.type "super"))) ⟨rfl, ?_⟩)
  refine wpAny_loadName_free n8 n2 rfl ⟨_, K₁ _ _ hcell, rfl⟩ ?_
  refine wpAny_loadName_local (v := .ref a) n8 (by rw [hself]; exact n3) hns (by rw [hself]; exact lkS) ?_
  refine ks_wpAny_isType_cls hC₁ rfl ⟨rfl, ?_⟩
  refine ks_wpAny_call_super hC₁ rfl hx₁ rfl (fun c e => ?_) (looks_mroIn K₁ G.own) (fun h₂ hso k₂ => ?_)
  · cases e
  have K₂ : K.In h₂ := K₁.keeps k₂
  have hI : InstAt h₂ a (HandSPX.excO C t0) C none := ⟨k₂ _ _ hx₁, rfl, rfl, trivial⟩
  have hm := G.hm
  unfold ks_superIn at hm
  rw [hcl] at hm
  refine kxs_getMethod kxs_ValueError hso (looks_opaque K₂ G.opq) (fun A Q E s k q => wpAny_bind ((looks_clsIn K₂ hcl) A _ E s k (wpAny_pure q))) rfl K₂ hm (hI.type.andThen (looks_subIn K₂ G.sub)) haC (by decide) ?_
  have hu : (h₂.push (kxs_mw "ValueError.__init__" a)).get? h₂.objs.size = some (kxs_mw "ValueError.__init__" a) := Heap.get?_push_at rfl rfl
  have k₃ : ∀ b o, h₂.get? b = some o → (h₂.push (kxs_mw "ValueError.__init__" a)).get? b = some o := fun b o e => Heap.get?_push_of_some _ e
  refine kxs_callWith (i := "ValueError.__init__") (x := a) rfl (evalArgs_empty ⟨hu, ve_call (k₃ _ _ (K₂ _ _ hC)) (k₃ _ _ (k₂ _ _ hx₁)) hu (Nat.zero_le _) fun h₄ t1 k₄ hx₄ => ?_⟩)
  -- self.at_ = at_
  have k : ∀ b o, b ≠ a → hp0.get? b = some o → h₄.get? b = some o := fun b o hb e => k₄ b o hb (k₃ _ _ (k₂ _ _ (hk₁ _ _ e)))
  have K₄ : K.In h₄ := fun b o e => k b o (fun z => by
    have q := KX _ _ e
    rw [z] at e
    have q2 := e0.hok a _ ea
    have q3 : base.get? a = some o := e0.mod.kin _ _ e
    rw [(e0.bs a o q3).2] at ea
    cases ea) (KX _ _ e)
  have haL : hp0.objs.size ≠ a := Nat.ne_of_gt (Heap.lt_size hx)
  have hns₄ : h₄.Ns hp0.objs.size (fun y => (List.reverse ([("self" : Str), at_].zip [Value.ref a, uy])).lookup y) := by
    obtain ⟨oL, es, ep, hL, r⟩ := hns
    exact ⟨oL, es, ep, k₄ _ _ haL (k₃ _ _ (k₂ _ _ hL)), r⟩
  refine wpAt_of_wpAny (wpAny_execs_cons (plainObj_wpAny_Assign_Attribute ?_))
  refine wpAny_Name (wpAny_loadName_local n8 n4 hns₄ lkA ?_) G.ndeb
  refine wpAny_Name (wpAny_loadName_local n8 n3 hns₄ lkS ?_) (by decide)
  refine set_plain K₄ (ox := HandSPX.excO C t1) (od := none) ⟨hx₄, rfl, rfl, trivial⟩ G.T.sa ?_
  refine HandSPX.exc_osa K₄ hx₄ hcl (show HandSPX.refsVE (.ref C :: bm) = true from hbm) rfl G.noN (fun h₅ tk₅ dx k₅ dn dne hx₅ hn₅ => ?_)
  show wpAny _ _ (execs _ _) _ _ _
  refine wpAny_execs_nil ?_
  have kk : ∀ b o, b ≠ a → hp0.get? b = some o → h₅.get? b = some o := fun b o hb e => k₅ b o hb (k b o hb e)
  have dn0 : hp0.objs.size ≤ dx := by
    refine Nat.le_trans (Nat.le_of_lt ?_) dn
    obtain ⟨oL, _, _, hL, _⟩ := hns₄
    exact Heap.lt_size hL
  have hnd : H dx = none := e0.hok.fresh dn0
  have nd : ∀ {b : Addr} {o : Obj}, hp0.get? b = some o → b ≠ dx := fun {b o} q => Nat.ne_of_lt (Nat.lt_of_lt_of_le (Heap.lt_size q) dn0)
  have na : ∀ {b : Addr}, H b = none → b ≠ a := fun {b} n z => by
    rw [z, ea] at n
    cases n
  refine ⟨.non, upd (upd H dx (exd dx [(at_, y)])) a (exo a C (some dx)), rfl, e0.bare, {
    keep := fun b o q n _ _ => kk b o (na n) q
    slot := fun b o q n _ _ => ⟨o.slots, kk b o (na n) q⟩
    free := fun b o q n _ => by rw [upd_ne (na n), upd_ne (nd q)]; exact n
    there := fun b o q _ => by
      by_cases hb : b = a
      · exact ⟨_, by rw [hb]; exact hx₅⟩
      · exact ⟨o, kk b o hb q⟩
    tups := fun b xs q => by rw [upd_ne (at_ne ea q exo_tup), upd_ne (ne_of_none q hnd)]; exact q
    frzs := fun b o v q => by rw [upd_ne (at_ne ea q exo_frz), upd_ne (ne_of_none q hnd)]; exact q
    tbls := fun b ps q => ⟨#[], by rw [upd_ne (at_ne ea q exo_tbl), upd_ne (ne_of_none q hnd), q]; simp⟩ }, fun b o q => ?_, rfl, hq dx hnd dne⟩
  by_cases hb : b = a
  · subst hb
    rw [upd_same] at q
    cases q
    exact exo_ok hx₅
  · rw [upd_ne hb] at q
    by_cases hd : b = dx
    · subst hd
      rw [upd_same] at q
      cases q
      exact exd_ok hn₅ (relO_put (fs := []) ry fun g => True.intro)
    · rw [upd_ne hd] at q
      exact (e0.hok b o q).stay (fun c v hc z => kk c v (by
          rcases hc with hc | hc
          · rw [hc]
            exact hb
          · exact at_ne ea hc exo_own) z)
        (fun c hc => by rw [upd_ne (at_ne ea hc exo_own), upd_ne (ne_of_none hc hnd)]; exact hc) (fun c xs hc => by rw [upd_ne (at_ne ea hc exo_tup), upd_ne (ne_of_none hc hnd)]; exact hc)
end Xc
/-! Xc2: a caught exception that has a dict: isinstance of it; how often a flat value stands in a list -/
namespace Xc
open PySem PySem.W PySem.Spec PySem.Calls PyProof.Rows
section
variable {prog : Program} {w : World} {A : Around} {E : Value → Shared → Prop} {s : Shared} {K : Frag} {x D : Addr} {ox : Obj} {od : Option Obj}
theorem dataD {name : Str} {a g : Value} (h0 : (clsIn K D).isSome = true) (h1 : findIn K (.ref D) name = some (some a)) (h2 : specialIn K a "__get__" = some (some g)) (h3 : takesIn K a = some true) : findObj K D od name = some (.bind g a) := by
  cases e : clsIn K D with
  | none => rw [e] at h0; cases h0
  | some cd =>
    unfold findObj
    rw [e, Option.bind_some, h1, Option.bind_some]
    simp [h2, h3]
theorem askClass {Q : Option Value → Shared → Prop} (T : L2.ExcC K D) (X : K.In s.heap) (I : InstAt s.heap x ox D od) (h : Q (some (.ref D)) { s with toks := s.toks + 1 }) : wpAny (model prog w) A (getAttr? (.ref x) "__class__") Q E s := by
  obtain ⟨t1, t2, t3, t4, t5, t6, t7, t8⟩ := T
  have hf : findObj K D od "__class__" = some (.bind (.builtin "getset_descriptor.__get__") (.builtin "object.__class__")) := dataD (by obtain ⟨cd, hc, _⟩ := any_some t4; rw [hc]; rfl) t5 t6 t7
  obtain ⟨hp, g, d, t, os⟩ := s
  have l0 := I.type (M := model prog w)
  have l1 := looks_findIn (M := model prog w) X t1
  have l2 := looks_findIn (M := model prog w) X t2
  have l3 := looks_find (M := model prog w) X I hf
  have sb : Looks (model prog w) hp (isInstance (.ref x) (.type "BaseException")) true := l0.andThen (looks_subIn X t3)
  have e2 : (Value.builtin "BaseException.__getattribute__" == Value.builtin "object.__getattribute__") = false := by decide +kernel
  have e1 : (onTheHeap (Value.ref D) && Value.builtin "BaseException.__getattribute__" == Value.builtin "object.__getattribute__") = false := by rw [e2]; rfl
  unfold getAttr? getAttrBy? getAttrBy
  refine wpAny_bind (wpAny_mkText (wpAny_bind (wpAny_attempt (wpAny_holding (wpAny_bind (l0.at (wpAny_bind (l1.at ?_))))))))
  show wpAny _ _ (if (onTheHeap (Value.ref D) && (Value.builtin "BaseException.__getattribute__" == Value.builtin "object.__getattribute__")) = true then _ else _) _ _ _
  rw [e1, if_neg Bool.false_ne_true]
  unfold getAttrByItsOwn hookBefore
  refine wpAny_bind ?_
  have hp1 : onTheHeap (Value.ref D) = true := rfl
  rw [if_pos hp1]
  refine l2.at ?_
  refine wpAny_bind (wpAny_attempt (wpAny_holding ?_))
  unfold callGetattribute
  have hp2 : (false && onTheHeap (Value.builtin "BaseException.__getattribute__")) = false := rfl
  rw [hp2, if_neg Bool.false_ne_true]
  unfold boundAndCalled
  rw [PySem.F.excAttr_ValueError.ga.bind (.ref x)]
  refine wpAny_bind (wpAny_pure ?_)
  show wpAny _ _ (call (.builtin "BaseException.__getattribute__") [Value.ref x, .str "__class__" t]) _ _ _
  refine wpAny_call (codeAny_call_builtin PySem.F.excAttr_ValueError.ga.plain PySem.F.entry_bexc_ga ?_)
  refine @check_slot (model prog w) _ _ ⟨hp, g, d, t + 1, os⟩ "BaseException.__getattribute__" "BaseException" "__getattribute__" (.ref x) [.str "__class__" t] [] _ (by decide +kernel)
    (by decide +kernel) sb (PySem.F.args_bexc_ga (.ref x) (.str "__class__" t)) ?_
  unfold Builtin.«object.__getattribute__»
  refine wpAny_bind (wpAny_of_eq (a := (Value.ref x, [Value.str "__class__" t])) (by first | rfl | (simp only [slotArgs]; rfl)) ?_)
  refine wpAny_bind (wpAny_pure (wpAny_bind (l0.at (wpAny_bind (l3.at ?_)))))
  show wpAny _ _ (holding [Value.builtin "object.__class__"] (call (.builtin "getset_descriptor.__get__") [Value.builtin "object.__class__", .ref x, .ref D]) >>= ret) _ _ _
  refine wpAny_bind (wpAny_holding (wpAny_call (class_get (s := ⟨hp, g, d, t + 1, os⟩) (ox := ox) (od := od) X I t8 ?_)))
  refine wpAny_pure ?_
  refine wpAny_pure ?_
  first
    | exact wpAny_pure h
    | (rw [handedOut_of (v := .ref D) rfl]; first | exact wpAny_pure (wpAny_pure h) | exact wpAny_pure h)
theorem kitD (T : L2.ExcC K D) : KitX K (.ref x) (.ref D) (fun h => InstAt h x ox D od) := by
  obtain ⟨cd, hc, _⟩ := any_some T.hd
  have hc' := hc
  unfold clsIn at hc'
  split at hc'
  · rename_i c1 d1 cd1 sl1 ho
    refine ⟨fun _ _ _ I => I.type, fun _ _ X _ => fun A' Q' E' s' k q => ?_, fun h tp dd its n sl X htp => ?_, fun X I k => askClass T X I k⟩
    · unfold isType loadHead
      exact wpAny_bind (wpAny_loadPart (k _ _ (X _ _ ho)) (wpAny_pure q))
    · refine Bool.eq_false_iff.mpr fun q => ?_
      have e : D = tp := Value.ref.inj (beq_iff_eq.mp q)
      subst e
      have z := (X _ _ ho).symm.trans htp
      cases z
  · cases hc'
end
end Xc
namespace Xc
open PySem PySem.Spec PyProof.Rows L2
/-- isinstance(e, c), e the exception that the suite holds, d its dict -/
def rIsD (K : PySem.W.Frag) (D a : Addr) (dd : Addr) : List V → Hp → VK → Prop := fun xs H Q => ∃ (c : V) (cv : Value) (b : Bool), xs = [.ref a, c] ∧ (∀ u, RelV c u → u = cv) ∧ PySem.W.kitOne K (.ref D) cv = some b ∧ (∃ fs, H dd = some (.xd fs)) ∧ Q (.bl b) H
theorem call_isD {X : Cx} {a D dd : Addr} {oe : Obj} {pn : List (Addr × Obj)} (C : ExcC X.K D) (hz : Zc (.ref D) (some dd) oe) (hf : ∃ vs, oe.data = .fields vs) : CallR (X.suite a ((a, oe) :: pn)) (.builtin "isinstance") (rIsD X.K D a dd) := by
  intro pins s σ H xs us Q I r h
  obtain ⟨c, cv, b, rfl, hcv, e, ⟨o, ho⟩, q⟩ := h
  obtain ⟨u1, u2, rfl, rx, rt⟩ := vals2 r
  obtain rfl : u1 = Value.ref a := rx
  have ec := hcv _ rt
  subst ec
  obtain ⟨hget, _⟩ := I.pin (a, oe) (List.mem_append.mpr (.inl List.mem_cons_self))
  obtain ⟨vs, hv⟩ := hf
  obtain ⟨od, hod⟩ : ∃ od, s.heap.get? dd = some od := by
    have z : ObjOk X.prog X.w H s.heap dd (.xd o) := I.hok dd _ ho
    obtain ⟨mA, ⟨od, _, _, z, _⟩, _⟩ := z
    exact ⟨od, z⟩
  have J : PySem.W.InstAt s.heap a oe D (some od) := by
    obtain ⟨oc, oo, oda, osl⟩ := oe
    obtain ⟨h1, h2⟩ := hz
    dsimp only at h1 h2 hv
    subst h1 h2 hv
    exact ⟨hget, rfl, rfl, hod⟩
  exact PySem.W.kia_one (kitD C) I.kIn J e (fun z => nomatch z) fun tk => ⟨.bl b, H, I.kept (t' := tk) fun _ _ z => z, rfl, q⟩
def rCountF (K : PySem.W.Frag) : V → List V → Hp → VK → Prop := fun x xs H Q => ∃ (a : Addr) (ys : List V) (y : V), x = .ref a ∧ xs = [y] ∧ SqL K H a ys ∧ flatV y = true ∧ ys.all flatV = true ∧ Q (.int (ys.countP fun z => eqV z y : Nat)) H
theorem countP_eq {y : V} : ∀ {ys : List V} {us : List Value}, Vals ys us → ys.all flatV = true → us.countP (eqU y) = ys.countP fun z => eqV z y
  | _, _, .nil, _ => rfl
  | z :: ys, u :: us, .cons r t, f => by
    rw [List.all_cons, Bool.and_eq_true] at f
    rw [List.countP_cons, List.countP_cons, countP_eq t f.2, eqU_of r f.1]
theorem mt_countF {X : Cx} : MtR X "list.count" (rCountF X.K) := by
  intro pins s σ H x xs v us Q I rx rxs h
  obtain ⟨a, ys, y, rfl, rfl, hs, fy, fys, q⟩ := h
  cases rx
  obtain ⟨uy, rfl, ry⟩ := rxs.one
  obtain ⟨its, rv, ⟨⟨c1, d1, data, sl⟩, n, ho, hc, hdn, hd⟩, hlen⟩ := I.list hs
  simp only at hc hd
  subst hc hd
  refine call_meets PySem.F.slot_list_count ⟨_, ho, rfl⟩ PySem.F.entry_list_count (PySem.F.args_list_count_2 _ _) (SeqAt.list_countAt a its.toArray n d1 sl uy (eqU y)) ⟨ho, fun u hu => mem_eqAt ry fy rv fys u (by simpa using hu), ?_⟩
  refine ⟨.int (ys.countP fun z => eqV z y : Nat), H, I.tok _, ⟨s.toks, ?_⟩, q⟩
  rw [← countP_eq rv fys]
end Xc
/-! Xc3: _law_kept -/
namespace Xc
open PySem PySem.Spec PyProof.Rows L2 LamX Sm
abbrev Nk : List Str := ["act", "e", "flags", "words", "at"]
abbrev s_kept : Stmt := top 30
theorem sc_kept : FnScope Nk ["act"] (defScope s_kept) := ⟨rfl, rfl, rfl, by decide +kernel, rfl, by decide +kernel, by decide +kernel⟩
/-- what the top says of the error classes R over C -/
structure Errs (K : PySem.W.Frag) (mg : Str → Option Value) (R C : Addr) : Prop where
  gR : mg "RollError" = some (.ref R)
  gC : mg "InvalidTeeth" = some (.ref C)
  gI : mg "isinstance" = none
  gV : mg "ValueError" = none
  ex : ExcC K C
  xf : XfC K C
  ca : PySem.W.exmOne K (.ref C) (.ref R) = some true
  is1 : PySem.W.kitOne K (.ref C) (.ref C) = some true
  is2 : PySem.W.kitOne K (.ref C) (.type "ValueError") = some true
  no : PySem.W.findIn K (.ref C) "given" = some none
abbrev kX (P : Program) (w : World) (K : PySem.W.Frag) (mg : Str → Option Value) (base : Heap) (g : Addr) (cdg : Value) (A : Around) (outer : List Env) (s : Shared) (H : Hp) : Cx := (cxOf C8.CX0 P w K mg base Nk "_law_kept" (defScope s_kept) g cdg A outer s H C8.E0).nox
def suiteOf (st : Stmt) : List Stmt := match st with
  | .Try _ (.ExceptHandler _ _ b _ :: _) _ _ _ => b
  | _ => []
abbrev suite0 : List Stmt := suiteOf ((defBody s_kept).getD 0 (.Pass ⟨0, 0, 0, 0⟩))
section
variable {P : Program} {w : World} {K : PySem.W.Frag} {mg : Str → Option Value} {base : Heap} {g : Addr} {cdg : Value} {A : Around} {outer : List Env} {s : Shared} {H : Hp} {R C : Addr}
theorem ite_t {c : Prop} [Decidable c] {a b : Prop} (h : c) (x : a) : if c then a else b := by rw [if_pos h]; exact x
theorem ite_f {c : Prop} [Decidable c] {a b : Prop} (h : ¬ c) (x : b) : if c then a else b := by rw [if_neg h]; exact x
/-- the end of the suite: the told tuple -/
def keptEnd (v : V) (H : Hp) (Q : VK) : Prop := ∀ pf, H pf = none → ∀ pw, upd H pf (.lst [.bl true]) pw = none → ∀ pt, upd (upd H pf (.lst [.bl true])) pw (.lst [.str "teeth"]) pt = none →
  Q (.ref pt) (upd (upd (upd H pf (.lst [.bl true])) pw (.lst [.str "teeth"])) pt (.tup [.str "teeth", v]))
theorem kept_suite (e : Errs K mg R C) (a dd : Addr) (oe : Obj) (pn : List (Addr × Obj)) (hz : Zc (.ref C) (some dd) oe) (hf : ∃ vs, oe.data = .fields vs) :
    ∃ t, PSs ((kX P w K mg base g cdg A outer s H).suite a ((a, oe) :: pn)) suite0 t ∧ ∀ (D : Ends) (σ : L2.St) (H' : Hp) (v : V), σ.length = 5 → σ[1]? = some (some (.ref a)) → H' dd = some (.xd [("given", v)]) → keptEnd v H' D.rt → t D σ H' := by
  have nd : Nk.Nodup := sc_kept.nd
  refine ⟨_, pss_cons (ps_set (i := 2) nd rfl (Or.inl rfl) (pe_lst (pa_cons (pe_callB (call_isD e.ex hz hf) rfl e.gI (by decide +kernel) (pa_cons (pv 1) (pa_cons (pe_glob (v := .ref C) rfl e.gC rfl) pa_nil))) pa_nil)))
    (pss_cons (ps_set (i := 3) nd rfl (Or.inl rfl) (pe_lst (pa_cons pe_str pa_nil)))
    (pss_cons (ps_set (i := 4) nd rfl (Or.inl rfl) (pe_ifExp
      (PW.pt (pw_and (pt_cmp (pc_eqI (pe_bm PySem.F.plainAttrs_list PySem.F.slot_list_count PySem.F.type_list_count mt_countF (pv 2) (pa_cons pe_bl pa_nil)) pe_int)) (pw_and1 (pt_truth (pe_callB (call_isD e.ex hz hf) rfl e.gI (by decide +kernel) (pa_cons (pv 1) (pa_cons (pe_bltn (v := .ty "ValueError") rfl e.gV (by decide +kernel) rfl) pa_nil))) (by intro _; rfl)))))
      (pe_bm PySem.F.plainAttrs_list PySem.F.slot_list_index PySem.F.type_list_index mt_index (pv 2) (pa_cons pe_bl pa_nil)) (pe_op op_sub pe_int pe_int)))
    (pss_cons (ps_if (pt_cmp (pc_lt (pv 4) pe_int)) (pss_one (ps_ret (pe_tup (pa_cons pe_str (pa_cons pe_non pa_nil))))) pss_nil)
    (pss_one (ps_ret (pe_tup (pa_cons (pe_ix ix_seq (pv 3) (pv 4) (by intro _ _; rfl)) (pa_cons (pe_xf e.xf e.no hz hf (pv 1)) pa_nil)))))))), ?_⟩
  intro D σ H' v hl h1 hd hq
  match σ, hl, h1 with
  | [x0, x1, x2, x3, x4], _, h1 =>
  have h1 : x1 = some (.ref a) := by simpa using h1
  subst h1
  have one : ([V.bl true] : List V).length ≤ sizeLine := by rw [sizeLine_eq]; decide
  have one' : ([V.str "teeth"] : List V).length ≤ sizeLine := by rw [sizeLine_eq]; decide
  refine ⟨_, rfl, .ref C, .ref C, true, rfl, fun u r => r, e.is1, ⟨_, hd⟩, one, fun pf hpf => ?_⟩
  have n1 : dd ≠ pf := ne_of_none hd hpf
  have hd1 : upd H' pf (.lst [.bl true]) dd = some (.xd [("given", v)]) := by rw [upd_ne n1]; exact hd
  refine ⟨one', fun pw hpw => ?_⟩
  have n2 : dd ≠ pw := ne_of_none hd1 hpw
  have hd2 : upd (upd H' pf (.lst [.bl true])) pw (.lst [.str "teeth"]) dd = some (.xd [("given", v)]) := by rw [upd_ne n2]; exact hd1
  have hf1 : upd H' pf (.lst [.bl true]) pf = some (.lst [.bl true]) := upd_same
  have hf2 : upd (upd H' pf (.lst [.bl true])) pw (.lst [.str "teeth"]) pf = some (.lst [.bl true]) := by rw [upd_ne (ne_of_none hf1 hpw)]; exact hf1
  have hw2 : upd (upd H' pf (.lst [.bl true])) pw (.lst [.str "teeth"]) pw = some (.lst [.str "teeth"]) := upd_same
  refine ⟨_, rfl, .inl ⟨rfl, _, .of hf2⟩, pf, [.bl true], .bl true, rfl, rfl, .of hf2, rfl, rfl, _, _, rfl, rfl, _, rfl, ?_⟩
  refine ite_t (by decide) ?_
  refine ⟨_, rfl, .ty "ValueError", .type "ValueError", true, rfl, fun u r => r, e.is2, ⟨_, hd2⟩, true, rfl, ?_⟩
  refine ite_t (by decide) ?_
  refine ⟨_, rfl, .inl ⟨rfl, _, .of hf2⟩, pf, [.bl true], .bl true, 0, .bl true, rfl, rfl, .of hf2, rfl, rfl, rfl, rfl, fun m z' hm => absurd hm (Nat.not_lt_zero m), ?_⟩
  refine ⟨_, rfl, _, _, rfl, rfl, _, rfl, ?_⟩
  refine ite_f (by decide) ?_
  refine ⟨_, rfl, _, rfl, .inl ⟨pw, [.str "teeth"], 0, .str "teeth", rfl, rfl, .of hw2, rfl, ?_⟩⟩
  refine ⟨_, rfl, rfl, rfl, dd, _, v, rfl, hd2, rfl, (by rw [sizeLine_eq]; show 2 ≤ 16777216; decide), fun pt hpt => ?_⟩
  exact hq pf hpf pw hpw pt hpt
/-- what the suite wants of the exception at a -/
def tKeptS (C : Addr) (a : Addr) (cls : Value) (d : Option Addr) : TS := fun D σ H => ∃ (dd : Addr) (v : V) (σ0 : L2.St), cls = .ref C ∧ d = some dd ∧ H dd = some (.xd [("given", v)]) ∧ keptEnd v H D.rt ∧ σ = σ0.set 1 (some (.ref a))
theorem kept_suite2 (e : Errs K mg R C) (a : Addr) (oe : Obj) (cls : Value) (d : Option Addr) (pn : List (Addr × Obj)) (hz : Zc cls d oe) (hf : ∃ vs, oe.data = .fields vs) :
    PSs ((kX P w K mg base g cdg A outer s H).suite a ((a, oe) :: pn)) suite0 (tKeptS C a cls d) := by
  refine ⟨fun pins s1 σ H1 D I h => ?_⟩
  obtain ⟨dd, v, σ0, rfl, rfl, hd, hq, rfl⟩ := h
  obtain ⟨t, h1, h2⟩ := kept_suite (P := P) (w := w) (base := base) (g := g) (cdg := cdg) (outer := outer) (s := s) (H := H) e a dd oe pn hz hf
  have hl : (σ0.set 1 (some (V.ref a))).length = 5 := I.len
  refine h1.run pins s1 _ H1 D I (h2 D _ H1 v hl ?_ hd hq)
  rw [List.length_set] at hl
  rw [List.getElem?_set_self (by omega)]
end
/-- what is wanted of the lambda: it raises C with its given, which is told -/
def TKept (C : Addr) : (XK → Hp → VK → Prop) → Hp → VK → Prop := fun tl H Q => ∀ Z : VK, tl (fun cls d H' => ∃ (dd : Addr) (v : V), cls = .ref C ∧ d = some dd ∧ H' dd = some (.xd [("given", v)]) ∧ keptEnd v H' Q) H Z
theorem kept_gives {X : Cx} {R C g : Addr} {cdg : Value} {q : Str} (e : Errs X.K X.mg R C) : GivesTo X Nk "_law_kept" (defScope s_kept) g cdg (defBody s_kept) "act" q (TKept C) := by
  intro f c' s H Q tl act hc h
  refine ⟨_, pss_cons (ps_try_as (X := (cxOf C8.CX0 X.prog X.w X.K X.mg X.base Nk "_law_kept" (defScope s_kept) g cdg X.A X.stack s H C8.E0).nox) (c := .ref R) (i := 1) (Wout := fun _ _ _ _ => False) (ts := tKeptS C)
      (tb := fun W D σ H => ∃ Ech : XK, (∀ cls d σ' H', Ech cls d H' → W cls d σ' H') ∧ σ[0]? = some (some (.ref f)) ∧ H c' = some (CodeO c' q) ∧ tl Ech H (fun _ H' => D.nx σ H'))
      rfl rfl sc_kept.nd rfl rfl ⟨rfl, by decide, .inl e.gR⟩ LamX.takes0 (fun W pn xe tk _ => ?_) (fun a oe cls d pn hz hf => ?_)) (pss_one (ps_ret (pe_tup (pa_cons pe_str (pa_cons pe_non pa_nil))))), ?_⟩
  · refine ⟨fun pins s' σ H' D I h' => ?_⟩
    obtain ⟨Ech, hW, h1, h2, h3⟩ := h'
    exact (pss_one (ps_expr (act W pn xe Ech _ _ tk hW))).run pins s' σ H' D I ⟨h1, h2, h3⟩
  · exact kept_suite2 e a oe cls d pn hz hf
  · refine ⟨fun cls d H' => ∃ (dd : Addr) (v : V), cls = .ref C ∧ d = some dd ∧ H' dd = some (.xd [("given", v)]) ∧ keptEnd v H' Q, fun cls d σ' H' ⟨dd, v, h1, h2, h3, h4⟩ => ⟨true, by rw [h1]; exact e.ca, fun _ a ha => ⟨dd, v, σ', h1, h2, h3, h4, rfl⟩, fun z => by cases z⟩, rfl, hc, h _⟩
end Xc
/-! Xc4: what check_order and polynomial refuse; _law_kept of it -/
namespace Xc
open PySem PySem.Spec PyProof.Rows L2 LamX Sm
/-- the test of check_order says: refused -/
def Bad (w0 : W) (c : Ch) : Prop := ∃ c1, bNot (bTru (eCall 1 (alone r_is_order) (aCons (eVar 0) aNil))) [some w0] c = .ok true c1
/-- the class C is raised, keeping what was given -/
def spBad (K : PySem.W.Frag) (C : Addr) : Sp := fun vs H Q E => ∃ (ρ : List Addr) (w0 : W) (c : Ch) (v : V), RelH K ρ H c ∧ Rp K ρ H w0 v ∧ vs = [v] ∧ Bad w0 c ∧
  ∀ H1 ρ1, Post ρ H ρ1 H1 → ∀ d, H1 d = none → E (.ref C) (some d) (upd H1 d (.xd [("given", v)]))
structure Makes (P : Program) (K : PySem.W.Frag) (mg : Str → Option Value) (C : Addr) : Prop where
  ex : ∃ (fI : Addr) (fd : FuncData), XInit P K mg C fI "given" fd ∧ Binds K fd ["self", "given"] [] ∧ PySem.W.findIn K (.ref C) "__init__" = some (some (.ref fI)) ∧ PySem.W.typeIn K (.ref fI) = some (.type "function")
  T : OexC K C
  g : mg "InvalidTeeth" = some (.ref C)
section
variable {P : Program} {w : World} {K : PySem.W.Frag} {mg : Str → Option Value} {base : Heap} {C : Addr}
theorem heap_end {H1 : Hp} {a dx : Addr} {v : V} (ha : H1 a = none) (hd : H1 dx = none) (hne : dx ≠ a) :
    upd (del (upd (upd (upd H1 a (exo a C none)) dx (exd dx [(("given" : Str), v)])) a (exo a C (some dx))) a) dx (.xd [("given", v)]) = upd H1 dx (.xd [("given", v)]) := by
  funext b
  by_cases h1 : b = dx
  · rw [h1, upd_same, upd_same]
  · rw [upd_ne h1, upd_ne h1]
    by_cases h2 : b = a
    · rw [h2, del_same, ha]
    · rw [del_ne h2, upd_ne h2, upd_ne h1, upd_ne h2]
theorem check_bad {f : Addr} {fd : FuncData} (M : Makes P K mg C) (F : FnP K "check_order" s_check_order f fd) (h_is_order : Has P w K mg base 3 "is_order" 1 r_is_order) : FnOk P w K mg base (L2.CX P w) 4 f fd ["order"] (spBad K C) := by
  obtain ⟨fI, fdI, G, hb, iC, tI⟩ := M.ex
  refine F.ok sc_check_order (fun vs H Q E ⟨_, _, _, _, _, _, e, _⟩ => by rw [e]; rfl) fun cdv A outer s H vs Q E hr h => ?_
  obtain ⟨ρ, w0, c, v, r1, r2, rfl, ⟨c1, hbad⟩, hE⟩ := h
  have tk : Takes (cxOf (L2.CX P w) P w K mg base ["order"] "check_order" (defScope s_check_order) f cdv A outer s H E) (fun cls d _ H => E cls d H) := takes_of rfl rfl rfl rfl
  refine ⟨_, pss_one (ps_if (u_not (u_tru (q_call h_is_order.alone (hr.mono (by first | exact Nat.le_refl _ | omega)) (a_cons (q_v 0) a_nil)))) (pss_one (ps_raise rfl tk (pmk_oex M.T iC tI (G.ok (CX := CX0)) (hr.mono (by omega)) hb .nil pass0 rfl M.g (pa_cons (pv 0) pa_nil)))) pss_nil), ρ, [some w0], c, r1, .cons r2 .nil, ?_⟩
  rw [hbad]
  intro b H1 ρ1 po r3 eb
  have eb : true = b := eb
  subst eb
  refine ite_t rfl ⟨v, rfl, (by show 1 ≤ 1000; decide), fun a ha => ⟨a, v, rfl, upd_same, fun dx hdx hne => ⟨rfl, dx, [("given", v)], upd_same, ?_, ?_, ?_⟩⟩⟩
  · rw [upd_ne hne, upd_same]
  · rwa [upd_ne hne] at hdx
  · rw [upd_ne hne] at hdx
    rw [heap_end ha hdx hne]
    exact hE H1 ρ1 po dx hdx
theorem pss_no {X : Cx} {ss : List Stmt} : PSs X ss (fun _ _ _ => False) := ⟨fun _ _ _ _ _ _ h => h.elim⟩
theorem poly_bad {f f2 : Addr} {fd fd2 : FuncData} (F : FnP K "polynomial" s_polynomial f fd) (F2 : FnP K "check_order" s_check_order f2 fd2) (hm2 : mg "check_order" = some (.ref f2)) (G2 : FnOk P w K mg base (L2.CX P w) 4 f2 fd2 ["order"] (spBad K C)) :
    FnOk P w K mg base (L2.CX P w) 5 f fd ["order"] (spBad K C) := by
  refine F.ok sc_polynomial (fun vs H Q E ⟨_, _, _, _, _, _, e, _⟩ => by rw [e]; rfl) fun cdv A outer s H vs Q E hr h => ?_
  have tk : Takes (cxOf (L2.CX P w) P w K mg base ["order"] "polynomial" (defScope s_polynomial) f cdv A outer s H E) (fun cls d _ H => E cls d H) := takes_of rfl rfl rfl rfl
  have hv : ∃ v, vs = [v] := by
    obtain ⟨_, _, _, v, _, _, e, _⟩ := h
    exact ⟨v, e⟩
  obtain ⟨v, rfl⟩ := hv
  refine ⟨_, pss_cons (ps_expr (pe_call G2 hr rfl hm2 F2.kp (F2.bindsN (fun _ _ _ _ _ _ us hl => match us, hl with | [_], _ => rfl)) .nil (passes_call tk fun _ _ _ _ h => h) (pa_cons (pv 0) pa_nil))) pss_no, v, rfl, ?_⟩
  exact h
end
end Xc
/-! Xc5: _law_kept(lambda: ..) -/
namespace Xc
open PySem PySem.Spec PyProof.Rows L2 LamX Sm
section
variable {K : PySem.W.Frag} {ρ : List Addr} {H H' : Hp}
theorem sqT_ext (e : ExtN H H') {a : Addr} {vs : List V} (h : SqT K H a vs) : SqT K H' a vs := by
  rcases h with (h | ⟨o, h⟩) | h
  · exact .inl (.inl (e _ _ h fun ps z => by cases z))
  · exact .inl (.inr ⟨o, e _ _ h fun ps z => by cases z⟩)
  · exact .inr h
mutual
theorem rp_ext (e : ExtN H H') : ∀ {w : W} {v : V}, Rp K ρ H w v → Rp K ρ H' w v
  | _, _, .non => .non
  | _, _, .bl b => .bl b
  | _, _, .int i => .int i
  | _, _, .str x => .str x
  | _, _, .tup s l => .tup (sqT_ext e s) (rpL_ext e l)
  | _, _, .ref h => .ref h
  | _, _, .emp h => .emp (e _ _ h fun ps z => by cases z)
  | _, _, .mt h n => .mt (e _ _ h fun ps z => by cases z) n
  | _, _, .frz h => .frz (by
    rcases h with h | ⟨o, h⟩ | h
    · exact .inl ⟨e _ _ h.1 fun ps z => (by cases z), h.2⟩
    · exact .inr (.inl ⟨o, e _ _ h fun ps z => by cases z⟩)
    · exact .inr (.inr h))
theorem rpL_ext (e : ExtN H H') : ∀ {ws : List W} {vs : List V}, RpL K ρ H ws vs → RpL K ρ H' ws vs
  | _, _, .nil => .nil
  | _, _, .cons h t => .cons (rp_ext e h) (rpL_ext e t)
end
theorem nil_rel : RelH K [] H Ch.nil := ⟨rfl, List.nodup_nil, fun a ha => absurd ha List.not_mem_nil, fun n ws e => by cases e⟩
end
/-- the lambda's body: the class C is raised of the value in slot i -/
def tBadL (K : PySem.W.Frag) (C : Addr) (i : Nat) : XK → TE := fun E σ H Q => ∃ v, σ[i]? = some (some v) ∧ spBad K C [v] H Q E
/-- _law_kept of that -/
def tKeptC (T : List (Addr × Str)) (K : PySem.W.Frag) (i : Nat) : TE := fun σ H Q => Tabs T H ∧ ∃ (w0 : W) (v : V), σ[i]? = some (some v) ∧ Rp K [] H w0 v ∧ Bad w0 Ch.nil ∧
  ∀ H' pt, ExtN H H' → Tabs T H' → H' pt = some (.tup [.str "teeth", v]) → Q (.ref pt) H'
theorem kept_of {T : List (Addr × Str)} {K : PySem.W.Frag} {C : Addr} {i : Nat} {σ : L2.St} {H : Hp} {Q : VK} (h : tKeptC T K i σ H Q) : tLam T (TKept C) (tBadL K C i) σ H Q := by
  obtain ⟨tb, w0, v, h1, rp, hb, hq⟩ := h
  refine ⟨tb, fun H1 eN T1 Z => ⟨v, h1, [], w0, Ch.nil, v, nil_rel, rp_ext eN rp, rfl, hb, fun H2 ρ2 po d hd => ⟨d, v, rfl, rfl, upd_same, fun pf hpf pw hpw pt hpt => ?_⟩⟩⟩
  have e5 : ∀ b o, H1 b = some o → upd (upd (upd (upd H2 d (.xd [("given", v)])) pf (.lst [.bl true])) pw (.lst [.str "teeth"])) pt (.tup [.str "teeth", v]) b = some o := fun b o e => by
    have e2 : H2 b = some o := po.keep b o e (by simp)
    have e3 : upd H2 d (.xd [("given", v)]) b = some o := by rw [upd_ne (ne_of_none e2 hd)]; exact e2
    have e4 : upd (upd H2 d (.xd [("given", v)])) pf (.lst [.bl true]) b = some o := by rw [upd_ne (ne_of_none e3 hpf)]; exact e3
    have e5 : upd (upd (upd H2 d (.xd [("given", v)])) pf (.lst [.bl true])) pw (.lst [.str "teeth"]) b = some o := by rw [upd_ne (ne_of_none e4 hpw)]; exact e4
    rw [upd_ne (ne_of_none e5 hpt)]
    exact e5
  exact hq _ pt (eN.trans (ExtN.of e5)) (T1.ext e5) upd_same
section
variable {X : Cx} {T : List (Addr × Str)} {R C : Addr}
theorem pe_kept {g c Pt : Addr} {fd : FuncData} {i k : Nat} {params : Arguments} {body : Expr} {scope : Scope} {p lpos pos : Pos} (e : Errs X.K X.mg R C) (F : FnP X.K "_law_kept" s_kept g fd) (hm : X.mg "_law_kept" = some (.ref g))
    (TB : TabB X.base X.mg c Pt) (hcode : X.env.code = .ref c) (hmT : (Pt, X.env.qual ++ "<lambda>") ∈ T) (hu : ∀ p ∈ T, p.1 = Pt → p.2 = X.env.qual ++ "<lambda>") (hr : Room (k + 2) X.A) (L : LamS X.env.scope scope)
    (hbody : ∀ (A : Around) (outer : List Env) (s : Shared) (H : Hp) (E : XK) (f c' : Addr), Room k (A.deeper (lamEnv X scope s.heap.objs.size f c')) → PE (lamCx X A outer s H E scope f c') body (tBadL X.K C i E))
    (hbind : ∀ (q : Str) (cl : List (Str × Addr)) (pm cv ctv : Value), bindArgs (PySem.W.kla_fn "<lambda>" q params body scope cl pm cv ctv) ⟨[], []⟩ = pure [] := by intro _ _ _ _ _; rfl) (hdef : defaultsOf params X.env = ([], []) := by rfl) (hg : Gl X "_law_kept" := by rfl) :
    PE X (.Call (.Name "_law_kept" p) [.Lambda params body scope lpos] [] pos) (tKeptC T X.K i) := by
  have F0 := F
  obtain ⟨oc, od, dV, kV, doc, pm, an, cdv, ct, osl, rfl, lk, hcd, hD, hK⟩ := F.ex
  exact pe_imp (pe_lamcall hg hm F0.kp lk hcd (F0.bindsN (fun _ _ _ _ _ _ us hl => match us, hl with | [_], _ => rfl)) sc_kept rfl (Or.inl rfl) (kept_gives e) TB hcode hmT hu hr L hdef hbind hbody) fun σ H Q h => kept_of h
end
section
variable {X : Cx} {CX : CXT} {k : Nat} {f : Addr} {fd : FuncData} {ps ks : List Str} {sp : Sp} {E : XK} {x : Str} {p pos : Pos} {kws : List Keyword} {tk : TA}
/-- x(k = v, ..), nothing by position -/
theorem pe_callK0 (F : FnOk X.prog X.w X.K X.mg X.base CX k f fd ps sp) (hr : Room k X.A) (hg : Gl X x) (hm : X.mg x = some (.ref f)) (hk : PySem.W.keepIn X.K (.ref f) = true) (hb : KBinds X.K fd ps ks gK gK) (hx : Passes CX X E)
    (hkw : PK X kws tk) (hall : (backToKw pos (keywordEach kws X.env)).all (·.1.isSome) = true := by rfl) (hks : (backToKw pos (keywordEach kws X.env)).filterMap (·.1) = ks := by rfl)
    (hdb : (x == ("__debug__" : Str)) = false := by decide) (hpl : ((backTo pos (starEach [] X.env)).any (·.1) || (backToKw pos (keywordEach kws X.env)).any (·.1.isNone)) = false := by rfl) :
    PE X (.Call (.Name x p) [] kws pos) (fun σ H Q => tk σ H fun zs H1 => sp zs H1 Q E) := by
  refine ⟨fun pins s σ H Q I h => ?_⟩
  refine wpAny_Call_Name_kw (ld_glob I hg hm ?_ hdb)
  refine PySem.W.callWith_KW0 (h₀ := X.base) I.ok.mod.kin hk hall (thn (hkw.run pos pins s σ H _ I h) fun us s2 ⟨zs, H2, I2, rz, q2⟩ => ⟨I2.kIn, ?_⟩) hpl
  rw [hks]
  exact run_fnk (us := []) (vs := []) F hr hb hx I2 .nil rz q2
end
theorem kbinds_of {K : PySem.W.Frag} {x : Str} {params : Arguments} {body : List Stmt} {scope : Scope} {f : Addr} {fd : FuncData} {ks : List Str} (F : FunD K x x params body scope [] [] f fd) (hn : ks ≠ [])
    (hb : ∀ (kV doc pm : Value) (an : Option Addr) (cdv ct : Value) (ws : List Value), ws.length = ks.length → bindArgs (PySem.W.fnOf x x params body scope .none kV doc pm an cdv ct) ⟨[], ks.zip ws⟩ = pure (ks.zip ws)) : KBinds K fd ks ks gK gK := by
  refine ⟨fun s us ws _ hl => ?_, gK_rel⟩
  cases us with
  | cons u us => exact absurd (List.length_eq_zero_iff.mp hl.symm) hn
  | nil =>
    obtain ⟨oc, od, dV, kV, doc, pm, an, cdv, ct, osl, rfl, lk, hcd, hD, hK⟩ := F.ex
    rcases hD with ⟨_, rfl⟩ | ⟨e, _⟩
    · exact .of_eq (hb kV doc pm an cdv ct ws hl)
    · exact absurd rfl e
end Xc
/-! Xc6: two blocks, one behind another -/
namespace Xc
open PySem PySem.Spec PyProof.Rows L2 LamX Sm
section
variable {M : Model} {A : Around} {E : Value → Shared → Prop} {env : Env} {Q : Flow → Shared → Prop} {bs : List Stmt}
theorem execs_app : ∀ (as : List Stmt) (s : Shared), wpAny M A (execs as env) (fun f s' => match f with | .next => wpAny M A (execs bs env) Q E s' | f => Q f s') E s → wpAny M A (execs (as ++ bs) env) Q E s := by
  intro as s h Γ p hΓ
  replace h := h Γ p hΓ
  induction as generalizing s p with
  | nil =>
    have h : wpAny M A (execs bs env) Q E s := by simpa [execs, Sem.wp_pure'] using h
    exact h Γ p hΓ
  | cons a as ih =>
    show Sem.wp M Γ (execs (a :: (as ++ bs)) env) _ _ p s
    rw [execs_cons, Sem.wp_bind'] at h ⊢
    refine Sem.wp_mono M Γ _ (fun f p' s' h' => ?_) (fun _ _ _ h' => h') _ _ h
    cases f with
    | next => exact ih s' p' h'
    | ret v => simpa [Sem.wp_pure'] using h'
    | brk => simpa [Sem.wp_pure'] using h'
    | cont => simpa [Sem.wp_pure'] using h'
end
theorem pss_app {X : Cx} {as bs : List Stmt} {t u : TS} (h1 : PSs X as t) (h2 : PSs X bs u) : PSs X (as ++ bs) (tSeq t u) := by
  refine ⟨fun pins s σ H D I h => execs_app as s (thn (h1.run pins s σ H { D with nx := u D } I h) fun f s1 q => ?_)⟩
  cases f with
  | next =>
    obtain ⟨σ', H', I', q⟩ := q
    exact h2.run pins s1 σ' H' D I' q
  | ret v => exact q
  | brk => exact q
  | cont => exact q
end Xc
namespace Sm
open PySem PySem.Spec PyProof.Rows L2 Xc
/-! the refused things -/
abbrev menu10 : List W := [.non, .int 0, .int 121, .int (0 - 1), .bl true, .str "1", .tup [.int 1], .mt, .emp, .int (10 ^ (30 : Int).toNat)]
abbrev told2 (w : W) : W := .tup [.tup [.str "teeth", w], .tup [.str "teeth", w]]
abbrev sl0 (w t : Option W) : Sl := [some (.ref 0), none, none, none, none, none, none, none, none, none, none, none, none, w, t]
theorem q2_ok (far stir : Int) (n1 : 0 ≤ far) (n2 : 0 ≤ stir) : ∃ (w : W) (far' stir' : Int), w ∈ menu10 ∧ 0 ≤ far' ∧ 0 ≤ stir' ∧ q2 (sl0 none none) (c0 far stir) = .nx (sl0 (some w) none) (c0 far' stir') := by
  obtain ⟨d, w, far', stir', hw, m1, m2, h4⟩ := of_ok far stir menu10 n1 n2 rfl rfl
  refine ⟨w, far', stir', List.mem_of_getElem? hw, m1, m2, ?_⟩
  exact r_set (r_call (r_cons rfl (r_one rfl)) rfl h4)
structure BadW (w : W) : Prop where
  bad : Bad w Ch.nil
  fl : flatA 9 w = true
  q : ∀ c : Ch, q3 (sl0 (some w) (some (told2 w))) c = .nx (sl0 (some w) (some (told2 w))) c
theorem bad_ok (w : W) (h : w ∈ menu10) : BadW w := by
  simp only [List.mem_cons, List.not_mem_nil, or_false] at h
  rcases h with rfl | rfl | rfl | rfl | rfl | rfl | rfl | rfl | rfl | rfl
  · exact ⟨⟨Ch.nil, by kernel_rfl⟩, by kernel_rfl, by intro c; kernel_rfl⟩
  · exact ⟨⟨Ch.nil, by kernel_rfl⟩, by kernel_rfl, by intro c; kernel_rfl⟩
  · exact ⟨⟨Ch.nil, by kernel_rfl⟩, by kernel_rfl, by intro c; kernel_rfl⟩
  · exact ⟨⟨Ch.nil, by kernel_rfl⟩, by kernel_rfl, by intro c; kernel_rfl⟩
  · exact ⟨⟨Ch.nil, by kernel_rfl⟩, by kernel_rfl, by intro c; kernel_rfl⟩
  · exact ⟨⟨Ch.nil, by kernel_rfl⟩, by kernel_rfl, by intro c; kernel_rfl⟩
  · exact ⟨⟨Ch.nil, by kernel_rfl⟩, by kernel_rfl, by intro c; kernel_rfl⟩
  · exact ⟨⟨Ch.nil, by kernel_rfl⟩, by kernel_rfl, by intro c; kernel_rfl⟩
  · exact ⟨⟨Ch.nil, by kernel_rfl⟩, by kernel_rfl, by intro c; kernel_rfl⟩
  · exact ⟨⟨Ch.nil, by kernel_rfl⟩, by kernel_rfl, by intro c; kernel_rfl⟩
theorem q4_ok (far stir : Int) : q4 (sl0 none none) (c0 far stir) = .rt (.bl true) ((c0 far stir).set 0 [.int far, .int stir]) := by
  have h := t5 none none none none none none none none none none none none none none far stir
  have e : ∃ c', p_q4_1 (sl0 none none) (c0 far stir) = .rt (.bl true) c' ∧ c'.get 0 = some [.int far, .int stir] := by
    cases r : p_q4_1 (sl0 none none) (c0 far stir) with
    | rt w c' =>
      rw [r] at h
      have h : some (w, c'.get 0) = some (W.bl true, some [W.int far, W.int stir]) := h
      obtain ⟨h1, h2⟩ := Prod.mk.inj (Option.some.inj h)
      exact ⟨c', by rw [h1], h2⟩
    | _ => rw [r] at h; cases h
  obtain ⟨c', e1, e2⟩ := e
  have hk : (keepF (sl0 none none)).set 0 (some (.ref 0)) = sl0 none none := rfl
  show subEnd 0 (c0 far stir) (p_q4_1 ((keepF (sl0 none none)).set 0 (some (.ref 0))) (Ch.nil.push [.int far, .int stir])) = _
  rw [hk, e1]
  unfold subEnd
  dsimp only
  rw [e2]
  rfl
end Sm
/-! Xc7: _law_right keeps its promise -/
namespace Xc
open PySem PySem.Spec PyProof.Rows L2 LamX Sm
/-- all but the bowl and the tables stay -/
def ExtA (a : Addr) (H H' : Hp) : Prop := ∀ b o, H b = some o → b ≠ a → (∀ ps, o ≠ .tbl ps) → H' b = some o
def spRight (T : List (Addr × Str)) : Sp := fun vs H Q _ => ∃ (a : Addr) (far stir : Int), vs = [.ref a] ∧ H a = some (.lst [.int far, .int stir]) ∧ 0 ≤ far ∧ 0 ≤ stir ∧ Tabs T H ∧
  ∀ H' f' s', ExtA a H H' → H' a = some (.lst [.int f', .int s']) → Tabs T H' → Q (.bl true) H'
/-- what is true of the state between the parts -/
structure J (T : List (Addr × Str)) (a : Addr) (H0 : Hp) (σ : L2.St) (H : Hp) : Prop where
  len : σ.length = 15
  at0 : σ[0]? = some (some (.ref a))
  bowl : ∃ far stir : Int, H a = some (.lst [.int far, .int stir]) ∧ 0 ≤ far ∧ 0 ≤ stir
  tabs : Tabs T H
  ext : ExtA a H0 H
section
variable {K : PySem.W.Frag} {T : List (Addr × Str)} {a : Addr} {H H' H0 : Hp} {σ : L2.St}
theorem tabs_post {ρ' : List Addr} {vs : List V} (t : Tabs T H) (ha : H a = some (.lst vs)) (p : Post [a] H ρ' H') : Tabs T H' := by
  have k : ∀ b o, H b = some o → b ≠ a → H' b = some o := fun b o e n => p.keep b o e fun z => n (List.mem_singleton.mp z)
  intro q hq
  obtain ⟨ps, h1, h2, h3⟩ := t q hq
  refine ⟨ps, k _ _ h1 (fun z => by rw [z, ha] at h1; cases h1), h2, fun pos cv hc => ?_⟩
  obtain ⟨c, e1, e2⟩ := h3 pos cv hc
  exact ⟨c, e1, k _ _ e2 fun z => by
    rw [z, ha] at e2
    have z2 : HO.lst vs = CodeO a q.2 := Option.some.inj e2
    unfold CodeO at z2
    cases z2⟩
theorem ext_post {ρ' : List Addr} (e : ExtA a H0 H) (p : Post [a] H ρ' H') : ExtA a H0 H' := fun b o h n m => p.keep b o (e b o h n m) fun z => n (List.mem_singleton.mp z)
theorem relS_sl0 (hl : σ.length = 15) (h0 : σ[0]? = some (some (.ref a))) : RelS K [a] H (sl0 none none) σ := by
  match σ, hl, h0 with
  | [x, _, _, _, _, _, _, _, _, _, _, _, _, _, _], _, h0 =>
    have h0 : x = some (.ref a) := by simpa using h0
    subst h0
    exact .cons (.ref rfl) (.free (.free (.free (.free (.free (.free (.free (.free (.free (.free (.free (.free (.free (.free .nil))))))))))))))
theorem rel_bowl {far stir : Int} (h : H a = some (.lst [.int far, .int stir])) : RelH K [a] H (c0 far stir) :=
  one_rel (ρ := [a]) (vs := [.int far, .int stir]) rfl h (.cons (.int far) (.cons (.int stir) .nil))
theorem relS_len : ∀ {ω : Sl} {σ : L2.St} {ρ : List Addr}, RelS K ρ H ω σ → σ.length = ω.length
  | _, _, _, .nil => rfl
  | _, _, _, .free t => congrArg (· + 1) (relS_len t)
  | _, _, _, .cons _ t => congrArg (· + 1) (relS_len t)
theorem relS_sl2 {w t : W} {v u : V} (hl : σ.length = 15) (h0 : σ[0]? = some (some (.ref a))) (h1 : σ[13]? = some (some v)) (h2 : σ[14]? = some (some u)) (r1 : Rp K [a] H w v) (r2 : Rp K [a] H t u) : RelS K [a] H (sl0 (some w) (some t)) σ := by
  match σ, hl, h0, h1, h2 with
  | [x, _, _, _, _, _, _, _, _, _, _, _, _, y, z], _, h0, h1, h2 =>
    have e0 : x = some (.ref a) := by simpa using h0
    have e1 : y = some v := by simpa using h1
    have e2 : z = some u := by simpa using h2
    subst e0 e1 e2
    exact .cons (.ref rfl) (.free (.free (.free (.free (.free (.free (.free (.free (.free (.free (.free (.free (.cons r1 (.cons r2 .nil))))))))))))))
/-- behind a run from the bowl -/
theorem J_after {ρ' : List Addr} {ω' : Sl} {c' : Ch} {σ' : L2.St} {far stir f' s' : Int} (j : J T a H0 σ H) (hb : H a = some (.lst [.int far, .int stir])) (po : Post [a] H ρ' H') (hr : RelH K ρ' H' c') (hs : RelS K ρ' H' ω' σ') (l : ω'.length = 15) (z : ω'[0]? = some (some (.ref 0)))
    (g : c'.get 0 = some [.int f', .int s']) (n1 : 0 ≤ f') (n2 : 0 ≤ s') : J T a H0 σ' H' := by
  have e0 : ρ'[0]? = some a := po.get (n := 0) rfl
  obtain ⟨v, ev, rv⟩ := hs.get z
  obtain ⟨b, vs, h1, h2, h3, h4⟩ := hr.lst rv g
  rw [e0] at h2
  cases h2
  refine ⟨(relS_len hs).trans l, by rw [ev, h1], ⟨f', s', ?_, n1, n2⟩, tabs_post j.tabs hb po, ext_post j.ext po⟩
  cases h4 with
  | cons q1 q2 =>
    cases q1
    cases q2 with
    | cons q1 q2 =>
      cases q1
      cases q2
      exact h3
end
section
variable {P : Program} {w : World} {K : PySem.W.Frag} {mg : Str → Option Value} {base : Heap} {T : List (Addr × Str)} {R C : Addr}
/-- what the callees of _law_right keep -/
structure Hyps (P : Program) (w : World) (K : PySem.W.Frag) (mg : Str → Option Value) (base : Heap) (R C : Addr) : Prop where
  B : Bs mg
  hdeg : Has P w K mg base 2 "_law_degree" 1 r__law_degree
  hdraw : Has P w K mg base 1 "_law_draw" 2 r__law_draw
  hof : Has P w K mg base 2 "_law_of" 2 r__law_of
  hlp : Has P w K mg base 2 "_law_polynomial" 1 r__law_polynomial
  hprod : Has P w K mg base 1 "_law_product" 2 r__law_product
  hsame : Has P w K mg base 6 "_law_same" 2 (r__law_same 5)
  hpol : Has P w K mg base 5 "polynomial" 1 r_polynomial
  hkpol : HasK P w K mg base 5 "polynomial" ["order"] r_polynomial
  E : Errs K mg R C
  pol : ∃ (f : Addr) (fd : FuncData), FnP K "polynomial" s_polynomial f fd ∧ mg "polynomial" = some (.ref f) ∧ FnOk P w K mg base (L2.CX P w) 5 f fd ["order"] (spBad K C)
  kept : ∃ (g : Addr) (fd : FuncData), FnP K "_law_kept" s_kept g fd ∧ mg "_law_kept" = some (.ref g)
theorem loop_ok {f c Pt : Addr} {A : Around} {outer : List Env} {s : Shared} {H0 : Hp} {E : XK} (h : Hyps P w K mg base R C) (TB : TabB base mg c Pt) (hmT : (Pt, ("_law_right.<locals>.<lambda>" : Str)) ∈ T) (hu : ∀ p ∈ T, p.1 = Pt → p.2 = ("_law_right.<locals>.<lambda>" : Str))
    (hr : Room 8 (rX P w K mg base f (.ref c) A outer s H0 E).A) :
    ∃ t, PSs (rX P w K mg base f (.ref c) A outer s H0 E) lb_right t ∧ ∀ (D : Ends) (σ : L2.St) (H : Hp) (a : Addr) (H1 : Hp), J T a H1 σ H → (∀ σ' H', J T a H1 σ' H' → D.nx σ' H') → t D σ H := by
  obtain ⟨fp, fdp, Fp, hmp, Gp⟩ := h.pol
  obtain ⟨fk, fdk, Fk, hmk⟩ := h.kept
  have hb1 := Fp.bindsN (ps := ["order"]) (fun _ _ _ _ _ _ us hl => match us, hl with | [_], _ => rfl)
  have hb2 : KBinds K fdp ["order"] ["order"] gK gK := kbinds_of Fp (by decide) (fun _ _ _ _ _ _ us hl => match us, hl with | [_], _ => rfl)
  have S1 := ok_q1 (f := f) (cdv := .ref c) (A := A) (outer := outer) (s := s) (H := H0) (E := E) h.B h.hdeg h.hdraw h.hof h.hlp h.hprod h.hsame h.hpol h.hkpol hr
  have S2 := ok_q2 (f := f) (cdv := .ref c) (A := A) (outer := outer) (s := s) (H := H0) (E := E) h.B h.hof hr
  have S3 := ok_q3 (f := f) (cdv := .ref c) (A := A) (outer := outer) (s := s) (H := H0) (E := E) h.B h.hsame hr
  have nd : N_right.Nodup := sc__law_right.nd
  refine ⟨_, pss_app (as := lb_right.take 11) (bs := lb_right.drop 11) S1 (pss_app (as := [lb_right.getD 11 (.Pass ⟨0, 0, 0, 0⟩)]) (bs := lb_right.drop 12) S2
    (pss_cons (ps_set (i := 14) nd rfl (Or.inl rfl) (pe_tup (pa_cons (pe_kept (i := 13) (k := 5) h.E Fk hmk TB rfl hmT hu (hr.mono (by omega)) (lamS_by (by kernel_rfl))
        (fun A outer s H E f c' hr' => pe_imp (pe_call Gp hr' rfl hmp Fp.kp hb1 .nil (passes_call (takes_of rfl rfl rfl rfl) (fun _ _ _ _ h => h)) (pa_cons (pv 13) pa_nil)) (fun σ H Q h => h))) pa_nil)))
    (pss_cons (ps_set (i := 14) nd rfl (Or.inl rfl) (pe_op op_catA (pv 14) (pe_tup (pa_cons (pe_kept (i := 13) (k := 5) h.E Fk hmk TB rfl hmT hu (hr.mono (by omega)) (lamS_by (by kernel_rfl))
        (fun A outer s H E f c' hr' => pe_imp (pe_callK0 Gp hr' rfl hmp Fp.kp hb2 (passes_call (takes_of rfl rfl rfl rfl) (fun _ _ _ _ h => h)) (pk_cons (pv 13) pk_nil)) (fun σ H Q h => h))) pa_nil))))
      S3))), ?_⟩
  intro D σ H a H1 j hD
  obtain ⟨far, stir, hb, n1, n2⟩ := j.bowl
  obtain ⟨ω', c', f', s', e1, l1, z1, g1, m1, m2⟩ := q1_ok (sl0 none none) far stir rfl rfl n1 n2
  refine ⟨[a], sl0 none none, c0 far stir, rel_bowl hb, relS_sl0 j.len j.at0, ?_⟩
  rw [e1]
  intro σ1 H2 ρ1 po1 hr1 hs1
  have j1 : J T a H1 σ1 H2 := J_after j hb po1 hr1 hs1 l1 z1 g1 m1 m2
  clear j hb n1 n2 e1 l1 z1 g1 m1 m2 po1 hr1 hs1
  obtain ⟨far, stir, hb, n1, n2⟩ := j1.bowl
  obtain ⟨w0, f2, s2, hw, m1, m2, e2⟩ := q2_ok far stir n1 n2
  refine ⟨[a], sl0 none none, c0 far stir, rel_bowl hb, relS_sl0 j1.len j1.at0, ?_⟩
  rw [e2]
  intro σ2 H3 ρ2 po2 hr2 hs2
  have j2 : J T a H1 σ2 H3 := J_after j1 hb po2 hr2 hs2 rfl rfl rfl m1 m2
  have bw := bad_ok w0 hw
  obtain ⟨v, ev, rv⟩ := hs2.get (i := 13) (w := w0) rfl
  have rv1 : Rp K [a] H3 w0 v := flatA_rp (fun x hx => by rw [List.mem_singleton.mp hx]; exact List.mem_of_getElem? (po2.get (n := 0) rfl)) 9 w0 v bw.fl rv
  have rv0 : Rp K [] H3 w0 v := flatA_rp (fun x hx => absurd hx List.not_mem_nil) 9 w0 v bw.fl rv
  have one : ∀ x : V, ([x] : List V).length ≤ sizeLine := fun x => by rw [sizeLine_eq]; show 1 ≤ 16777216; decide
  refine ⟨j2.tabs, w0, v, ev, rv0, bw.bad, fun H4 pt eN4 T4 hpt => ⟨one _, fun p hp => ?_⟩⟩
  have k5 : ∀ b o, H4 b = some o → upd H4 p (.tup [.ref pt]) b = some o := fun b o e => by rw [upd_ne (ne_of_none e hp)]; exact e
  have eN5 : ExtN H3 (upd H4 p (.tup [.ref pt])) := eN4.trans (ExtN.of k5)
  have l3 : (σ2.set 14 (some (.ref p))).length = 15 := by rw [List.length_set, j2.len]
  refine ⟨.ref p, List.getElem?_set_self (by rw [j2.len]; decide), T4.ext k5, w0, v, by rw [List.getElem?_set_ne (by decide)]; exact ev, rp_ext eN5 rv0, bw.bad, fun H6 pt2 eN6 T6 hpt2 => ⟨one _, fun p2 hp2 => ?_⟩⟩
  have k7 : ∀ b o, H6 b = some o → upd H6 p2 (.tup [.ref pt2]) b = some o := fun b o e => by rw [upd_ne (ne_of_none e hp2)]; exact e
  have hp7 : upd H6 p2 (.tup [.ref pt2]) p = some (.tup [.ref pt]) := k7 _ _ (eN6 _ _ upd_same fun ps z => by cases z)
  refine ⟨p, p2, [.ref pt], [.ref pt2], rfl, rfl, .of hp7, .of upd_same, by rw [sizeLine_eq]; show 2 ≤ 16777216; decide, fun z => (by cases z), fun _ z => (by cases z), fun _ _ p3 hp3 => ?_⟩
  have k8 : ∀ b o, upd H6 p2 (.tup [.ref pt2]) b = some o → upd (upd H6 p2 (.tup [.ref pt2])) p3 (.tup ([.ref pt] ++ [.ref pt2])) b = some o := fun b o e => by rw [upd_ne (ne_of_none e hp3)]; exact e
  have eN8 : ExtN H3 (upd (upd H6 p2 (.tup [.ref pt2])) p3 (.tup ([.ref pt] ++ [.ref pt2]))) := (eN5.trans eN6).trans ((ExtN.of k7).trans (ExtN.of k8))
  have T8 : Tabs T (upd (upd H6 p2 (.tup [.ref pt2])) p3 (.tup ([.ref pt] ++ [.ref pt2]))) := (T6.ext k7).ext k8
  have hpt8 : upd (upd H6 p2 (.tup [.ref pt2])) p3 (.tup ([.ref pt] ++ [.ref pt2])) pt = some (.tup [.str "teeth", v]) := k8 _ _ (k7 _ _ (eN6 _ _ (k5 _ _ hpt) fun ps z => by cases z))
  have hpt28 : upd (upd H6 p2 (.tup [.ref pt2])) p3 (.tup ([.ref pt] ++ [.ref pt2])) pt2 = some (.tup [.str "teeth", v]) := k8 _ _ (k7 _ _ hpt2)
  obtain ⟨far3, stir3, hb3, n3, n4⟩ := j2.bowl
  have hb8 := eN8 a _ hb3 (fun ps z => by cases z)
  have rv8 := rp_ext eN8 rv1
  have j8 : J T a H1 ((σ2.set 14 (some (.ref p))).set 14 (some (.ref p3))) (upd (upd H6 p2 (.tup [.ref pt2])) p3 (.tup ([.ref pt] ++ [.ref pt2]))) :=
    ⟨by rw [List.length_set, l3], by rw [List.getElem?_set_ne (by decide), List.getElem?_set_ne (by decide)]; exact j2.at0, ⟨far3, stir3, hb8, n3, n4⟩, T8, fun b o e n m => eN8 b o (j2.ext b o e n m) m⟩
  refine ⟨[a], sl0 (some w0) (some (told2 w0)), c0 far3 stir3, rel_bowl hb8, relS_sl2 j8.len j8.at0 (by rw [List.getElem?_set_ne (by decide), List.getElem?_set_ne (by decide)]; exact ev) (List.getElem?_set_self (by rw [l3]; decide)) rv8 (.tup (.of upd_same) (.cons (.tup (.of hpt8) (.cons (.str _) (.cons rv8 .nil))) (.cons (.tup (.of hpt28) (.cons (.str _) (.cons rv8 .nil))) .nil))), ?_⟩
  rw [bw.q]
  intro σ5 H9 ρ5 po5 hr5 hs5
  exact hD σ5 H9 (J_after j8 hb8 po5 hr5 hs5 rfl rfl rfl n3 n4)
end
end Xc
/-! Xc8: _law_right, law -/
namespace Xc
open PySem PySem.Spec PyProof.Rows L2 LamX Sm
section
variable {P : Program} {w : World} {K : PySem.W.Frag} {mg : Str → Option Value} {base : Heap} {T : List (Addr × Str)} {R C : Addr}
theorem right_ok {f c Pt : Addr} {fd : FuncData} (h : Hyps P w K mg base R C) (F : FnP K "_law_right" s__law_right f fd) (hc : fd.code = .ref c) (TB : TabB base mg c Pt) (hmT : (Pt, ("_law_right.<locals>.<lambda>" : Str)) ∈ T)
    (hu : ∀ p ∈ T, p.1 = Pt → p.2 = ("_law_right.<locals>.<lambda>" : Str)) : FnOk P w K mg base CX0 9 f fd ["bowl"] (spRight T) := by
  obtain ⟨oc, od, dV, kV, doc, pm, an, cdv, ct, osl, rfl, lk, hcd, hD, hK⟩ := F.ex
  have hc : cdv = .ref c := hc
  subst hc
  refine fn_of lk hcd sc__law_right (fun vs H Q E ⟨_, _, _, e, _⟩ => by rw [e]; rfl) fun A outer s H vs Q E hr hsp => ?_
  obtain ⟨a, far, stir, rfl, hb, n1, n2, ht, hq⟩ := hsp
  obtain ⟨t, hL, hl⟩ := loop_ok (f := f) (A := A) (outer := outer) (s := s) (H0 := H) (E := E) h TB hmT hu hr
  have S4 := ok_q4 (f := f) (cdv := .ref c) (A := A) (outer := outer) (s := s) (H := H) (E := E) h.B h.hsame h.hpol hr
  have SF : PS (rX P w K mg base f (.ref c) A outer s H E) ((defBody s__law_right).getD 0 (.Pass ⟨0, 0, 0, 0⟩)) _ := ps_for PassesOwn.never rfl (pi_range1 rfl h.B.b_range (pa_cons pe_int pa_nil)) (pg_name (i := 1) sc__law_right.nd rfl (Or.inl rfl)) hL
  refine ⟨_, (pss_cons SF S4).nox, ?_⟩
  refine ⟨3, rfl, by decide, by decide, for_range (n := 3) (fun i σ H' => J T a H σ H') ⟨rfl, rfl, ⟨far, stir, hb, n1, n2⟩, ht, fun b o e _ _ => e⟩ (fun i σ H' _ j => ?_) (fun σ H' j => ?_)⟩
  · exact hl _ _ H' a H ⟨by rw [List.length_set]; exact j.len, by rw [List.getElem?_set_ne (by decide)]; exact j.at0, j.bowl, j.tabs, j.ext⟩ (fun σ' H' j => j)
  · obtain ⟨far', stir', hb', n1', n2'⟩ := j.bowl
    refine ⟨[a], sl0 none none, c0 far' stir', rel_bowl hb', relS_sl0 j.len j.at0, ?_⟩
    rw [q4_ok]
    intro v H'' ρ' po hr' rv
    cases rv
    have e0 : ρ'[0]? = some a := po.get (n := 0) rfl
    obtain ⟨b, vs, h1, h2, h3⟩ := hr'.at_ 0 [.int far', .int stir'] (by rw [Ch.get_set, if_pos rfl])
    rw [e0] at h1
    cases h1
    refine hq H'' far' stir' (ext_post j.ext po) ?_ (tabs_post j.tabs hb' po)
    cases h3 with
    | cons q1 q2 =>
      cases q1
      cases q2 with
      | cons q1 q2 =>
        cases q1
        cases q2
        exact h2
end
end Xc
namespace Sm
open PySem PySem.Spec PyProof.Rows L2
/-! the bowl is laid -/
noncomputable abbrev wBody : EvS := (sSet 3 (eBin fMod (eCB cInt (aCons (eBin fAdd (eBin fAdd (eBin fMul (eVar 3) (eC (.int 48989))) (eBin fMul (eBin fMod (eCB cInt (aCons (eVar 4) aNil)) (eC (.int 2147483353))) (eC (.int 3)))) (eC (.int 71))) aNil)) (eC (.int 2147483423))))
theorem wBody_ok (A B C F : Option W) (s z : Int) (c : Ch) : wBody [A, B, C, some (W.int s), some (W.int z), F] c = RS.nx [A, B, C, some (W.int ((s * 48989 + z % 2147483353 * 3 + 71) % 2147483423)), some (W.int z), F] c :=
  r_set (r_bin (r_cb (r_one (r_bin (r_bin (r_bin rfl rfl (mul_lit _ rfl)) (r_bin (r_bin (r_cb (r_one rfl) rfl) rfl rfl) rfl (mul_lit _ rfl)) rfl) rfl rfl)) rfl) rfl rfl)
theorem wLoop (ws : List W) (A B C F : Option W) (c : Ch) (hc : c.get 0 = some ws) (hi : ∀ (i : Nat) (w : W), ws[i]? = some w → ∃ z, w = .int z) : ∀ (m i : Nat) (s : Int) (o : Option W), i + m = ws.length →
    ∃ s' o', loopS (.lst 0) (gN 4) wBody (m + 1) i [A, B, C, some (.int s), o, F] c = .nx [A, B, C, some (.int s'), o', F] c
  | 0, i, s, o, h => by
    refine ⟨s, o, ?_⟩
    rw [loopS_succ]
    have e : stepS (.lst 0) i c = .stop := by
      show (match c.get 0 with | some ws => atL ws i | none => SR.no) = _
      rw [hc]
      show atL ws i = _
      unfold atL
      rw [getK_eq, List.getElem?_eq_none (by omega)]
    rw [e]
  | m + 1, i, s, o, h => by
    have hl : i < ws.length := by omega
    obtain ⟨z, hz⟩ := hi i ws[i] (List.getElem?_eq_getElem hl)
    obtain ⟨s', o', hr⟩ := wLoop ws A B C F c hc hi m (i + 1) ((s * 48989 + z % 2147483353 * 3 + 71) % 2147483423) (some (.int z)) (by omega)
    refine ⟨s', o', ?_⟩
    rw [loopS_succ]
    have e : stepS (.lst 0) i c = .item (.int z) := by
      show (match c.get 0 with | some ws => atL ws i | none => SR.no) = _
      rw [hc]
      show atL ws i = _
      unfold atL
      rw [getK_eq, List.getElem?_eq_getElem hl, hz]
    rw [e]
    show (match wBody [A, B, C, some (.int s), some (.int z), F] c with
        | .nx ω2 c2 => loopS (.lst 0) (gN 4) wBody (m + 1) (i + 1) ω2 c2
        | .ct ω2 c2 => loopS (.lst 0) (gN 4) wBody (m + 1) (i + 1) ω2 c2
        | .bk ω2 c2 => .nx ω2 c2
        | .rt w c2 => .rt w c2
        | .no => .no) = _
    rw [wBody_ok]
    exact hr
theorem loop_more {s : Src} {g : EvG} {b : EvS} : ∀ (n k i : Nat) (ω ω' : Sl) (c c' : Ch), loopS s g b n i ω c = .nx ω' c' → loopS s g b (n + k) i ω c = .nx ω' c'
  | 0, k, i, ω, ω', c, c', h => by cases h
  | n + 1, k, i, ω, ω', c, c', h => by
    rw [show n + 1 + k = (n + k) + 1 by omega, loopS_succ]
    rw [loopS_succ] at h
    cases e1 : stepS s i c with
    | stop => rw [e1] at h; exact h
    | no => rw [e1] at h; cases h
    | item w =>
      rw [e1] at h
      cases e2 : g w ω c with
      | no =>
        have h : (match g w ω c with | .no => RS.no | .ok ω1 c1 => _) = .nx ω' c' := h
        rw [e2] at h
        cases h
      | ok ω1 c1 =>
        dsimp only at h ⊢
        rw [e2] at h ⊢
        dsimp only at h ⊢
        cases e3 : b ω1 c1 with
        | nx ω2 c2 => rw [e3] at h; exact loop_more n k _ _ _ _ _ h
        | ct ω2 c2 => rw [e3] at h; exact loop_more n k _ _ _ _ _ h
        | bk ω2 c2 => rw [e3] at h; exact h
        | rt w c2 => rw [e3] at h; cases h
        | no => rw [e3] at h; cases h
end Sm
namespace Sm
open PySem PySem.Spec PyProof.Rows L2
theorem atI_frz (zs : List Int) (l : Nat) (h : l < zs.length) : ∃ z : Int, atW (zs.map W.int) (l : Int) = some (.int z) := by
  refine ⟨zs[l], ?_⟩
  show getK (zs.map W.int) l = _
  rw [getK_eq, List.getElem?_map, List.getElem?_eq_getElem h]
  rfl
theorem own_ok (zs : List Int) (l : Nat) (o2 o3 o4 o5 : Option W) : ∃ own : Int, (eIf (toB (eBin fLt (eVar 1) (eCB cLen (aCons (eVar 0) aNil)))) (eCB cInt (aCons (eBin fIx (eVar 0) (eVar 1)) aNil)) (eC (.int 0))) [some (.frz zs), some (.int (l : Int)), o2, o3, o4, o5] Ch.nil = .ok (.int own) Ch.nil := by
  have ht : toB (eBin fLt (eVar 1) (eCB cLen (aCons (eVar 0) aNil))) [some (.frz zs), some (.int (l : Int)), o2, o3, o4, o5] Ch.nil = .ok (ilt l (lenK (zs.map W.int) : Nat)) Ch.nil := rfl
  cases e : ilt l (lenK (zs.map W.int) : Nat) with
  | true =>
    rw [e] at ht
    rw [ilt_eq, lenK_eq, List.length_map] at e
    have hl : l < zs.length := by
      have := of_decide_eq_true e
      omega
    obtain ⟨z, hz⟩ := atI_frz zs l hl
    refine ⟨z, ?_⟩
    unfold eIf
    rw [ht]
    refine r_cb (r_one (r_bin rfl rfl (r := .ok (.int z) Ch.nil) ?_)) rfl
    show (match atW (zs.map W.int) (l : Int) with | some w => R.ok w Ch.nil | none => .no) = _
    rw [hz]
  | false =>
    rw [e] at ht
    refine ⟨0, ?_⟩
    unfold eIf
    rw [ht]
    rfl
theorem far_ok (own s : Int) (o0 o1 o4 o5 : Option W) (c : Ch) : ∃ far : Int, 0 ≤ far ∧ (eIf (bOr (toB (eBin fLt (eVar 2) (eC (.int 0)))) (toB (eBin fGe (eVar 2) (eBin fPow (eC (.int 10)) (eC (.int 16)))))) (eBin fMod (eCB cAbs (aCons (eVar 2) aNil)) (eBin fPow (eC (.int 10)) (eC (.int 60)))) (eC (.int 0))) [o0, o1, some (.int own), some (.int s), o4, o5] c = .ok (.int far) c := by
  have ht : bOr (toB (eBin fLt (eVar 2) (eC (.int 0)))) (toB (eBin fGe (eVar 2) (eBin fPow (eC (.int 10)) (eC (.int 16))))) [o0, o1, some (.int own), some (.int s), o4, o5] c = (match ilt own 0 with | true => .ok true c | false => .ok (ile ((10 : Int) ^ (16 : Int).toNat) own) c) := rfl
  have go : ∀ b : Bool, bOr (toB (eBin fLt (eVar 2) (eC (.int 0)))) (toB (eBin fGe (eVar 2) (eBin fPow (eC (.int 10)) (eC (.int 16))))) [o0, o1, some (.int own), some (.int s), o4, o5] c = .ok b c → ∃ far : Int, 0 ≤ far ∧ (eIf (bOr (toB (eBin fLt (eVar 2) (eC (.int 0)))) (toB (eBin fGe (eVar 2) (eBin fPow (eC (.int 10)) (eC (.int 16)))))) (eBin fMod (eCB cAbs (aCons (eVar 2) aNil)) (eBin fPow (eC (.int 10)) (eC (.int 60)))) (eC (.int 0))) [o0, o1, some (.int own), some (.int s), o4, o5] c = .ok (.int far) c := by
    intro b hb
    unfold eIf
    rw [hb]
    cases b with
    | true =>
      refine ⟨((own.natAbs : Nat) : Int) % ((10 : Int) ^ (60 : Int).toNat), Int.emod_nonneg _ (by decide), ?_⟩
      rfl
    | false => exact ⟨0, Int.le_refl _, rfl⟩
  cases e : ilt own 0 with
  | true => rw [e] at ht; exact go true ht
  | false => rw [e] at ht; exact go _ ht
end Sm
namespace Sm
open PySem PySem.Spec PyProof.Rows L2
theorem r_par2 {i j : Nat} {a : EvA} {v w : W} {ω : Sl} {c c1 : Ch} (h : a ω c = .ok [v, w] c1) : sPar i j a ω c = .nx (setK (some w) (setK (some v) ω i) j) c1 := by
  unfold sPar
  rw [h]
  rfl
theorem bowl_ok (zs : List Int) (l : Nat) (hz : zs.length ≤ 63) : ∃ (c1 : Ch) (m : Nat) (far stir : Int), r__law_bowl [.frz zs, .int (l : Int)] Ch.nil = .ok (.ref m) c1 ∧ c1.get m = some [.int far, .int stir] ∧ 0 ≤ far ∧ 0 ≤ stir := by
  obtain ⟨own, hown⟩ := own_ok zs l none none none none
  have hlen : (cutW (zs.map W.int) none (some 16)).length ≤ 63 := by
    unfold cutW
    rw [List.length_take, List.length_drop, List.length_map]
    omega
  have hmem : ∀ (i : Nat) (w : W), (cutW (zs.map W.int) none (some 16))[i]? = some w → ∃ z, w = .int z := by
    intro i w h
    have h1 := List.mem_of_getElem? h
    unfold cutW at h1
    obtain ⟨z, _, e⟩ := List.mem_map.mp (List.mem_of_mem_drop (List.mem_of_mem_take h1))
    exact ⟨z, e.symm⟩
  have hfew : few (cutW (zs.map W.int) none (some 16)) = true := by
    unfold few
    rw [lenK_eq]
    exact Nat.ble_eq.mpr (Nat.le_trans hlen (by decide))
  generalize hw : cutW (zs.map W.int) none (some 16) = ws at hlen hmem hfew
  have hit : ∀ o5, iSq (eSl (eVar 0) oNo (oAt (eC (.int 16)))) [some (.frz zs), some (.int (l : Int)), some (.int own), some (.int (660047 + 2711 * (l : Int))), none, o5] Ch.nil = .ok (.lst 0) (Ch.nil.push ws) := by
    intro o5
    have e : eSl (eVar 0) oNo (oAt (eC (.int 16))) [some (.frz zs), some (.int (l : Int)), some (.int own), some (.int (660047 + 2711 * (l : Int))), none, o5] Ch.nil = .ok (.ref 0) (Ch.nil.push ws) := by
      show newL (cutW (zs.map W.int) none (some 16)) Ch.nil = _
      rw [hw]
      unfold newL
      rw [hfew]
      rfl
    unfold iSq
    rw [e]
    rfl
  obtain ⟨s', o', hl⟩ := wLoop ws (some (.frz zs)) (some (.int (l : Int))) (some (.int own)) none (Ch.nil.push ws) rfl hmem ws.length 0 (660047 + 2711 * (l : Int)) none (by omega)
  have hl2 := loop_more (ws.length + 1) (1000 - (ws.length + 1)) 0 _ _ _ _ hl
  rw [show ws.length + 1 + (1000 - (ws.length + 1)) = 1000 by omega] at hl2
  have hfor : sFor 1000 (iSq (eSl (eVar 0) oNo (oAt (eC (.int 16))))) (gN 4) wBody [some (.frz zs), some (.int (l : Int)), some (.int own), some (.int (660047 + 2711 * (l : Int))), none, none] Ch.nil = .nx [some (.frz zs), some (.int (l : Int)), some (.int own), some (.int s'), o', none] (Ch.nil.push ws) := by
    unfold sFor
    rw [hit]
    exact hl2
  obtain ⟨far, hf0, hfar⟩ := far_ok own s' (some (.frz zs)) (some (.int (l : Int))) o' none (Ch.nil.push ws)
  have hb : b__law_bowl [some (.frz zs), some (.int (l : Int)), none, none, none, none] Ch.nil = .rt (.ref 1) ((Ch.nil.push ws).push [.int far, .int ((s' * 31 + own % 2147483353 + 401) % 2147483423)]) := by
    refine r_seq (r_par2 (r_cons hown (r_one (r_bin rfl (r_bin rfl rfl rfl) rfl)))) (r_seq hfor (r_seq (r_set hfar) (r_ret ?_)))
    have e : (aCons (eVar 5) (aCons (eBin fMod (eCB cInt (aCons (eBin fAdd (eBin fAdd (eBin fMul (eVar 3) (eC (.int 31))) (eBin fMod (eCB cInt (aCons (eVar 2) aNil)) (eC (.int 2147483353)))) (eC (.int 401))) aNil)) (eC (.int 2147483423))) aNil)) (setK (some (W.int far)) [some (.frz zs), some (.int (l : Int)), some (.int own), some (.int s'), o', none] 5) (Ch.nil.push ws) = .ok [.int far, .int ((s' * 31 + own % 2147483353 + 401) % 2147483423)] (Ch.nil.push ws) :=
      r_cons rfl (r_one (r_bin (r_cb (r_one (r_bin (r_bin (r_bin rfl rfl (mul_lit _ rfl)) (r_bin (r_cb (r_one rfl) rfl) rfl rfl) rfl) rfl rfl)) rfl) rfl rfl))
    unfold eLst
    rw [e]
    rfl
  refine ⟨(Ch.nil.push ws).push [.int far, .int ((s' * 31 + own % 2147483353 + 401) % 2147483423)], 1, far, (s' * 31 + own % 2147483353 + 401) % 2147483423, ?_, ?_, hf0, Int.emod_nonneg _ (by decide)⟩
  rotate_left
  · rw [Ch.get_push]
    rfl
  show (match b__law_bowl [some (.frz zs), some (.int (l : Int)), none, none, none, none] Ch.nil with
    | .rt w c1 => R.ok w c1
    | .nx _ c1 => .ok .non c1
    | _ => .no) = _
  rw [hb]
end Sm
/-! Xc9: law -/
namespace Xc
open PySem PySem.Spec PyProof.Rows L2 LamX Sm
abbrev s_law : Stmt := top 33
abbrev N_law : List Str := ["script", "lap"]
theorem sc_law : FnScope N_law ["script"] (defScope s_law) := ⟨rfl, rfl, rfl, by decide +kernel, rfl, by decide +kernel, by decide +kernel⟩
def spLaw (K : PySem.W.Frag) (T : List (Addr × Str)) : Sp := fun vs H Q _ => ∃ (sa : Addr) (zs : List Int), vs = [.ref sa] ∧ zs.length ≤ 63 ∧ SqL K H sa (zs.map V.int) ∧ Tabs T H ∧ ∀ H', Q (.bl true) H'
noncomputable abbrev rngLaw : EvI := iR1 (aCons (eCB cMax (aCons (eC (.int 1)) (aCons (eCB cMin (aCons (eCB cLen (aCons (eVar 0) aNil)) (aCons (eC (.int 3)) aNil))) aNil))) aNil)
theorem rng_ok (zs : List Int) : ∃ n : Nat, n ≤ 3 ∧ rngLaw [some (.frz zs), none] Ch.nil = .ok (.rng 0 n) Ch.nil := by
  match zs with
  | [] => exact ⟨1, by decide, rfl⟩
  | [_] => exact ⟨1, by decide, rfl⟩
  | [_, _] => exact ⟨2, by decide, rfl⟩
  | a :: b :: d :: zs =>
    refine ⟨3, by decide, ?_⟩
    have e1 : ilt (lenK ((a :: b :: d :: zs).map W.int) : Nat) 3 = false := by
      rw [ilt_eq, lenK_eq, List.length_map]
      refine decide_eq_false ?_
      simp only [List.length_cons]
      omega
    have e2 : rngLaw [some (.frz (a :: b :: d :: zs)), none] Ch.nil = iR1 (fun _ c => .ok [.int (selI (ilt 1 (selI (ilt 3 (lenK ((a :: b :: d :: zs).map W.int) : Nat)) 3 (lenK ((a :: b :: d :: zs).map W.int) : Nat))) (selI (ilt 3 (lenK ((a :: b :: d :: zs).map W.int) : Nat)) 3 (lenK ((a :: b :: d :: zs).map W.int) : Nat)) 1)] c) [some (.frz (a :: b :: d :: zs)), none] Ch.nil := rfl
    rw [e2]
    have e3 : selI (ilt 3 (lenK ((a :: b :: d :: zs).map W.int) : Nat)) 3 (lenK ((a :: b :: d :: zs).map W.int) : Nat) = 3 := by
      cases e4 : ilt 3 (lenK ((a :: b :: d :: zs).map W.int) : Nat) with
      | true => rfl
      | false =>
        rw [ilt_eq] at e1 e4
        have e1 := of_decide_eq_false e1
        have e4 := of_decide_eq_false e4
        show ((lenK ((a :: b :: d :: zs).map W.int) : Nat) : Int) = 3
        omega
    rw [e3]
    rfl
theorem frz_of {K : PySem.W.Frag} {H : Hp} {a : Addr} {vs : List V} (h : SqL K H a vs) : FrzAt K [] H a vs := by
  rcases h with (h | h) | h
  · exact .inl ⟨h, List.not_mem_nil⟩
  · exact .inr (.inl h)
  · exact .inr (.inr h)
theorem sqL_keep {K : PySem.W.Frag} {H H' : Hp} {a : Addr} {vs : List V} (h : SqL K H a vs) (k : ∀ o, H a = some o → (∀ ps, o ≠ .tbl ps) → H' a = some o) : SqL K H' a vs := by
  rcases h with (h | ⟨o, h⟩) | h
  · exact .inl (.inl (k _ h fun ps z => by cases z))
  · exact .inl (.inr ⟨o, k _ h fun ps z => by cases z⟩)
  · exact .inr h
abbrev lX (P : Program) (w : World) (K : PySem.W.Frag) (mg : Str → Option Value) (base : Heap) (f : Addr) (cdv : Value) (A : Around) (outer : List Env) (s : Shared) (H : Hp) (E : XK) : Cx := (cxOf CX0 P w K mg base N_law "law" (defScope s_law) f cdv A outer s H E).nox
noncomputable abbrev tEltL (K : PySem.W.Frag) (T : List (Addr × Str)) : TE := tCall (spRight T) [] E0 (tCons (tV K (eCall 2 r__law_bowl (aCons (eVar 0) (aCons (eVar 1) aNil)))) tNil)
theorem frz_keep {K : PySem.W.Frag} {H H' : Hp} {a D : Addr} {vs us : List V} (h : FrzAt K [D] H a vs) (hD : H D = some (.lst us)) (k : ∀ b o, H b = some o → b ≠ D → (∀ ps, o ≠ .tbl ps) → H' b = some o) : FrzAt K [D] H' a vs := by
  rcases h with h | ⟨o, h⟩ | h
  · exact .inl ⟨k _ _ h.1 (fun z => h.2 (by rw [z]; simp)) (fun ps z => by cases z), h.2⟩
  · exact .inr (.inl ⟨o, k _ _ h (fun z => by rw [z, hD] at h; cases h) (fun ps z => by cases z)⟩)
  · exact .inr (.inr h)
theorem tabs_upd {T : List (Addr × Str)} {H : Hp} {D : Addr} {us vs : List V} (t : Tabs T H) (hD : H D = some (.lst us)) : Tabs T (upd H D (.lst vs)) := by
  intro q hq
  obtain ⟨ps, h1, h2, h3⟩ := t q hq
  refine ⟨ps, by rw [upd_ne (fun z => by rw [z, hD] at h1; cases h1)]; exact h1, h2, fun pos cv hc => ?_⟩
  obtain ⟨c, e1, e2⟩ := h3 pos cv hc
  refine ⟨c, e1, ?_⟩
  rw [upd_ne (fun z => by
    rw [z, hD] at e2
    have z2 : HO.lst us = CodeO D q.2 := Option.some.inj e2
    unfold CodeO at z2
    cases z2)]
  exact e2
/-- the state between two turns of law's comprehension -/
structure JL (K : PySem.W.Frag) (T : List (Addr × Str)) (sa D : Addr) (zs : List Int) (i : Nat) (H : Hp) : Prop where
  at_ : H D = some (.lst (List.replicate i (V.bl true)))
  tabs : Tabs T H
  scr : FrzAt K [D] H sa (zs.map V.int)
theorem JL.turn {K : PySem.W.Frag} {T : List (Addr × Str)} {sa D : Addr} {zs : List Int} {i : Nat} {H : Hp} (j : JL K T sa D zs i H) (hi : i < 3) (hz : zs.length ≤ 63) {Q : VK} (hQ : ∀ H', H' D = some (.lst (List.replicate i (V.bl true))) → JL K T sa D zs (i + 1) (upd H' D (.lst (List.replicate i (V.bl true) ++ [.bl true]))) → Q (.bl true) H') :
    tEltL K T [some (.ref sa), some (.int (0 + (i : Nat)))] H Q := by
  obtain ⟨c1, m, far, stir, e1, e2, n1, n2⟩ := bowl_ok zs i hz
  refine ⟨[], [some (.frz zs), some (.int (i : Int))], Ch.nil, nil_rel, .cons (.frz (j.scr.sub fun x hx => absurd hx List.not_mem_nil)) (.cons (by rw [Int.zero_add]; exact .int _) .nil), ?_⟩
  rw [r_call (r_cons (x := .frz zs) rfl (r_one (x := .int (i : Int)) rfl)) rfl e1]
  intro v H3 ρ3 po3 hr3 rv
  obtain ⟨ab, vs, ev, hρ, hH, hl⟩ := hr3.lst rv e2
  subst ev
  have k3 : ∀ b o, H b = some o → H3 b = some o := fun b o e => po3.keep b o e (by simp)
  have hfr : H ab = none := by
    obtain ⟨mm, em, hm⟩ := po3.more
    rw [em] at hρ
    exact hm ab (List.mem_of_getElem? hρ)
  have hvs : vs = [.int far, .int stir] := by
    cases hl with
    | cons q1 q2 =>
      cases q1
      cases q2 with
      | cons q1 q2 =>
        cases q1
        cases q2
        rfl
  subst hvs
  have hD3 := k3 _ _ j.at_
  have hne : D ≠ ab := ne_of_none j.at_ hfr
  refine ⟨ab, far, stir, rfl, hH, n1, n2, j.tabs.ext k3, fun H4 f' s' ea hb4 t4 => ?_⟩
  have hD4 : H4 D = some (.lst (List.replicate i (V.bl true))) := ea D _ hD3 hne fun ps z => by cases z
  refine hQ H4 hD4 ⟨by rw [upd_same, List.replicate_succ'], tabs_upd t4 hD4, frz_keep j.scr j.at_ fun b o e nb nt => ?_⟩
  rw [upd_ne nb]
  exact ea b o (k3 b o e) (ne_of_none e hfr) nt
section
variable {P : Program} {w : World} {K : PySem.W.Frag} {mg : Str → Option Value} {base : Heap} {T : List (Addr × Str)} {R C : Addr}
theorem law_ok {f fR : Addr} {fd fdR : FuncData} (h : Hyps P w K mg base R C) (hmin : mg "min" = none) (hbowl : Has P w K mg base 1 "_law_bowl" 2 r__law_bowl) (FR : FnP K "_law_right" s__law_right fR fdR) (hmR : mg "_law_right" = some (.ref fR)) (GR : FnOk P w K mg base CX0 9 fR fdR ["bowl"] (spRight T))
    (F : FnP K "law" s_law f fd) : FnOk P w K mg base CX0 10 f fd ["script"] (spLaw K T) := by
  refine F.ok sc_law (fun vs H Q E ⟨_, _, e, _⟩ => by rw [e]; rfl) fun cdv A outer s H vs Q E hr hsp => ?_
  obtain ⟨sa, zs, rfl, hz, hS, hT, hq⟩ := hsp
  have hbR := FR.bindsN (ps := ["bowl"]) (fun _ _ _ _ _ _ us hl => match us, hl with | [_], _ => rfl)
  have S : PSs (lX P w K mg base f cdv A outer s H E) (defBody s_law) _ := pss_one (ps_ret (pe_callB (cr_all rfl) rfl h.B.b_all (by decide +kernel) (pa_cons (pe_lc (own := [("lap", 1)]) (te := tEltL K T) rfl sc_law.nd (i_rng1 h.B.b_range (a_cons (q_max h.B.b_max rfl (a_cons q_int (a_cons (q_min hmin rfl (a_cons (q_len h.B.b_len (a_cons (q_v 0) a_nil)) (a_cons q_int a_nil))) a_nil))) a_nil))
    (blkOk_by (by kernel_rfl)) (fun _ _ _ _ _ => (pg_n 1 sc_law.nd)) (fun _ _ _ _ _ => pts_nil)
    (fun _ _ _ _ _ => by
      refine pe_call GR hr rfl hmR FR.kp hbR .nil pass0 ?_
      exact pa_cons (q_call hbowl (hr.mono (Nat.le_of_ble_eq_true rfl)) (a_cons (q_v 0) (a_cons (q_v 1) a_nil))) pa_nil)) pa_nil)))
  refine ⟨_, S.nox, ?_⟩
  obtain ⟨n, hn, hrng⟩ := rng_ok zs
  unfold rngLaw at hrng
  refine ⟨[], [some (.frz zs), none], Ch.nil, nil_rel, .cons (.frz (frz_of hS)) (.free .nil), ?_⟩
  rw [hrng]
  intro J H1 ρ1 po hr1 sj
  cases sj
  intro D hD
  have k1 : ∀ b o, H b = some o → H1 b = some o := fun b o e => po.keep b o e (by simp)
  have k2 : ∀ b o, H b = some o → upd H1 D (.lst []) b = some o := fun b o e => by rw [upd_ne (ne_of_none (k1 b o e) hD)]; exact k1 b o e
  refine lc_range (n := n) (JL K T sa D zs) ⟨upd_same, hT.ext k2, ?_⟩ (fun i H2 hi j => ⟨rfl, ?_⟩) (fun H2 j => ⟨D, List.replicate n true, rfl, .of (by rw [List.map_replicate]; exact j.at_), ?_⟩)
  · rcases hS with (e | ⟨o, e⟩) | e
    · exact .inl ⟨k2 _ _ e, fun z => by rw [List.mem_singleton.mp z] at e; rw [k1 _ _ e] at hD; cases hD⟩
    · exact .inr (.inl ⟨o, k2 _ _ e⟩)
    · exact .inr (.inr e)
  · unfold tYes
    dsimp only
    first | rw [if_pos rfl] | skip
    refine j.turn (Nat.lt_of_lt_of_le hi hn) hz fun H' e jj => ⟨_, e, ?_, jj⟩
    rw [List.length_replicate, sizeLine_eq]
    omega
  · have e : (List.replicate n true).all id = true := by simp
    rw [e]
    exact hq H2
end
end Xc
/-! Hd2: the head: facts by names, the class of errors and its __init__, the run -/
namespace Hd
open PySem PySem.Spec PyProof.Rows L2 Sm Xc
abbrev PW := PySem.Challenge.pw_rollrings_k01_least_polynomials_of_order
abbrev LW := PySem.Challenge.rw_rollrings_k01_least_polynomials_of_order
def dd (x : Str) (i : Nat) : He.DefD := ⟨(x, none), x, x, defArgs (top i), defBody (top i), defScope (top i), [], []⟩
def fn : List He.DefD := [dd "primes_of" 4, dd "is_prime" 5, dd "with_one" 6, dd "without_one" 7, dd "products_of" 8, dd "polynomial_by" 9, dd "is_whole" 11, dd "is_from" 12, dd "is_order" 15, dd "check_order" 17, dd "polynomial" 18,
  dd "_law_bowl" 20, dd "_law_draw" 21, dd "_law_of" 22, dd "_law_same" 23, dd "_law_gcd" 24, dd "_law_primes" 25, dd "_law_degree" 26, dd "_law_polynomial" 27, dd "_law_spread" 28, dd "_law_divided" 29, dd "_law_kept" 30, dd "_law_product" 31, dd "_law_right" 32, dd "law" 33]
def names : List Str := ["primes_of", "is_prime", "with_one", "without_one", "products_of", "polynomial_by", "is_whole", "is_from", "is_order", "check_order", "polynomial", "_law_bowl", "_law_draw", "_law_of", "_law_same", "_law_gcd", "_law_primes", "_law_degree", "_law_polynomial", "_law_spread", "_law_divided", "_law_kept", "_law_product", "_law_right"]
def frees : List Str := ["abs", "all", "bool", "divmod", "enumerate", "int", "isinstance", "len", "list", "max", "min", "range", "str", "tuple", "ValueError", "super"]
def fa : List He.Fa := (names ++ (["law", "RollError", "InvalidTeeth"] : List Str)).map He.Fa.glo ++ frees.map He.Fa.free ++ [.int "MOST_ORDER" 120]
def tf : List He.Defn := [("_law_right", none)]
/-! the class of errors -/
abbrev cR (K : PySem.W.Frag) : Addr := He.ga K "RollError"
abbrev cI (K : PySem.W.Frag) : Addr := He.ga K "InvalidTeeth"
abbrev fI (K : PySem.W.Frag) : Addr := He.ma K (cI K) "__init__"
def firstOf (s : Stmt) : Stmt := match s with
  | .ClassDef _ _ _ b _ _ _ _ _ _ _ => b.getD 0 (.Pass ⟨0, 0, 0, 0⟩)
  | _ => .Pass ⟨0, 0, 0, 0⟩
abbrev sI : Stmt := firstOf (top 2)
/-- the class at C stands over ValueError -/
def oexB (K : PySem.W.Frag) (C : Addr) : Bool := match K.lookup C with
  | some ⟨.type c, _, .cls ⟨_, _, m, _, _, hd, _, _, _, _, del⟩, ⟨[_, _, _, _, some (.builtin i), _]⟩⟩ => decide (c = "type") && (hd && (!del && (decide (i = "ValueError.__new__") && (match m with
    | .ref C' :: bm => decide (C' = C) && PySem.HandSPX.refsVE bm
    | _ => false))))
  | _ => false
def eqV (a : Option (Option Value)) (i : String) : Bool := match a with
  | some (some (.builtin j)) => decide (j = i)
  | _ => false
theorem eqV_ok {a : Option (Option Value)} {i : String} (h : eqV a i = true) : a = some (some (.builtin i)) := by
  match a, h with
  | some (some (.builtin j)), h => rw [of_decide_eq_true (show decide (j = i) = true from h)]
def noV (a : Option (Option Value)) : Bool := match a with
  | some none => true
  | _ => false
theorem noV_ok {a : Option (Option Value)} (h : noV a = true) : a = some none := by
  match a, h with
  | some none, _ => rfl
def yesB (a : Option Bool) : Bool := match a with
  | some true => true
  | _ => false
theorem yesB_ok {a : Option Bool} (h : yesB a = true) : a = some true := by
  match a, h with
  | some true, _ => rfl
def tyB (a : Option Value) (n : String) : Bool := match a with
  | some (.type m) => decide (m = n)
  | _ => false
theorem tyB_ok {a : Option Value} {n : String} (h : tyB a n = true) : a = some (.type n) := by
  match a, h with
  | some (.type m), h => rw [of_decide_eq_true (show decide (m = n) = true from h)]
theorem oexB_ok {K : PySem.W.Frag} {C : Addr} (h : oexB K C = true) : ∃ nm q N bs bm sn sub ab col dd k0 k1 k2 k3 k5, K.lookup C = some (PySem.excClassObj nm q C N bs bm true sn sub ab col dd k0 k1 k2 k3 k5 "ValueError.__new__") ∧ PySem.HandSPX.refsVE bm = true := by
  unfold oexB at h
  split at h
  · rename_i c dd nm bs m N q hd sn sub ab col del k0 k1 k2 k3 i k5 e
    simp only [Bool.and_eq_true, decide_eq_true_eq, Bool.not_eq_true'] at h
    obtain ⟨h1, h2, h3, h4, h5⟩ := h
    subst h1 h2 h3 h4
    split at h5
    · rename_i C' bm
      simp only [Bool.and_eq_true, decide_eq_true_eq] at h5
      obtain ⟨h6, h7⟩ := h5
      subst h6
      exact ⟨nm, q, N, bs, bm, sn, sub, ab, col, dd, k0, k1, k2, k3, k5, e, h7⟩
    · cases h5
  · cases h
/-- the code object of the def at f: its file -/
def fileB (K : PySem.W.Frag) (cd : Value) : Bool := match cd with
  | .ref a => (match K.lookup a with
    | some ⟨_, _, .fields vs, _⟩ => (match (vs[2]? : Option Value) with
      | some (.str x _) => (PW.main.file : Str) == x
      | _ => false)
    | _ => false)
  | _ => false
def cellB (K : PySem.W.Frag) (C : Addr) (cl : List (Str × Addr)) : Bool := match cl with
  | [(_, cc)] => (match K.lookup cc with
    | some ⟨_, _, .cell (some (.ref D)), _⟩ => decide (D = C)
    | _ => false)
  | _ => false
def initB (K : PySem.W.Frag) (C : Addr) (f : Addr) (q : Str) : Bool := match K.lookup f with
  | some ⟨_, _, .func fd, _⟩ => PySem.W.codeIn K fd.code q && (fileB K fd.code && cellB K C fd.closure)
  | _ => false
/-- what is looked at of the classes -/
def exB (K : PySem.W.Frag) : Bool :=
  oexB K (cI K) && (eqV (PySem.W.findIn K (.ref (cI K)) "__setattr__") "object.__setattr__" && (yesB (PySem.W.subIn K (.ref (cI K)) (.type "BaseException")) && (tyB (PySem.W.typeIn K (.ref (cI K))) "type" && (PySem.W.keepIn K (.ref (cI K)) &&
  (eqV (PySem.W.findIn K (.ref (cI K)) "__getattribute__") "BaseException.__getattribute__" && (noV (PySem.W.findIn K (.ref (cI K)) "__getattr__") && (PySem.W.hasDictIn K (cI K) && (eqV (PySem.W.findIn K (.ref (cI K)) "__class__") "object.__class__" &&
  (eqV (PySem.W.specialIn K (.builtin "object.__class__") "__get__") "getset_descriptor.__get__" && (yesB (PySem.W.takesIn K (.builtin "object.__class__")) && (yesB (PySem.W.mroIn K (cI K) (.type "object")) &&
  (yesB (PySem.W.exmOne K (.ref (cI K)) (.ref (cR K))) && (yesB (PySem.W.kitOne K (.ref (cI K)) (.ref (cI K))) && (yesB (PySem.W.kitOne K (.ref (cI K)) (.type "ValueError")) && (noV (PySem.W.findIn K (.ref (cI K)) "given") &&
  (yesB (PySem.W.mroIn K (cI K) (.ref (cI K))) && (yesB (PySem.W.subIn K (.ref (cI K)) (.type "ValueError")) && (eqV (PySem.W.ks_superIn K (cI K) (cI K) "__init__") "ValueError.__init__" && (noV (PySem.W.nsIn K cStatics "thirdparty.any") &&
  (decide (PySem.W.findIn K (.ref (cI K)) "__init__" = some (some (.ref (fI K)))) && (tyB (PySem.W.typeIn K (.ref (fI K))) "function" && initB K (cI K) (fI K) "InvalidTeeth.__init__")))))))))))))))))))))
/-- the function object of the class's __init__ -/
abbrev AlI : Type := Option (Str × Str × Arguments × FuncBody × Scope × Addr × List Str × Value × Value × Addr)
def obI (K : PySem.W.Frag) : AlI := match K.lookup (fI K) with
  | some ⟨_, _, .func fd, _⟩ => some (fd.name, fd.qualname, fd.params, fd.body, fd.scope, fd.globals, fd.closure.map (·.1), fd.defaults, fd.kwdefaults, fd.builtins)
  | _ => none
def vaI : AlI := some ("__init__", "InvalidTeeth.__init__", defArgs sI, .stmts (defBody sI), defScope sI, mainGlobals, ["__class__"], .none, .none, builtinsNs)
/-! the Hook -/
def asY (g : Addr → Option Obj) : List Addr := cStatics :: He.asD g 5
abbrev AlY : Type := He.AlT × Bool × AlI
def obY (g : Addr → Option Obj) : AlY := (He.obsT fa fn [] (He.frT g (asY g)), exB (He.frT g (asY g)) && He.tabsB g tf (He.frT g (asY g)), obI (He.frT g (asY g)))
def vaY (w : World) : AlY := (He.valT fn [] w, true, vaI)
def SaysY (w : World) (h : Heap) (K : PySem.W.Frag) : Prop := He.SaysX fa fn [] tf exB w h K ∧ obI K = vaI
theorem saysY_of {w : World} {h : Heap} (e : obY h.get? = vaY w) : SaysY w h (He.frT h.get? (asY h.get?)) := by
  have e1 := congrArg (fun z : AlY => z.1) e
  have e2 : (exB (He.frT h.get? (asY h.get?)) && He.tabsB h.get? tf (He.frT h.get? (asY h.get?))) = true := congrArg (fun z : AlY => z.2.1) e
  have e3 := congrArg (fun z : AlY => z.2.2) e
  obtain ⟨u1, u2⟩ := Bool.and_eq_true_iff.mp e2
  have w2 := fun p hp => Bool.and_eq_true_iff.mp (List.all_eq_true.mp u2 p hp)
  refine ⟨⟨e1, u1, fun p hp => (w2 p hp).1, fun p hp => ?_, fun p hp => ?_⟩, e3⟩
  · have z := (w2 p hp).2
    cases q : h.get? (He.cT (He.frT h.get? (asY h.get?)) p).2 with
    | none => rw [q] at z; exact absurd z (by decide)
    | some o => rw [q] at z; exact He.frT_none q z
  · have z := (w2 p hp).2
    cases q : h.get? (He.cT (He.frT h.get? (asY h.get?)) p).2 with
    | none => rw [q] at z; exact absurd z (by decide)
    | some o => rw [q] at z; rw [He.emptyTab_eq z]
def hk : PySem.W.Hook where
  α := AlY
  obs := fun s => obY s.heap.get?
  val := vaY
  says := fun w h => ∃ K : PySem.W.Frag, K.In h ∧ SaysY w h K
  of := fun _ _ e => ⟨_, He.frT_in, saysY_of e⟩
  keeps := fun _ _ _ ⟨K, i, c⟩ k => ⟨K, i.keeps k, ⟨c.1.t, c.1.more, c.1.hd, c.1.out, fun p hp => k _ _ (c.1.empty p hp)⟩, c.2⟩
abbrev R : PySem.W.OpenRow := PySem.W.OpenLaw.row LW
def ob (s : PySem.W.SharedT) : AlY := obY (HandSHeadRun.getT s)
theorem ob_eq (s : PySem.W.SharedT) : ob s = hk.obs s.abs := by
  have e : HandSHeadRun.getT s = s.abs.heap.get? := funext (HandSHeadRun.getT_eq s)
  show obY (HandSHeadRun.getT s) = obY s.abs.heap.get?
  rw [e]
theorem run (w : World) : HandSHeadRun.RunEq R (PySem.W.view R.prog [33]) hk ob 2000 ((["RollError", "InvalidTeeth", "MOST_ORDER"] : List Str) ++ names) w := by
  intro os
  kernel_rfl
end Hd
/-! Hd3: from the head's facts to the law's def; the law -/
namespace Hd
open PySem PySem.Spec PyProof.Rows L2 Sm Xc LamX
section
variable {w : World} {K : PySem.W.Frag} {h : Heap} {mg : Str → Option Value}
theorem errs_of (X : K.In h) (G : h.Ns mainGlobals mg) (c : SaysY w h K) : Errs K mg (cR K) (cI K) ∧ Makes PW K mg (cI K) := by
  have d := c.1.t.d
  have e := c.1.more
  unfold exB at e
  simp only [Bool.and_eq_true] at e
  obtain ⟨e1, e2, e3, e4, e5, e6, e7, e8, e9, e10, e11, e12, e13, e14, e15, e16, e17, e18, e19, e20, e21, e22, e23⟩ := e
  have e2 := eqV_ok e2
  have e3 := yesB_ok e3
  have e4 := tyB_ok e4
  have e6 := eqV_ok e6
  have e7 := noV_ok e7
  have e9 := eqV_ok e9
  have e10 := eqV_ok e10
  have e11 := yesB_ok e11
  have e12 := yesB_ok e12
  have e13 := yesB_ok e13
  have e14 := yesB_ok e14
  have e15 := yesB_ok e15
  have e16 := noV_ok e16
  have e17 := yesB_ok e17
  have e18 := yesB_ok e18
  have e19 := eqV_ok e19
  have e20 := noV_ok e20
  have e21 := of_decide_eq_true e21
  have e22 := tyB_ok e22
  have gC : mg "InvalidTeeth" = some (.ref (cI K)) := He.glo_ok X G (d.fact 26 (f := .glo "InvalidTeeth") rfl)
  have T : OexC K (cI K) := ⟨oexB_ok e1, e2, e3, e4, e5⟩
  refine ⟨⟨He.glo_ok X G (d.fact 25 (f := .glo "RollError") rfl), gC, He.free_ok X G (d.fact 33 (f := .free "isinstance") rfl), He.free_ok X G (d.fact 41 (f := .free "ValueError") rfl),
    ⟨e6, e7, e3, e8, e9, e10, e11, e12⟩, ⟨e6, e7, e3, e8⟩, e13, e14, e15, e16⟩, ⟨?_, T, gC⟩⟩
  have q := c.2
  unfold obI at q
  unfold initB at e23
  cases lk : K.lookup (fI K) with
  | none => rw [lk] at e23; cases e23
  | some o =>
    obtain ⟨oc, od, dt, osl⟩ := o
    rw [lk] at q e23
    cases dt with
    | func fd =>
      obtain ⟨n1, n2, n3, n4, n5, n6, n7, n8, n9, n10, n11, n12, n13, n14, n15⟩ := fd
      have q2 : (some (n1, n2, n3, n4, n5, n6, n7.map (·.1), n8, n9, n15) : AlI) = (some ("__init__", "InvalidTeeth.__init__", defArgs sI, .stmts (defBody sI), defScope sI, mainGlobals, ["__class__"], .none, .none, builtinsNs) : AlI) := q
      simp only [Option.some.injEq, Prod.mk.injEq] at q2
      obtain ⟨h1, h2, h3, h4, h5, h6, h7, h8, h9, h10⟩ := q2
      subst h1 h2 h3 h4 h5 h6 h8 h9 h10
      have e24 : (PySem.W.codeIn K n13 "InvalidTeeth.__init__" && (fileB K n13 && cellB K (cI K) n7)) = true := e23
      simp only [Bool.and_eq_true] at e24
      obtain ⟨k1, k2, k3⟩ := e24
      match n7, h7, k3 with
      | [(y, cc)], h7, k3 =>
        have h7 : y = ("__class__" : Str) := by simpa using h7
        subst h7
        unfold fileB at k2
        obtain ⟨cda, rfl⟩ := He.codeIn_ref k1
        have k2 : (match K.lookup cda with | some ⟨_, _, .fields vs, _⟩ => (match (vs[2]? : Option Value) with | some (.str x _) => (PW.main.file : Str) == x | _ => false) | _ => false) = true := k2
        cases lc : K.lookup cda with
        | none => rw [lc] at k2; cases k2
        | some oo =>
          obtain ⟨ccl, cdd, cdt, ccs⟩ := oo
          rw [lc] at k2
          cases cdt with
          | fields vs =>
            have k2 : (match (vs[2]? : Option Value) with | some (.str x _) => (PW.main.file : Str) == x | _ => false) = true := k2
            cases l2 : vs[2]? with
            | none => rw [l2] at k2; cases k2
            | some v2 =>
              rw [l2] at k2
              cases v2 with
              | str file tf =>
                have k3 : (match K.lookup cc with | some ⟨_, _, .cell (some (.ref D)), _⟩ => decide (D = cI K) | _ => false) = true := k3
                cases l3 : K.lookup cc with
                | none => rw [l3] at k3; cases k3
                | some o3 =>
                  obtain ⟨cl, cld, c3, csl⟩ := o3
                  rw [l3] at k3
                  cases c3 with
                  | cell cv =>
                    cases cv with
                    | none => cases k3
                    | some cv =>
                      cases cv with
                      | ref D =>
                        have k3 : D = cI K := of_decide_eq_true k3
                        subst k3
                        refine ⟨fI K, PySem.W.ksFn "__init__" "InvalidTeeth.__init__" (defArgs sI) (defBody sI) (defScope sI) .none .none n10 n11 n12 (.ref cda) n14 cc, ⟨T, ?fn, by kernel_rfl, He.free_ok X G (d.fact 42 (f := .free "super") rfl), e17, e16, e18, e19, e20, by decide, by decide⟩, ?bi, e21, e22⟩
                        case fn => exact ⟨oc, od, n10, n11, n14, n12, osl, "InvalidTeeth.__init__", defArgs sI, defScope sI, cda, cc, ⟨7, 8, 7, 13⟩, ⟨7, 8, 7, 15⟩, ⟨7, 8, 7, 24⟩, ⟨7, 8, 7, 26⟩, ⟨7, 8, 7, 26⟩, ⟨8, 8, 8, 12⟩, ⟨8, 8, 8, 18⟩, ⟨8, 21, 8, 26⟩, ⟨8, 8, 8, 26⟩, ccl, cl, cdd, cld, vs, ccs, csl, file, tf, ⟨"self", none, ⟨6, 17, 6, 21⟩⟩, rfl, lk, k1, rfl, rfl, lc, l2, k2, l3, by kernel_rfl, by kernel_rfl, by kernel_rfl, by kernel_rfl, fun env => ⟨_, rfl⟩, by decide +kernel, rfl, rfl, rfl⟩
                        case bi => exact .all fun us hl => match us, hl with | [_, _], _ => rfl
                      | _ => cases k3
                  | _ => cases k3
              | _ => cases k2
          | _ => cases k2
    | _ => cases e23

theorem facts {f : Addr} (X : K.In h) (G : h.Ns mainGlobals mg) (hfa : mg "law" = some (.ref f)) (c : SaysY w h K) : LawAtS LW w K CX0 10 63 "script" mg f h := by
  have d := c.1.t.d
  obtain ⟨E, M⟩ := errs_of X G c
  have B : Bs mg := ⟨He.free_ok X G (d.fact 27 (f := .free "abs") rfl), He.free_ok X G (d.fact 28 (f := .free "all") rfl), He.free_ok X G (d.fact 29 (f := .free "bool") rfl), He.free_ok X G (d.fact 30 (f := .free "divmod") rfl), He.free_ok X G (d.fact 31 (f := .free "enumerate") rfl), He.free_ok X G (d.fact 32 (f := .free "int") rfl), He.free_ok X G (d.fact 33 (f := .free "isinstance") rfl), He.free_ok X G (d.fact 34 (f := .free "len") rfl), He.free_ok X G (d.fact 35 (f := .free "list") rfl), He.free_ok X G (d.fact 36 (f := .free "max") rfl), He.free_ok X G (d.fact 38 (f := .free "range") rfl), He.free_ok X G (d.fact 39 (f := .free "str") rfl), He.free_ok X G (d.fact 40 (f := .free "tuple") rfl), He.int_ok X G (d.fact 43 (f := .int "MOST_ORDER" 120) rfl)⟩
  have hmin := He.free_ok X G (d.fact 37 (f := .free "min") rfl)
  obtain ⟨d_primes_of, F_primes_of⟩ := d.def_ 0 (d := dd "primes_of" 4) rfl
  have g_primes_of : mg "primes_of" = some (.ref (He.ga K "primes_of")) := He.glo_ok X G (d.fact 0 (f := .glo "primes_of") rfl)
  obtain ⟨d_is_prime, F_is_prime⟩ := d.def_ 1 (d := dd "is_prime" 5) rfl
  have g_is_prime : mg "is_prime" = some (.ref (He.ga K "is_prime")) := He.glo_ok X G (d.fact 1 (f := .glo "is_prime") rfl)
  obtain ⟨d_with_one, F_with_one⟩ := d.def_ 2 (d := dd "with_one" 6) rfl
  have g_with_one : mg "with_one" = some (.ref (He.ga K "with_one")) := He.glo_ok X G (d.fact 2 (f := .glo "with_one") rfl)
  obtain ⟨d_without_one, F_without_one⟩ := d.def_ 3 (d := dd "without_one" 7) rfl
  have g_without_one : mg "without_one" = some (.ref (He.ga K "without_one")) := He.glo_ok X G (d.fact 3 (f := .glo "without_one") rfl)
  obtain ⟨d_products_of, F_products_of⟩ := d.def_ 4 (d := dd "products_of" 8) rfl
  have g_products_of : mg "products_of" = some (.ref (He.ga K "products_of")) := He.glo_ok X G (d.fact 4 (f := .glo "products_of") rfl)
  obtain ⟨d_polynomial_by, F_polynomial_by⟩ := d.def_ 5 (d := dd "polynomial_by" 9) rfl
  have g_polynomial_by : mg "polynomial_by" = some (.ref (He.ga K "polynomial_by")) := He.glo_ok X G (d.fact 5 (f := .glo "polynomial_by") rfl)
  obtain ⟨d_is_whole, F_is_whole⟩ := d.def_ 6 (d := dd "is_whole" 11) rfl
  have g_is_whole : mg "is_whole" = some (.ref (He.ga K "is_whole")) := He.glo_ok X G (d.fact 6 (f := .glo "is_whole") rfl)
  obtain ⟨d_is_from, F_is_from⟩ := d.def_ 7 (d := dd "is_from" 12) rfl
  have g_is_from : mg "is_from" = some (.ref (He.ga K "is_from")) := He.glo_ok X G (d.fact 7 (f := .glo "is_from") rfl)
  obtain ⟨d_is_order, F_is_order⟩ := d.def_ 8 (d := dd "is_order" 15) rfl
  have g_is_order : mg "is_order" = some (.ref (He.ga K "is_order")) := He.glo_ok X G (d.fact 8 (f := .glo "is_order") rfl)
  obtain ⟨d_check_order, F_check_order⟩ := d.def_ 9 (d := dd "check_order" 17) rfl
  have g_check_order : mg "check_order" = some (.ref (He.ga K "check_order")) := He.glo_ok X G (d.fact 9 (f := .glo "check_order") rfl)
  obtain ⟨d_polynomial, F_polynomial⟩ := d.def_ 10 (d := dd "polynomial" 18) rfl
  have g_polynomial : mg "polynomial" = some (.ref (He.ga K "polynomial")) := He.glo_ok X G (d.fact 10 (f := .glo "polynomial") rfl)
  obtain ⟨d_law_bowl, F_law_bowl⟩ := d.def_ 11 (d := dd "_law_bowl" 20) rfl
  have g_law_bowl : mg "_law_bowl" = some (.ref (He.ga K "_law_bowl")) := He.glo_ok X G (d.fact 11 (f := .glo "_law_bowl") rfl)
  obtain ⟨d_law_draw, F_law_draw⟩ := d.def_ 12 (d := dd "_law_draw" 21) rfl
  have g_law_draw : mg "_law_draw" = some (.ref (He.ga K "_law_draw")) := He.glo_ok X G (d.fact 12 (f := .glo "_law_draw") rfl)
  obtain ⟨d_law_of, F_law_of⟩ := d.def_ 13 (d := dd "_law_of" 22) rfl
  have g_law_of : mg "_law_of" = some (.ref (He.ga K "_law_of")) := He.glo_ok X G (d.fact 13 (f := .glo "_law_of") rfl)
  obtain ⟨d_law_same, F_law_same⟩ := d.def_ 14 (d := dd "_law_same" 23) rfl
  have g_law_same : mg "_law_same" = some (.ref (He.ga K "_law_same")) := He.glo_ok X G (d.fact 14 (f := .glo "_law_same") rfl)
  obtain ⟨d_law_gcd, F_law_gcd⟩ := d.def_ 15 (d := dd "_law_gcd" 24) rfl
  have g_law_gcd : mg "_law_gcd" = some (.ref (He.ga K "_law_gcd")) := He.glo_ok X G (d.fact 15 (f := .glo "_law_gcd") rfl)
  obtain ⟨d_law_primes, F_law_primes⟩ := d.def_ 16 (d := dd "_law_primes" 25) rfl
  have g_law_primes : mg "_law_primes" = some (.ref (He.ga K "_law_primes")) := He.glo_ok X G (d.fact 16 (f := .glo "_law_primes") rfl)
  obtain ⟨d_law_degree, F_law_degree⟩ := d.def_ 17 (d := dd "_law_degree" 26) rfl
  have g_law_degree : mg "_law_degree" = some (.ref (He.ga K "_law_degree")) := He.glo_ok X G (d.fact 17 (f := .glo "_law_degree") rfl)
  obtain ⟨d_law_polynomial, F_law_polynomial⟩ := d.def_ 18 (d := dd "_law_polynomial" 27) rfl
  have g_law_polynomial : mg "_law_polynomial" = some (.ref (He.ga K "_law_polynomial")) := He.glo_ok X G (d.fact 18 (f := .glo "_law_polynomial") rfl)
  obtain ⟨d_law_spread, F_law_spread⟩ := d.def_ 19 (d := dd "_law_spread" 28) rfl
  have g_law_spread : mg "_law_spread" = some (.ref (He.ga K "_law_spread")) := He.glo_ok X G (d.fact 19 (f := .glo "_law_spread") rfl)
  obtain ⟨d_law_divided, F_law_divided⟩ := d.def_ 20 (d := dd "_law_divided" 29) rfl
  have g_law_divided : mg "_law_divided" = some (.ref (He.ga K "_law_divided")) := He.glo_ok X G (d.fact 20 (f := .glo "_law_divided") rfl)
  obtain ⟨d_law_kept, F_law_kept⟩ := d.def_ 21 (d := dd "_law_kept" 30) rfl
  have g_law_kept : mg "_law_kept" = some (.ref (He.ga K "_law_kept")) := He.glo_ok X G (d.fact 21 (f := .glo "_law_kept") rfl)
  obtain ⟨d_law_product, F_law_product⟩ := d.def_ 22 (d := dd "_law_product" 31) rfl
  have g_law_product : mg "_law_product" = some (.ref (He.ga K "_law_product")) := He.glo_ok X G (d.fact 22 (f := .glo "_law_product") rfl)
  obtain ⟨d_law_right, F_law_right⟩ := d.def_ 23 (d := dd "_law_right" 32) rfl
  have g_law_right : mg "_law_right" = some (.ref (He.ga K "_law_right")) := He.glo_ok X G (d.fact 23 (f := .glo "_law_right") rfl)
  obtain ⟨d_law, F_law⟩ := d.def_ 24 (d := dd "law" 33) rfl
  have e := hfa.symm.trans (He.glo_ok X G (d.fact 24 (f := .glo "law") rfl))
  cases e
  have Fr := F_law_right
  obtain ⟨oc, od, dV, kV, doc, pm, an, cdv, ct, osl, rfl, lk, hcd, hD, hK⟩ := F_law_right.ex
  obtain ⟨cc, rfl⟩ := He.codeIn_ref hcd
  have ecc : He.codeOf K ("_law_right", none) = cc := He.codeOf_eq (p := ("_law_right", none)) lk rfl
  have hmem : (("_law_right", none) : He.Defn) ∈ tf := List.mem_singleton.mpr rfl
  have b := F_law.bindsA (ps := ["script"]) fun _ _ _ _ _ _ us hl => match us, hl with | [_], _ => rfl
  refine ⟨d_law, [He.cT K ("_law_right", none)], spLaw K [((He.cT K ("_law_right", none)).2, "_law_right.<locals>.<lambda>")], fun p hp => ?_, fun p hp => ?_, fun p hp => ?_, fun s u => b s [u] rfl, fun H a ns hl _ hH hS => ?_, fun base hKb hNs hT => ?_⟩
  · rw [List.mem_singleton.mp hp]; exact c.1.empty _ hmem
  · rw [List.mem_singleton.mp hp]; exact c.1.out _ hmem
  · rw [List.mem_singleton.mp hp]; exact PySem.W.codeHd_of_K X (c.1.hd _ hmem)
  · exact ⟨a, ns, rfl, hl, hS, fun q hq => by rw [List.mem_singleton.mp hq]; exact TabS.nil (hH _ (List.mem_singleton.mpr rfl)), fun _ => rfl⟩
  have TB : TabB base mg cc (He.cT K ("_law_right", none)).2 := by
    have z := hT _ (List.mem_singleton.mpr rfl)
    rw [show (He.cT K ("_law_right", none)).1 = cc from ecc] at z
    exact z
  have h_is_prime := ok_is_prime (P := PW) (w := w) (base := base) B F_is_prime g_is_prime
  have h_primes_of := ok_primes_of (P := PW) (w := w) (base := base) B F_primes_of g_primes_of h_is_prime
  have h_with_one := ok_with_one (P := PW) (w := w) (base := base) B F_with_one g_with_one
  have h_without_one := ok_without_one (P := PW) (w := w) (base := base) B F_without_one g_without_one
  have h_products_of := ok_products_of (P := PW) (w := w) (base := base) B F_products_of g_products_of
  have h_polynomial_by := ok_polynomial_by (P := PW) (w := w) (base := base) B F_polynomial_by g_polynomial_by h_primes_of h_products_of h_with_one h_without_one
  have h_law_primes := ok__law_primes (P := PW) (w := w) (base := base) B F_law_primes g_law_primes
  have h_law_spread := ok__law_spread (P := PW) (w := w) (base := base) B F_law_spread g_law_spread
  have h_law_divided := ok__law_divided (P := PW) (w := w) (base := base) B F_law_divided g_law_divided
  have h_law_product := ok__law_product (P := PW) (w := w) (base := base) B F_law_product g_law_product
  have h_law_same := ok__law_same (P := PW) (w := w) (base := base) B F_law_same g_law_same 5
  have h_law_gcd := ok__law_gcd (P := PW) (w := w) (base := base) B F_law_gcd g_law_gcd
  have h_law_degree := ok__law_degree (P := PW) (w := w) (base := base) B F_law_degree g_law_degree (h_law_gcd.imp gcd_imp)
  have h_law_polynomial := ok__law_polynomial (P := PW) (w := w) (base := base) B F_law_polynomial g_law_polynomial h_law_divided h_law_primes h_law_spread
  have h_is_whole := ok_is_whole (P := PW) (w := w) (base := base) B F_is_whole g_is_whole
  have h_is_from := ok_is_from (P := PW) (w := w) (base := base) B F_is_from g_is_from h_is_whole
  have h_is_order := ok_is_order (P := PW) (w := w) (base := base) B F_is_order g_is_order h_is_from
  have h_check_order := ok_check_order (P := PW) (w := w) (base := base) B F_check_order g_check_order h_is_order
  have h_polynomial := ok_polynomial (P := PW) (w := w) (base := base) B F_polynomial g_polynomial h_check_order h_polynomial_by
  have h_law_bowl := ok__law_bowl (P := PW) (w := w) (base := base) B F_law_bowl g_law_bowl
  have h_law_draw := ok__law_draw (P := PW) (w := w) (base := base) B F_law_draw g_law_draw
  have h_law_of := ok__law_of (P := PW) (w := w) (base := base) B F_law_of g_law_of h_law_draw
  have hk_polynomial := okk_polynomial (P := PW) (w := w) (base := base) B F_polynomial g_polynomial h_check_order h_polynomial_by
  have G4 := check_bad (w := w) (base := base) M F_check_order h_is_order
  have G5 := poly_bad F_polynomial F_check_order g_check_order G4
  have HY : Hyps PW w K mg base (cR K) (cI K) := ⟨B, h_law_degree, h_law_draw, h_law_of, h_law_polynomial, h_law_product, h_law_same, h_polynomial, hk_polynomial, E, ⟨_, _, F_polynomial, g_polynomial, G5⟩, ⟨_, _, F_law_kept, g_law_kept⟩⟩
  have GR := right_ok (T := [((He.cT K ("_law_right", none)).2, "_law_right.<locals>.<lambda>")]) HY Fr rfl TB (List.mem_singleton.mpr rfl) (fun p hp _ => by rw [List.mem_singleton.mp hp])
  exact law_ok HY hmin h_law_bowl Fr g_law_right GR F_law
end
end Hd
open PySem PySem.W PySem.Calls PyProof.Rows
theorem PySem.Challenge.cw_rollrings_k01_least_polynomials_of_order_holds : PySem.Challenge.rw_rollrings_k01_least_polynomials_of_order.Holds := by
  w_on; o_law
  refine HandSHeadRun.head_any (r := OpenLaw.row PySem.Challenge.rw_rollrings_k01_least_polynomials_of_order) (q := view (OpenLaw.row PySem.Challenge.rw_rollrings_k01_least_polynomials_of_order).prog [33]) (H := Hd.hk) (ob := Hd.ob) (M := 2000) (loose := ((["RollError", "InvalidTeeth", "MOST_ORDER"] : List PySem.Str) ++ Hd.names)) (d := HandSHeadRun.topDef (OpenLaw.row PySem.Challenge.rw_rollrings_k01_least_polynomials_of_order).prog 33) (kwd := []) Hd.ob_eq
    (by kernel_rfl) (fun s => by kernel_rfl) Hd.run (by kernel_rfl) (by kernel_rfl) (by kernel_rfl) (by rfl) (by first | assumption | decide +kernel) (by decide +kernel) ⟨rfl, rfl, rfl, rfl, rfl, by decide +kernel⟩ ?hw ?hc
  case hw => w_witness2
  case hc =>
    refine LamX.walk_ofTsE (l := PySem.Challenge.rw_rollrings_k01_least_polynomials_of_order) (n := 63) (k := 10) (x := "script") (CX := fun _ => L2.CX0) rfl (by decide) (by kernel_rfl) ⟨rfl, by decide, by decide⟩ ?F (fun _ _ _ _ _ z => z)
    intro w mg fa h Y G hmg0
    obtain ⟨K, KX, c⟩ := Y
    have hmg : mg ("law" : PySem.Str) = some (.ref fa) := by
      have e : (HandSHeadRun.topDef (OpenLaw.row PySem.Challenge.rw_rollrings_k01_least_polynomials_of_order).prog 33).name = ("law" : PySem.Str) := by kernel_rfl
      rw [← e]
      exact hmg0
    exact ⟨K, KX, Hd.facts KX G hmg c⟩

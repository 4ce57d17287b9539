import PyProof.Rows.All
import Wide.All
import OpenK.AllK
import Wide.FinOn
import HandS.ForMost
import HandS.Star
import HandS.TupMul
import HandS.TupAny
import HandS.HeadHook1
import HandS.Style
import HandS.IsInst
import HandS.More
import HandS.WideBits
import HandS.Exc
import HandS.Defaults
import HandS.WordsExc
import HandS.Zip
import KE.GoesMore
import KE.GoesEnum
import PyProof.CollectIter
import HandS.Gcd
import HandS.DictComp
import HandS.Conv
import HandS.TupSets
import HandS.Keys
import HandS.Deep
import PySem.Challenge.RW_rollrings_k16_sums_of_roots_over_squares
import HandS.Head0
import HandS.Head1
import HandS.Head2
import HandS.Head3
import HandS.HeadEnd
import HandS.HeadHook2
import HandS.HeadHook3
import HandS.HeadHook4
import HandS.HeadWalk
set_option Elab.async false
set_option linter.all false
set_option maxRecDepth 100000
set_option maxHeartbeats 0
/-! Sm1: values, small heaps, what they say of the layer's heap; readings by running -/
namespace Sm
open PySem PySem.Spec PyProof.Rows L2

/-- the own classes, their fields as __init__ stores them -/
def clsN : Nat → Str
  | 0 => "Field"
  | 1 => "Setup"
  | 2 => "Box"
  | 3 => "Powers"
  | 4 => "Case"
  | 5 => "Sheet"
  | 6 => "Desk"
  | _ => "Console"
def clsF : Nat → List Str
  | 0 => ["order", "polynomial", "degree"]
  | 1 => ["five"]
  | 2 => ["three"]
  | 3 => ["field", "rows"]
  | 4 => ["four"]
  | 5 => ["pairs"]
  | 6 => ["stood"]
  | _ => ["desk"]
/-- a value with its tuples within; ref n: the n-th list of the small heap; emp: an empty dict; mt: an empty list that stands apart; frz: a list of ints that nobody changes; lv: a list that nobody changes; obj: an instance of an own class that nobody changes; any: a value of which nothing is known -/
inductive W where
  | non | bl (b : Bool) | int (i : Int) | str (x : Str) | tup (ws : List W) | ref (n : Nat) | emp | mt | frz (zs : List Int) | lv (ws : List W) | obj (n : Nat) (ws : List W) | any
  deriving Inhabited
abbrev Sl := List (Option W)
/-- the small heap: its lists by number, in a tree -/
inductive Tr where
  | nil | nd (v : Option (List W)) (l r : Tr)
noncomputable def Tr.val (t : Tr) : Option (List W) := Tr.rec (motive := fun _ => Option (List W)) none (fun v _ _ _ _ => v) t
noncomputable def Tr.lf (t : Tr) : Tr := Tr.rec (motive := fun _ => Tr) .nil (fun _ l _ _ _ => l) t
noncomputable def Tr.rg (t : Tr) : Tr := Tr.rec (motive := fun _ => Tr) .nil (fun _ _ r _ _ => r) t
noncomputable def Tr.get (t : Tr) : Nat → Option (List W) := Tr.rec (motive := fun _ => Nat → Option (List W)) (fun _ => none) (fun v _ _ gl gr n => Nat.rec (motive := fun _ => Option (List W)) v (fun k _ => Bool.rec (motive := fun _ => Option (List W)) (gr (Nat.div k 2)) (gl (Nat.div k 2)) (Nat.beq (Nat.mod k 2) 0)) n) t
noncomputable def Tr.put (ws : List W) (f : Nat) : Tr → Nat → Tr := Nat.rec (motive := fun _ => Tr → Nat → Tr) (fun t _ => t) (fun _ p t n => Nat.rec (motive := fun _ => Tr) (.nd (some ws) t.lf t.rg) (fun k _ => Bool.rec (motive := fun _ => Tr) (.nd t.val t.lf (p t.rg (Nat.div k 2))) (.nd t.val (p t.lf (Nat.div k 2)) t.rg) (Nat.beq (Nat.mod k 2) 0)) n) f
theorem Tr.get_succ (t : Tr) (k : Nat) : t.get (k + 1) = match Nat.beq (Nat.mod k 2) 0 with | true => t.lf.get (Nat.div k 2) | false => t.rg.get (Nat.div k 2) := by
  cases t with
  | nil => cases h : Nat.beq (Nat.mod k 2) 0 <;> rfl
  | nd v l r =>
    show Bool.rec (motive := fun _ => Option (List W)) (r.get (Nat.div k 2)) (l.get (Nat.div k 2)) (Nat.beq (Nat.mod k 2) 0) = _
    cases h : Nat.beq (Nat.mod k 2) 0 <;> rfl
theorem Tr.put_succ (ws : List W) (f : Nat) (t : Tr) (k : Nat) : Tr.put ws (f + 1) t (k + 1) = match Nat.beq (Nat.mod k 2) 0 with | true => .nd t.val (Tr.put ws f t.lf (Nat.div k 2)) t.rg | false => .nd t.val t.lf (Tr.put ws f t.rg (Nat.div k 2)) := by
  show Bool.rec (motive := fun _ => Tr) (.nd t.val t.lf (Tr.put ws f t.rg (Nat.div k 2))) (.nd t.val (Tr.put ws f t.lf (Nat.div k 2)) t.rg) (Nat.beq (Nat.mod k 2) 0) = _
  cases h : Nat.beq (Nat.mod k 2) 0 <;> rfl
theorem Tr.get_put (ws : List W) : ∀ (f : Nat) (t : Tr) (n m : Nat), n < f → (Tr.put ws f t n).get m = if m = n then some ws else t.get m
  | 0, _, _, _, h => absurd h (Nat.not_lt_zero _)
  | f + 1, t, 0, 0, _ => rfl
  | f + 1, t, 0, m + 1, _ => by
    rw [if_neg (Nat.succ_ne_zero m), Tr.get_succ, Tr.get_succ]
    rfl
  | f + 1, t, n + 1, 0, _ => by
    rw [if_neg (Nat.succ_ne_zero n).symm, Tr.put_succ]
    have e : ∀ t : Tr, t.get 0 = t.val := by intro t; cases t <;> rfl
    rw [e, e]
    cases Nat.beq (Nat.mod n 2) 0 <;> rfl
  | f + 1, t, n + 1, m + 1, h => by
    have hd : Nat.div n 2 < f := Nat.lt_of_le_of_lt (Nat.div_le_self n 2) (by omega)
    have hn : n = 2 * (Nat.div n 2) + Nat.mod n 2 := (Nat.div_add_mod n 2).symm
    have hm : m = 2 * (Nat.div m 2) + Nat.mod m 2 := (Nat.div_add_mod m 2).symm
    have hn2 : Nat.mod n 2 < 2 := Nat.mod_lt n (by decide)
    have hm2 : Nat.mod m 2 < 2 := Nat.mod_lt m (by decide)
    rw [Tr.put_succ, Tr.get_succ, Tr.get_succ]
    cases en : Nat.beq (Nat.mod n 2) 0 <;> cases em : Nat.beq (Nat.mod m 2) 0
    · have hn0 : Nat.mod n 2 ≠ 0 := fun z => by rw [z] at en; exact absurd en (by decide)
      have hm0 : Nat.mod m 2 ≠ 0 := fun z => by rw [z] at em; exact absurd em (by decide)
      show (Tr.put ws f t.rg (Nat.div n 2)).get (Nat.div m 2) = _
      rw [Tr.get_put ws f _ _ _ hd]
      by_cases e : Nat.div m 2 = Nat.div n 2
      · rw [if_pos e, if_pos (by omega)]
      · rw [if_neg e, if_neg (fun z => e (by rw [Nat.succ.inj z]))]
    · have hn0 : Nat.mod n 2 ≠ 0 := fun z => by rw [z] at en; exact absurd en (by decide)
      have hm0 := Nat.eq_of_beq_eq_true em
      show t.lf.get (Nat.div m 2) = _
      rw [if_neg (fun z => hn0 (by rw [← Nat.succ.inj z]; exact hm0))]
    · have hn0 := Nat.eq_of_beq_eq_true en
      have hm0 : Nat.mod m 2 ≠ 0 := fun z => by rw [z] at em; exact absurd em (by decide)
      show t.rg.get (Nat.div m 2) = _
      rw [if_neg (fun z => hm0 (by rw [Nat.succ.inj z]; exact hn0))]
    · have hn0 := Nat.eq_of_beq_eq_true en
      have hm0 := Nat.eq_of_beq_eq_true em
      show (Tr.put ws f t.lf (Nat.div n 2)).get (Nat.div m 2) = _
      rw [Tr.get_put ws f _ _ _ hd]
      by_cases e : Nat.div m 2 = Nat.div n 2
      · rw [if_pos e, if_pos (by omega)]
      · rw [if_neg e, if_neg (fun z => e (by rw [Nat.succ.inj z]))]
structure Ch where
  length : Nat
  tr : Tr
noncomputable def Ch.get (c : Ch) (n : Nat) : Option (List W) := c.tr.get n
noncomputable def Ch.set (c : Ch) (n : Nat) (ws : List W) : Ch := ⟨c.length, Tr.put ws (n + 1) c.tr n⟩
noncomputable def Ch.push (c : Ch) (ws : List W) : Ch := ⟨c.length + 1, Tr.put ws (c.length + 1) c.tr c.length⟩
noncomputable def Ch.nil : Ch := ⟨0, .nil⟩
theorem Ch.get_set (c : Ch) (n : Nat) (ws : List W) (m : Nat) : (c.set n ws).get m = if m = n then some ws else c.get m := Tr.get_put ws (n + 1) c.tr n m (Nat.lt_succ_self n)
theorem Ch.get_push (c : Ch) (ws : List W) (m : Nat) : (c.push ws).get m = if m = c.length then some ws else c.get m := Tr.get_put ws (c.length + 1) c.tr c.length m (Nat.lt_succ_self _)
/-! lists, as the kernel runs them quickly -/
noncomputable def lenK (l : List W) : Nat := List.rec (motive := fun _ => Nat) 0 (fun _ _ ih => Nat.succ ih) l
theorem lenK_eq : ∀ l : List W, lenK l = l.length
  | [] => rfl
  | _ :: l => congrArg Nat.succ (lenK_eq l)
noncomputable def appK (l r : List W) : List W := List.rec (motive := fun _ => List W) r (fun a _ ih => a :: ih) l
theorem appK_eq (r : List W) : ∀ l : List W, appK l r = l ++ r
  | [] => rfl
  | a :: l => congrArg (a :: ·) (appK_eq r l)
noncomputable def getK {α : Type} (l : List α) : Nat → Option α := List.rec (motive := fun _ => Nat → Option α) (fun _ => none) (fun a _ ih n => Nat.rec (motive := fun _ => Option α) (some a) (fun k _ => ih k) n) l
theorem getK_eq {α : Type} : ∀ (l : List α) (n : Nat), getK l n = l[n]?
  | [], _ => rfl
  | _ :: _, 0 => rfl
  | _ :: l, n + 1 => (getK_eq l n).trans (List.getElem?_cons_succ).symm
noncomputable def setK {α : Type} (w : α) (l : List α) : Nat → List α := List.rec (motive := fun _ => Nat → List α) (fun _ => []) (fun a tl ih n => Nat.rec (motive := fun _ => List α) (w :: tl) (fun k _ => a :: ih k) n) l
theorem setK_eq {α : Type} (w : α) : ∀ (l : List α) (n : Nat), setK w l n = l.set n w
  | [], _ => rfl
  | _ :: _, 0 => rfl
  | a :: l, n + 1 => congrArg (a :: ·) (setK_eq w l n)
noncomputable def repK (l : List W) (n : Nat) : List W := Nat.rec (motive := fun _ => List W) [] (fun _ ih => appK l ih) n
theorem repK_eq (l : List W) : ∀ n : Nat, repK l n = (List.replicate n l).flatten
  | 0 => rfl
  | n + 1 => by
    rw [List.replicate_succ, List.flatten_cons, ← repK_eq l n, ← appK_eq]
    rfl
inductive R (α : Type) where
  | ok (a : α) (c : Ch) | no
inductive RS where
  | nx (ω : Sl) (c : Ch) | rt (w : W) (c : Ch) | bk (ω : Sl) (c : Ch) | ct (ω : Sl) (c : Ch) | no
abbrev Ev := Sl → Ch → R W
abbrev EvB := Sl → Ch → R Bool
abbrev EvA := Sl → Ch → R (List W)
abbrev EvS := Sl → Ch → RS
noncomputable def R.bind {α β : Type} (r : R α) (k : α → Ch → R β) : R β := match r with
  | .ok a c => k a c
  | .no => .no
noncomputable def R.run {α : Type} (r : R α) (k : α → Ch → RS) : RS := match r with
  | .ok a c => k a c
  | .no => .no

/-- a list that nobody changes here -/
def FrzAt (K : PySem.W.Frag) (ρ : List Addr) (H : Hp) (a : Addr) (vs : List V) : Prop := (H a = some (.lst vs) ∧ a ∉ ρ) ∨ (∃ o, H a = some (.frz o (.lst vs))) ∨
  ∃ (o : Obj) (its : Array Value) (n : Nat), K.lookup a = some o ∧ o.cls = .type "list" ∧ o.dict = none ∧ o.data = .seq its n ∧ its.size ≤ sizeLine ∧ Vals vs its.toList
theorem FrzAt.sqL {K : PySem.W.Frag} {ρ : List Addr} {H : Hp} {a : Addr} {vs : List V} (h : FrzAt K ρ H a vs) : SqL K H a vs := by
  rcases h with h | h | h
  · exact .inl (.inl h.1)
  · exact .inl (.inr h)
  · exact .inr h
theorem FrzAt.sub {K : PySem.W.Frag} {ρ ρ' : List Addr} {H : Hp} {a : Addr} {vs : List V} (h : FrzAt K ρ H a vs) (hs : ∀ x, x ∈ ρ' → x ∈ ρ) : FrzAt K ρ' H a vs := by
  rcases h with h | h | h
  · exact .inl ⟨h.1, fun z => h.2 (hs _ z)⟩
  · exact .inr (.inl h)
  · exact .inr (.inr h)
mutual
inductive Rp (K : PySem.W.Frag) (ρ : List Addr) (H : Hp) : W → V → Prop
  | non : Rp K ρ H .non .non
  | bl (b : Bool) : Rp K ρ H (.bl b) (.bl b)
  | int (i : Int) : Rp K ρ H (.int i) (.int i)
  | str (x : Str) : Rp K ρ H (.str x) (.str x)
  | tup {ws : List W} {vs : List V} {a : Addr} : SqT K H a vs → RpL K ρ H ws vs → Rp K ρ H (.tup ws) (.ref a)
  | ref {n : Nat} {a : Addr} : ρ[n]? = some a → Rp K ρ H (.ref n) (.ref a)
  | emp {a : Addr} : H a = some (.dK []) → Rp K ρ H .emp (.ref a)
  | mt {a : Addr} : H a = some (.lst []) → a ∉ ρ → Rp K ρ H .mt (.ref a)
  | frz {a : Addr} {zs : List Int} : FrzAt K ρ H a (zs.map V.int) → Rp K ρ H (.frz zs) (.ref a)
  | lv {a : Addr} {ws : List W} {vs : List V} : H a = some (.lst vs) → a ∉ ρ → RpL K ρ H ws vs → Rp K ρ H (.lv ws) (.ref a)
  | obj {a dx : Addr} {n : Nat} {ws : List W} {vs : List V} : H a = some (.ins (He.ga K (clsN n)) dx ((clsF n).zip vs)) → vs.length = (clsF n).length → RpL K ρ H ws vs → Rp K ρ H (.obj n ws) (.ref a)
  | any {v : V} : Rp K ρ H .any v
inductive RpL (K : PySem.W.Frag) (ρ : List Addr) (H : Hp) : List W → List V → Prop
  | nil : RpL K ρ H [] []
  | cons {w : W} {ws : List W} {v : V} {vs : List V} : Rp K ρ H w v → RpL K ρ H ws vs → RpL K ρ H (w :: ws) (v :: vs)
end
inductive RelS (K : PySem.W.Frag) (ρ : List Addr) (H : Hp) : Sl → L2.St → Prop
  | nil : RelS K ρ H [] []
  | free {ω : Sl} {x : Option V} {σ : L2.St} : RelS K ρ H ω σ → RelS K ρ H (none :: ω) (x :: σ)
  | cons {w : W} {ω : Sl} {v : V} {σ : L2.St} : Rp K ρ H w v → RelS K ρ H ω σ → RelS K ρ H (some w :: ω) (some v :: σ)
structure RelH (K : PySem.W.Frag) (ρ : List Addr) (H : Hp) (c : Ch) : Prop where
  len : ρ.length = c.length
  nd : ρ.Nodup
  mem : ∀ a, a ∈ ρ → ∃ vs, H a = some (.lst vs)
  at_ : ∀ (n : Nat) (ws : List W), (c.get n) = some ws → ∃ a vs, ρ[n]? = some a ∧ H a = some (.lst vs) ∧ RpL K ρ H ws vs
/-- what a run leaves: the addresses more, all else as it was -/
structure Post (ρ : List Addr) (H : Hp) (ρ' : List Addr) (H' : Hp) : Prop where
  more : ∃ m, ρ' = ρ ++ m ∧ ∀ a ∈ m, H a = none
  keep : ∀ a o, H a = some o → a ∉ ρ → H' a = some o
  dom : ∀ a, H' a = none → H a = none
theorem Post.refl {ρ : List Addr} {H : Hp} : Post ρ H ρ H := ⟨⟨[], by simp, by simp⟩, fun _ _ h _ => h, fun _ h => h⟩
theorem Post.trans {ρ ρ1 ρ2 : List Addr} {H H1 H2 : Hp} (p : Post ρ H ρ1 H1) (q : Post ρ1 H1 ρ2 H2) : Post ρ H ρ2 H2 := by
  obtain ⟨m, rfl, hm⟩ := p.more
  obtain ⟨m', rfl, hm'⟩ := q.more
  refine ⟨⟨m ++ m', by rw [List.append_assoc], fun a ha => ?_⟩, fun a o h hn => ?_, fun a h => p.dom a (q.dom a h)⟩
  · rcases List.mem_append.mp ha with z | z
    · exact hm a z
    · exact p.dom a (hm' a z)
  · refine q.keep a o (p.keep a o h hn) fun z => ?_
    rcases List.mem_append.mp z with z | z
    · exact hn z
    · rw [hm a z] at h
      cases h
theorem Post.get {ρ ρ' : List Addr} {H H' : Hp} (p : Post ρ H ρ' H') {n : Nat} {a : Addr} (h : ρ[n]? = some a) : ρ'[n]? = some a := by
  obtain ⟨m, rfl, _⟩ := p.more
  exact (List.getElem?_append_left (List.getElem?_eq_some_iff.mp h).1).trans h
section
variable {K : PySem.W.Frag} {ρ ρ' : List Addr} {H H' : Hp} {c : Ch}
theorem RelH.sqT (r : RelH K ρ H c) (p : Post ρ H ρ' H') {a : Addr} {vs : List V} (h : SqT K H a vs) : SqT K H' a vs := by
  rcases h with (h | ⟨o, h⟩) | h
  · exact .inl (.inl (p.keep _ _ h fun z => by
      obtain ⟨us, e⟩ := r.mem _ z
      rw [h] at e
      cases e))
  · exact .inl (.inr ⟨o, p.keep _ _ h fun z => by
      obtain ⟨us, e⟩ := r.mem _ z
      rw [h] at e
      cases e⟩)
  · exact .inr h
theorem not_more (p : Post ρ H ρ' H') {a : Addr} {o : HO} (h : H a = some o) (hn : a ∉ ρ) : a ∉ ρ' := by
  obtain ⟨m, e, hm⟩ := p.more
  rw [e]
  intro z
  rcases List.mem_append.mp z with z | z
  · exact hn z
  · rw [hm _ z] at h
    cases h
theorem FrzAt.post (r : RelH K ρ H c) (p : Post ρ H ρ' H') {a : Addr} {vs : List V} (h : FrzAt K ρ H a vs) : FrzAt K ρ' H' a vs := by
  rcases h with h | ⟨o, h⟩ | h
  · exact .inl ⟨p.keep _ _ h.1 h.2, not_more p h.1 h.2⟩
  · exact .inr (.inl ⟨o, p.keep _ _ h fun z => by
      obtain ⟨us, e⟩ := r.mem _ z
      rw [h] at e
      cases e⟩)
  · exact .inr (.inr h)
mutual
theorem Rp.mono (r : RelH K ρ H c) (p : Post ρ H ρ' H') : ∀ {w : W} {v : V}, Rp K ρ H w v → Rp K ρ' H' w v
  | _, _, .non => .non
  | _, _, .bl b => .bl b
  | _, _, .int i => .int i
  | _, _, .str x => .str x
  | _, _, .tup s l => .tup (r.sqT p s) (RpL.mono r p l)
  | _, _, .ref h => .ref (p.get h)
  | _, _, .emp h => .emp (p.keep _ _ h fun z => by
    obtain ⟨us, e⟩ := r.mem _ z
    rw [h] at e
    cases e)
  | _, _, .frz h => .frz (h.post r p)
  | _, _, .lv h hn l => .lv (p.keep _ _ h hn) (not_more p h hn) (RpL.mono r p l)
  | _, _, .obj h hl l => .obj (p.keep _ _ h fun z => by
    obtain ⟨us, e⟩ := r.mem _ z
    rw [h] at e
    cases e) hl (RpL.mono r p l)
  | _, _, .any => .any
  | _, _, .mt h hn => .mt (p.keep _ _ h hn) (by
    obtain ⟨m, e, hm⟩ := p.more
    rw [e]
    intro z
    rcases List.mem_append.mp z with z | z
    · exact hn z
    · rw [hm _ z] at h
      cases h)
theorem RpL.mono (r : RelH K ρ H c) (p : Post ρ H ρ' H') : ∀ {ws : List W} {vs : List V}, RpL K ρ H ws vs → RpL K ρ' H' ws vs
  | _, _, .nil => .nil
  | _, _, .cons h t => .cons (Rp.mono r p h) (RpL.mono r p t)
end
theorem RelS.mono (r : RelH K ρ H c) (p : Post ρ H ρ' H') : ∀ {ω : Sl} {σ : L2.St}, RelS K ρ H ω σ → RelS K ρ' H' ω σ
  | _, _, .nil => .nil
  | _, _, .free t => .free (RelS.mono r p t)
  | _, _, .cons h t => .cons (h.mono r p) (RelS.mono r p t)
theorem RelS.get : ∀ {ω : Sl} {σ : L2.St} {i : Nat} {w : W}, RelS K ρ H ω σ → ω[i]? = some (some w) → ∃ v, σ[i]? = some (some v) ∧ Rp K ρ H w v
  | _, _, _, _, .nil, h => by simp at h
  | _, _, 0, _, .free _, h => by simp at h
  | _, _, 0, _, .cons r _, h => by
    simp at h
    subst h
    exact ⟨_, rfl, r⟩
  | _, _, i + 1, _, .free t, h => by
    obtain ⟨v, e, r⟩ := RelS.get (i := i) t (by simpa using h)
    exact ⟨v, by simpa using e, r⟩
  | _, _, i + 1, _, .cons _ t, h => by
    obtain ⟨v, e, r⟩ := RelS.get (i := i) t (by simpa using h)
    exact ⟨v, by simpa using e, r⟩
theorem RelS.set {w : W} {v : V} (q : Rp K ρ H w v) : ∀ {ω : Sl} {σ : L2.St} (i : Nat), RelS K ρ H ω σ → RelS K ρ H (ω.set i (some w)) (σ.set i (some v))
  | _, _, _, .nil => .nil
  | _, _, 0, .free t => .cons q t
  | _, _, 0, .cons _ t => .cons q t
  | _, _, i + 1, .free t => .free (RelS.set q i t)
  | _, _, i + 1, .cons r t => .cons r (RelS.set q i t)
theorem RelS.unset : ∀ {ω : Sl} {σ : L2.St} (i : Nat) (x : Option V), RelS K ρ H ω σ → RelS K ρ H (ω.set i none) (σ.set i x)
  | _, _, _, _, .nil => .nil
  | _, _, 0, _, .free t => .free t
  | _, _, 0, _, .cons _ t => .free t
  | _, _, i + 1, x, .free t => .free (RelS.unset i x t)
  | _, _, i + 1, x, .cons r t => .cons r (RelS.unset i x t)
theorem RelS.setK {w : W} {v : V} (q : Rp K ρ H w v) {ω : Sl} {σ : L2.St} (i : Nat) (r : RelS K ρ H ω σ) : RelS K ρ H (Sm.setK (some w) ω i) (σ.set i (some v)) := by
  rw [setK_eq]
  exact r.set q i
theorem RelS.unsetK {ω : Sl} {σ : L2.St} (i : Nat) (x : Option V) (r : RelS K ρ H ω σ) : RelS K ρ H (Sm.setK none ω i) (σ.set i x) := by
  rw [setK_eq]
  exact r.unset i x
theorem RpL.length : ∀ {ws : List W} {vs : List V}, RpL K ρ H ws vs → ws.length = vs.length
  | _, _, .nil => rfl
  | _, _, .cons _ t => congrArg (· + 1) (RpL.length t)
theorem RpL.get : ∀ {ws : List W} {vs : List V} {i : Nat} {w : W}, RpL K ρ H ws vs → ws[i]? = some w → ∃ v, vs[i]? = some v ∧ Rp K ρ H w v
  | _, _, _, _, .nil, h => by simp at h
  | _, _, 0, _, .cons r _, h => by
    simp at h
    subst h
    exact ⟨_, rfl, r⟩
  | _, _, i + 1, _, .cons _ t, h => by
    obtain ⟨v, e, r⟩ := RpL.get (i := i) t (by simpa using h)
    exact ⟨v, by simpa using e, r⟩
theorem RpL.append : ∀ {ws us : List W} {vs zs : List V}, RpL K ρ H ws vs → RpL K ρ H us zs → RpL K ρ H (ws ++ us) (vs ++ zs)
  | _, _, _, _, .nil, s => s
  | _, _, _, _, .cons r t, s => .cons r (RpL.append t s)
theorem RpL.set {w : W} {v : V} (q : Rp K ρ H w v) : ∀ {ws : List W} {vs : List V} (i : Nat), RpL K ρ H ws vs → RpL K ρ H (ws.set i w) (vs.set i v)
  | _, _, _, .nil => .nil
  | _, _, 0, .cons _ t => .cons q t
  | _, _, i + 1, .cons r t => .cons r (RpL.set q i t)
theorem RpL.take : ∀ {ws : List W} {vs : List V} (n : Nat), RpL K ρ H ws vs → RpL K ρ H (ws.take n) (vs.take n)
  | _, _, 0, _ => .nil
  | _, _, _ + 1, .nil => .nil
  | _, _, n + 1, .cons r t => .cons r (RpL.take n t)
theorem RpL.drop : ∀ {ws : List W} {vs : List V} (n : Nat), RpL K ρ H ws vs → RpL K ρ H (ws.drop n) (vs.drop n)
  | _, _, 0, r => r
  | _, _, _ + 1, .nil => .nil
  | _, _, n + 1, .cons _ t => RpL.drop n t
theorem RpL.rep {ws : List W} {vs : List V} (r : RpL K ρ H ws vs) : ∀ n : Nat, RpL K ρ H (List.replicate n ws).flatten (List.replicate n vs).flatten
  | 0 => .nil
  | n + 1 => by
    rw [List.replicate_succ, List.replicate_succ, List.flatten_cons, List.flatten_cons]
    exact r.append (RpL.rep r n)
/-- one address more -/
theorem post_new {p : Addr} {o : HO} (h : H p = none) : Post ρ H (ρ ++ [p]) (upd H p o) :=
  ⟨⟨[p], rfl, fun a ha => by rw [List.mem_singleton.mp ha]; exact h⟩, fun a u e _ => by rw [upd_ne (ne_of_none e h)]; exact e, fun a e => by
    by_cases ha : a = p
    · rw [ha]
      exact h
    · rwa [upd_ne ha] at e⟩
/-- a new object that the small heap does not hold -/
theorem post_out {p : Addr} {o : HO} (h : H p = none) : Post ρ H ρ (upd H p o) :=
  ⟨⟨[], by simp, by simp⟩, fun a u e _ => by rw [upd_ne (ne_of_none e h)]; exact e, fun a e => by
    by_cases ha : a = p
    · rw [ha]
      exact h
    · rwa [upd_ne ha] at e⟩
theorem post_set {p : Addr} {o u : HO} (h : H p = some u) (hp : p ∈ ρ) : Post ρ H ρ (upd H p o) :=
  ⟨⟨[], by simp, by simp⟩, fun a u e hn => by rw [upd_ne (fun z => hn (by rw [z]; exact hp))]; exact e, fun a e => by
    by_cases ha : a = p
    · rw [ha, upd_same] at e
      cases e
    · rwa [upd_ne ha] at e⟩
theorem RelH.out (r : RelH K ρ H c) {p : Addr} {o : HO} (h : H p = none) : RelH K ρ (upd H p o) c :=
  ⟨r.len, r.nd, fun a ha => by
    obtain ⟨vs, e⟩ := r.mem a ha
    exact ⟨vs, by rw [upd_ne (ne_of_none e h)]; exact e⟩, fun n ws e => by
    obtain ⟨a, vs, e1, e2, e3⟩ := r.at_ n ws e
    exact ⟨a, vs, e1, by rw [upd_ne (ne_of_none e2 h)]; exact e2, e3.mono r (post_out h)⟩⟩
theorem RelH.new (r : RelH K ρ H c) {p : Addr} {ws : List W} {vs : List V} (h : H p = none) (q : RpL K ρ H ws vs) : RelH K (ρ ++ [p]) (upd H p (.lst vs)) (c.push ws) := by
  have po : Post ρ H (ρ ++ [p]) (upd H p (.lst vs)) := post_new h
  refine ⟨by simp [r.len, Ch.push], ?_, fun a ha => ?_, fun n us e => ?_⟩
  · refine List.nodup_append.mpr ⟨r.nd, by simp, fun a ha b hb => ?_⟩
    rw [List.mem_singleton.mp hb]
    intro z
    obtain ⟨xs, e⟩ := r.mem _ ha
    rw [z, h] at e
    cases e
  · rcases List.mem_append.mp ha with z | z
    · obtain ⟨xs, e⟩ := r.mem _ z
      exact ⟨xs, by rw [upd_ne (ne_of_none e h)]; exact e⟩
    · rw [List.mem_singleton.mp z]
      exact ⟨vs, upd_same⟩
  · rw [Ch.get_push] at e
    by_cases hn : n = c.length
    · rw [if_pos hn] at e
      cases e
      exact ⟨p, vs, by rw [hn, ← r.len, List.getElem?_append_right (Nat.le_refl _)]; simp, upd_same, q.mono r po⟩
    · rw [if_neg hn] at e
      obtain ⟨a, xs, e1, e2, e3⟩ := r.at_ n us e
      exact ⟨a, xs, po.get e1, by rw [upd_ne (ne_of_none e2 h)]; exact e2, e3.mono r po⟩
theorem RelH.inj (r : RelH K ρ H c) {n m : Nat} {a : Addr} (h1 : ρ[n]? = some a) (h2 : ρ[m]? = some a) : n = m := by
  have l1 := (List.getElem?_eq_some_iff.mp h1).1
  exact (List.getElem?_inj l1 r.nd).mp (h1.trans h2.symm)
theorem RelH.put (r : RelH K ρ H c) {n : Nat} {a : Addr} {ws : List W} {vs : List V} (h : ρ[n]? = some a) (q : RpL K ρ H ws vs) : RelH K ρ (upd H a (.lst vs)) (c.set n ws) := by
  have hm : a ∈ ρ := List.mem_of_getElem? h
  obtain ⟨us, eu⟩ := r.mem _ hm
  have po : Post ρ H ρ (upd H a (.lst vs)) := post_set eu hm
  refine ⟨r.len, r.nd, fun b hb => ?_, fun m xs e => ?_⟩
  · by_cases z : b = a
    · rw [z]
      exact ⟨vs, upd_same⟩
    · rw [upd_ne z]
      exact r.mem _ hb
  rw [Ch.get_set] at e
  by_cases hn : m = n
  · rw [if_pos hn] at e
    cases e
    exact ⟨a, vs, by rw [hn]; exact h, upd_same, q.mono r po⟩
  · rw [if_neg hn] at e
    obtain ⟨b, zs, e1, e2, e3⟩ := r.at_ m xs e
    exact ⟨b, zs, e1, by rw [upd_ne (fun (z : b = a) => hn (r.inj (by rw [← z]; exact e1) h))]; exact e2, e3.mono r po⟩
theorem RelH.lst (r : RelH K ρ H c) {n : Nat} {ws : List W} {v : V} (h : Rp K ρ H (.ref n) v) (e : (c.get n) = some ws) : ∃ a vs, v = .ref a ∧ ρ[n]? = some a ∧ H a = some (.lst vs) ∧ RpL K ρ H ws vs := by
  cases h with
  | ref h =>
    obtain ⟨b, vs, e1, e2, e3⟩ := r.at_ n ws e
    rw [h] at e1
    cases e1
    exact ⟨_, vs, rfl, h, e2, e3⟩
end
end Sm
/-! Sm2: readings by running; names, constants, operators, comparisons, tests, displays -/
namespace Sm
open PySem PySem.Spec PyProof.Rows L2

abbrev Rel (α β : Type) := List Addr → Hp → α → β → Prop
noncomputable def Got {α β : Type} (K : PySem.W.Frag) (rel : Rel α β) (r : R α) (ρ : List Addr) (H : Hp) (Q : β → Hp → Prop) : Prop := match r with
  | .ok a c => ∀ b H' ρ', Post ρ H ρ' H' → RelH K ρ' H' c → rel ρ' H' a b → Q b H'
  | .no => False
noncomputable def GotS (K : PySem.W.Frag) (r : RS) (ρ : List Addr) (H : Hp) (D : Ends) : Prop := match r with
  | .nx ω c => ∀ σ H' ρ', Post ρ H ρ' H' → RelH K ρ' H' c → RelS K ρ' H' ω σ → D.nx σ H'
  | .rt w c => ∀ v H' ρ', Post ρ H ρ' H' → RelH K ρ' H' c → Rp K ρ' H' w v → D.rt v H'
  | .bk ω c => ∀ σ H' ρ', Post ρ H ρ' H' → RelH K ρ' H' c → RelS K ρ' H' ω σ → D.bk σ H'
  | .ct ω c => ∀ σ H' ρ', Post ρ H ρ' H' → RelH K ρ' H' c → RelS K ρ' H' ω σ → D.ct σ H'
  | .no => False
abbrev relB : Rel Bool Bool := fun _ _ a b => a = b
noncomputable def tG {α β : Type} (K : PySem.W.Frag) (rel : Rel α β) (e : Sl → Ch → R α) : L2.St → Hp → (β → Hp → Prop) → Prop := fun σ H Q => ∃ ρ ω c, RelH K ρ H c ∧ RelS K ρ H ω σ ∧ Got K rel (e ω c) ρ H Q
abbrev tV (K : PySem.W.Frag) (e : Ev) : TE := tG K (Rp K) e
abbrev tW (K : PySem.W.Frag) (e : EvB) : TT := tG K relB e
abbrev tU (K : PySem.W.Frag) (e : EvA) : TA := tG K (RpL K) e
noncomputable def tX (K : PySem.W.Frag) (s : EvS) : TS := fun D σ H => ∃ ρ ω c, RelH K ρ H c ∧ RelS K ρ H ω σ ∧ GotS K (s ω c) ρ H D
section
variable {α β γ δ : Type} {K : PySem.W.Frag} {ρ ρ1 : List Addr} {H H1 : Hp} {c : Ch}
theorem Got.bind {rel : Rel γ δ} {r : R α} {k : α → Ch → R γ} {Q : δ → Hp → Prop} (h : Got K rel (r.bind k) ρ H Q) : ∃ a c1, r = .ok a c1 ∧ Got K rel (k a c1) ρ H Q := by
  cases r with
  | ok a c1 => exact ⟨a, c1, rfl, h⟩
  | no => exact h.elim
theorem GotS.run {r : R α} {k : α → Ch → RS} {D : Ends} (h : GotS K (r.run k) ρ H D) : ∃ a c1, r = .ok a c1 ∧ GotS K (k a c1) ρ H D := by
  cases r with
  | ok a c1 => exact ⟨a, c1, rfl, h⟩
  | no => exact h.elim
theorem Got.after {rel : Rel α β} {r : R α} {Q : β → Hp → Prop} (h : Got K rel r ρ H Q) (p : Post ρ H ρ1 H1) : Got K rel r ρ1 H1 Q := by
  cases r with
  | ok a c1 => exact fun b H' ρ' q => h b H' ρ' (p.trans q)
  | no => exact h.elim
theorem GotS.after {r : RS} {D : Ends} (h : GotS K r ρ H D) (p : Post ρ H ρ1 H1) : GotS K r ρ1 H1 D := by
  cases r with
  | nx ω c => exact fun b H' ρ' q => h b H' ρ' (p.trans q)
  | rt w c => exact fun b H' ρ' q => h b H' ρ' (p.trans q)
  | bk ω c => exact fun b H' ρ' q => h b H' ρ' (p.trans q)
  | ct ω c => exact fun b H' ρ' q => h b H' ρ' (p.trans q)
  | no => exact h.elim
theorem tG_in {rel : Rel α β} {e : Sl → Ch → R α} {ω : Sl} {σ : L2.St} {a : α} {c1 : Ch} {Q : β → Hp → Prop} (hr : RelH K ρ H c) (hs : RelS K ρ H ω σ) (he : e ω c = .ok a c1)
    (k : ∀ b H1 ρ1, Post ρ H ρ1 H1 → RelH K ρ1 H1 c1 → RelS K ρ1 H1 ω σ → rel ρ1 H1 a b → Q b H1) : tG K rel e σ H Q := by
  refine ⟨ρ, ω, c, hr, hs, ?_⟩
  rw [he]
  exact fun b H' ρ' p r q => k b H' ρ' p r (hs.mono hr p) q
theorem tG_imp {rel : Rel α β} {e : Sl → Ch → R α} {σ : L2.St} {Q Q' : β → Hp → Prop} (h : tG K rel e σ H Q) (i : ∀ b H, Q b H → Q' b H) : tG K rel e σ H Q' := by
  obtain ⟨ρ, ω, c, hr, hs, g⟩ := h
  refine ⟨ρ, ω, c, hr, hs, ?_⟩
  cases he : e ω c with
  | ok a c1 =>
    rw [he] at g
    exact fun b H' ρ' p r q => i _ _ (g b H' ρ' p r q)
  | no =>
    rw [he] at g
    exact g.elim
end
theorem pe_imp {X : Cx} {e : Expr} {t t' : TE} (h : PE X e t) (i : ∀ σ H Q, t' σ H Q → t σ H Q) : PE X e t' := ⟨fun pins s σ H Q I q => h.run pins s σ H Q I (i σ H Q q)⟩
theorem pt_imp {X : Cx} {e : Expr} {t t' : TT} (h : PT X e t) (i : ∀ σ H Q, t' σ H Q → t σ H Q) : PT X e t' := ⟨fun pins s σ H Q I q => h.run pins s σ H Q I (i σ H Q q)⟩
theorem pw_imp {X : Cx} {e : Expr} {t t' : TT} (h : PW X e t) (i : ∀ σ H Q, t' σ H Q → t σ H Q) : PW X e t' := ⟨fun w pins s σ H Q I q => h.run w pins s σ H Q I (i σ H Q q)⟩
theorem pa_imp {X : Cx} {e : List Expr} {t t' : TA} (h : PA X e t) (i : ∀ σ H Q, t' σ H Q → t σ H Q) : PA X e t' := ⟨fun p pins s σ H Q I q => h.run p pins s σ H Q I (i σ H Q q)⟩
theorem ps_imp {X : Cx} {e : Stmt} {t t' : TS} (h : PS X e t) (i : ∀ D σ H, t' D σ H → t D σ H) : PS X e t' := ⟨fun pins s σ H Q I q => h.run pins s σ H Q I (i Q σ H q)⟩
theorem pss_imp {X : Cx} {e : List Stmt} {t t' : TS} (h : PSs X e t) (i : ∀ D σ H, t' D σ H → t D σ H) : PSs X e t' := ⟨fun pins s σ H Q I q => h.run pins s σ H Q I (i Q σ H q)⟩
theorem pg_imp {X : Cx} {e : Expr} {t t' : TG} (h : PG X e t) (i : ∀ v σ H Q, t' v σ H Q → t v σ H Q) : PG X e t' := ⟨fun pins s σ H v u Q I r q => h.run pins s σ H v u Q I r (i v σ H Q q)⟩
theorem pi_imp {X : Cx} {tg e : Expr} {t t' : TI} (h : PI X tg e t) (i : ∀ σ H R, t' σ H R → t σ H R) : PI X tg e t' := ⟨fun pins s σ H R I q => h.run pins s σ H R I (i σ H R q)⟩
noncomputable def rOr (r r' : R2) : R2 := fun x y H Q => r x y H Q ∨ r' x y H Q
theorem opr_or {X : Cx} {f : Value → Value → Sem Value} {r r' : R2} (h : OpR X f r) (h' : OpR X f r') : OpR X f (rOr r r') := fun pins s σ H x y v u Q I rx ry q => by
  rcases q with q | q
  · exact h pins s σ H x y v u Q I rx ry q
  · exact h' pins s σ H x y v u Q I rx ry q

/-! ### names, constants -/
noncomputable def eVar (i : Nat) : Ev := fun ω c => match getK ω i with
  | some (some w) => .ok w c
  | _ => .no
noncomputable def eC (w : W) : Ev := fun _ c => .ok w c
section
variable {X : Cx} {pos : Pos}
theorem q_var {i : Nat} {x : Str} (h : PE X (.Name x pos) (tVar i)) : PE X (.Name x pos) (tV X.K (eVar i)) := pe_imp h fun σ H Q g => by
  obtain ⟨ρ, ω, c, hr, hs, g⟩ := g
  unfold eVar at g
  rw [getK_eq] at g
  cases e : ω[i]? with
  | none => rw [e] at g; exact g.elim
  | some o =>
    rw [e] at g
    cases o with
    | none => exact g.elim
    | some w =>
      obtain ⟨v, hv, r⟩ := hs.get e
      exact ⟨v, hv, g v H ρ Post.refl hr r⟩
theorem q_v (i : Nat) {x : Str} (hN : X.N[i]? = some x := by rfl) (hv : Vis X.env.scope x := by first | exact Or.inl rfl | exact Or.inr (Or.inl rfl) | exact Or.inr (Or.inr rfl)) (hd : (x == ("__debug__" : Str)) = false := by decide)
    (hcd : (x == ("__classdict__" : Str)) = false := by decide) : PE X (.Name x pos) (tV X.K (eVar i)) := q_var (pe_var hN hv hd hcd)
theorem q_tC {e : Expr} {w : W} {v : V} (h : PE X e (tC v)) (r : ∀ ρ H, Rp X.K ρ H w v) : PE X e (tV X.K (eC w)) := pe_imp h fun σ H Q ⟨ρ, ω, c, hr, hs, g⟩ => g v H ρ Post.refl hr (r ρ H)
theorem q_int {i j} : PE X (.Constant (.int i) j pos) (tV X.K (eC (.int i))) := q_tC pe_int fun _ _ => .int i
theorem q_bl {i j} : PE X (.Constant (.bool i) j pos) (tV X.K (eC (.bl i))) := q_tC pe_bl fun _ _ => .bl i
theorem q_non {j} : PE X (.Constant .none j pos) (tV X.K (eC .non)) := q_tC pe_non fun _ _ => .non
theorem q_str {i j} : PE X (.Constant (.str i) j pos) (tV X.K (eC (.str i))) := q_tC pe_str fun _ _ => .str i
/-- a module's constant -/
theorem q_glob {x : Str} {w : W} {v : V} {u : Value} (hg : Gl X x) (hm : X.mg x = some u) (r : RelV v u) (h : ∀ ρ H, Rp X.K ρ H w v) (hd : (x == ("__debug__" : Str)) = false := by decide) : PE X (.Name x pos) (tV X.K (eC w)) := q_tC (pe_glob hg hm r hd) h
end

/-! ### operators -/
abbrev F2 := W → W → Ch → R W
noncomputable def eBin (f : F2) (a b : Ev) : Ev := fun ω c => (a ω c).bind fun x c1 => (b ω c1).bind fun y c2 => f x y c2
noncomputable def Ok2 (K : PySem.W.Frag) (r : R2) (f : F2) : Prop := ∀ (ρ : List Addr) (H : Hp) (c : Ch) (x y : W) (v u : V) (Q : VK), RelH K ρ H c → Rp K ρ H x v → Rp K ρ H y u → Got K (Rp K) (f x y c) ρ H Q → r v u H Q
theorem ok_or {K : PySem.W.Frag} {r r' : R2} {f g : F2} (h : Ok2 K r f) (h' : Ok2 K r' g) : Ok2 K (rOr r r') (fun x y c => match f x y c with | .ok w c' => .ok w c' | .no => g x y c) := by
  intro ρ H c x y v u Q hr rx ry q
  cases e : f x y c with
  | ok w c' =>
    simp only [e] at q
    exact .inl (h ρ H c x y v u Q hr rx ry (by rw [e]; exact q))
  | no =>
    simp only [e] at q
    exact .inr (h' ρ H c x y v u Q hr rx ry q)
section
variable {X : Cx} {pos : Pos} {a b d : Expr} {ea eb ed : Ev} {r r' : R2} {f f' : F2}
theorem tV_op (ok : Ok2 X.K r f) {σ : L2.St} {H : Hp} {Q : VK} (h : tV X.K (eBin f ea eb) σ H Q) : tOp r (tV X.K ea) (tV X.K eb) σ H Q := by
  obtain ⟨ρ, ω, c, hr, hs, g⟩ := h
  obtain ⟨x, c1, e1, g⟩ := Got.bind g
  refine tG_in hr hs e1 fun v H1 ρ1 p1 hr1 hs1 rx => ?_
  obtain ⟨y, c2, e2, g⟩ := Got.bind g
  refine tG_in hr1 hs1 e2 fun u H2 ρ2 p2 hr2 hs2 ry => ?_
  exact ok ρ2 H2 c2 x y v u Q hr2 (rx.mono hr1 p2) ry (g.after (p1.trans p2))
theorem q_bin {op : Operator} (ho : OpR X (binaryOp op) r) (ok : Ok2 X.K r f) (ha : PE X a (tV X.K ea)) (hb : PE X b (tV X.K eb)) : PE X (.BinOp a op b pos) (tV X.K (eBin f ea eb)) :=
  pe_imp (pe_op ho ha hb) fun _ _ _ h => tV_op ok h
theorem q_cmp {op : CmpOp} (ho : OpR X (compareOp op) r) (ok : Ok2 X.K r f) (ha : PE X a (tV X.K ea)) (hb : PE X b (tV X.K eb)) (hm : behindInMarks op b = false) : PE X (.Compare a [op] [b] pos) (tV X.K (eBin f ea eb)) :=
  pe_imp (pe_cmpR ho ha hb hm) fun _ _ _ h => tV_op ok h
/-- a value that must be a truth value -/
noncomputable def toB (e : Ev) : EvB := fun ω c => (e ω c).bind fun x c1 => match x with
  | .bl b => .ok b c1
  | _ => .no
theorem tW_toB {K : PySem.W.Frag} {e : Ev} {σ : L2.St} {H : Hp} {Q : Bool → Hp → Prop} (h : tW K (toB e) σ H Q) : tV K e σ H fun x H' => ∃ k, x = .bl k ∧ Q k H' := by
  obtain ⟨ρ, ω, c, hr, hs, g⟩ := h
  obtain ⟨x, c1, e1, g⟩ := Got.bind g
  refine tG_in hr hs e1 fun v H1 ρ1 p1 hr1 hs1 rx => ?_
  cases rx with
  | bl k => exact ⟨k, rfl, g.after p1 k H1 ρ1 Post.refl hr1 rfl⟩
  | _ => exact g.elim
theorem u_cmp {op : CmpOp} (ho : OpR X (compareOp op) r) (ok : Ok2 X.K r f) (ha : PE X a (tV X.K ea)) (hb : PE X b (tV X.K eb)) (hm : behindInMarks op b = false) : PT X (.Compare a [op] [b] pos) (tW X.K (toB (eBin f ea eb))) :=
  pt_imp (pt_cmpR ho ha hb hm) fun _ _ _ h => tV_op ok (tW_toB h)
/-- a op b op' d -/
noncomputable def eChain (f f' : F2) (a b d : Ev) : Ev := fun ω c => (a ω c).bind fun x c1 => (b ω c1).bind fun y c2 => (f x y c2).bind fun z c3 => match z with
  | .bl true => (d ω c3).bind fun w c4 => f' y w c4
  | .bl false => .ok (.bl false) c3
  | _ => .no
theorem tV_chain (ok : Ok2 X.K r f) (ok' : Ok2 X.K r' f') {σ : L2.St} {H : Hp} {Q : VK} (h : tV X.K (eChain f f' ea eb ed) σ H Q) : tChain r r' (tV X.K ea) (tV X.K eb) (tV X.K ed) σ H Q := by
  obtain ⟨ρ, ω, c, hr, hs, g⟩ := h
  obtain ⟨x, c1, e1, g⟩ := Got.bind g
  refine tG_in hr hs e1 fun v H1 ρ1 p1 hr1 hs1 rx => ?_
  obtain ⟨y, c2, e2, g⟩ := Got.bind g
  refine tG_in hr1 hs1 e2 fun u H2 ρ2 p2 hr2 hs2 ry => ?_
  obtain ⟨z, c3, e3, g⟩ := Got.bind g
  refine ok ρ2 H2 c2 x y v u _ hr2 (rx.mono hr1 p2) ry ?_
  rw [e3]
  intro vz H3 ρ3 p3 hr3 rz
  cases rz with
  | bl k =>
    refine ⟨k, rfl, ?_⟩
    have p13 := (p1.trans p2).trans p3
    cases k with
    | false => exact g (.bl false) H3 ρ3 p13 hr3 (.bl false)
    | true =>
      obtain ⟨t, c4, e4, g⟩ := Got.bind g
      refine tG_in hr3 (hs2.mono hr2 p3) e4 fun vt H4 ρ4 p4 hr4 hs4 rt => ?_
      exact ok' ρ4 H4 c4 y t u vt Q hr4 ((ry.mono hr2 p3).mono hr3 p4) rt (g.after (p13.trans p4))
  | _ => exact g.elim
theorem q_chain {op op' : CmpOp} (ho : OpR X (compareOp op) r) (ho' : OpR X (compareOp op') r') (ok : Ok2 X.K r f) (ok' : Ok2 X.K r' f') (ha : PE X a (tV X.K ea)) (hb : PE X b (tV X.K eb)) (hd : PE X d (tV X.K ed))
    (hm : lastMarks [op, op'] [b, d] = false := by with_unfolding_all rfl) : PE X (.Compare a [op, op'] [b, d] pos) (tV X.K (eChain f f' ea eb ed)) := pe_imp (pe_chain ho ho' ha hb hd hm) fun _ _ _ h => tV_chain ok ok' h
theorem u_chain {op op' : CmpOp} (ho : OpR X (compareOp op) r) (ho' : OpR X (compareOp op') r') (ok : Ok2 X.K r f) (ok' : Ok2 X.K r' f') (ha : PE X a (tV X.K ea)) (hb : PE X b (tV X.K eb)) (hd : PE X d (tV X.K ed))
    (hm : lastMarks [op, op'] [b, d] = false := by with_unfolding_all rfl) : PT X (.Compare a [op, op'] [b, d] pos) (tW X.K (toB (eChain f f' ea eb ed))) := pt_imp (pt_chain ho ho' ha hb hd hm) fun _ _ _ h => tV_chain ok ok' (tW_toB h)
end

/-! ### truth, and, or, not, if -/
noncomputable def truW (w : W) (c : Ch) : R Bool := match w with
  | .non => .ok false c
  | .bl b => .ok b c
  | .int i => .ok (i != 0) c
  | .tup ws => .ok (!ws.isEmpty) c
  | .ref n => match (c.get n) with
    | some ws => .ok (!ws.isEmpty) c
    | none => .no
  | .emp => .ok false c
  | .mt => .ok false c
  | .lv ws => .ok (!ws.isEmpty) c
  | _ => .no
noncomputable def bTru (e : Ev) : EvB := fun ω c => (e ω c).bind truW
noncomputable def bAnd (a b : EvB) : EvB := fun ω c => (a ω c).bind fun x c1 => match x with
  | true => b ω c1
  | false => .ok false c1
noncomputable def bOr (a b : EvB) : EvB := fun ω c => (a ω c).bind fun x c1 => match x with
  | true => .ok true c1
  | false => b ω c1
noncomputable def bNot (a : EvB) : EvB := fun ω c => (a ω c).bind fun x c1 => .ok (!x) c1
noncomputable def eAnd (a b : Ev) : Ev := fun ω c => (a ω c).bind fun x c1 => match x with
  | .bl true => b ω c1
  | .bl false => .ok (.bl false) c1
  | _ => .no
noncomputable def eOr (a b : Ev) : Ev := fun ω c => (a ω c).bind fun x c1 => match x with
  | .bl true => .ok (.bl true) c1
  | .bl false => b ω c1
  | _ => .no
noncomputable def eNot (a : Ev) : Ev := fun ω c => (a ω c).bind fun x c1 => match x with
  | .bl b => .ok (.bl (!b)) c1
  | _ => .no
noncomputable def eIf (t : EvB) (a b : Ev) : Ev := fun ω c => (t ω c).bind fun x c1 => match x with
  | true => a ω c1
  | false => b ω c1
theorem isEmpty_rp {K : PySem.W.Frag} {ρ : List Addr} {H : Hp} {ws : List W} {vs : List V} (r : RpL K ρ H ws vs) : (!vs.isEmpty) = !ws.isEmpty := by
  cases r <;> rfl
section
variable {X : Cx} {pos : Pos} {a b d : Expr} {rest : List Expr} {ea eb ed : Ev} {ta tb : EvB}
theorem u_tru (ha : PE X a (tV X.K ea)) (he : ∀ whole, isTrue a X.env whole = (do let v ← whole; standAt a.pos; holding [v] (truthy v)) := by intro _; rfl) : PT X a (tW X.K (bTru ea)) := pt_imp (pt_truth ha he) fun σ H Q h => by
  obtain ⟨ρ, ω, c, hr, hs, g⟩ := h
  obtain ⟨x, c1, e1, g⟩ := Got.bind g
  refine tG_in hr hs e1 fun v H1 ρ1 p1 hr1 hs1 rx => ?_
  cases rx with
  | non => exact ⟨false, rfl, g false H1 ρ1 p1 hr1 rfl⟩
  | bl k => exact ⟨k, rfl, g k H1 ρ1 p1 hr1 rfl⟩
  | int i => exact ⟨_, rfl, g _ H1 ρ1 p1 hr1 rfl⟩
  | str x => exact g.elim
  | emp ha => exact ⟨false, .inr (.inr ⟨[], ha, rfl⟩), g false H1 ρ1 p1 hr1 rfl⟩
  | frz ha => exact g.elim
  | mt ha _ => exact ⟨false, .inl ⟨[], .of ha, rfl⟩, g false H1 ρ1 p1 hr1 rfl⟩
  | @lv ad ws vs hs' _ hl => exact ⟨!vs.isEmpty, .inl ⟨vs, .of hs', rfl⟩, g _ H1 ρ1 p1 hr1 (isEmpty_rp hl).symm⟩
  | obj ha _ _ => exact g.elim
  | any => exact g.elim
  | @tup ws vs ad hs' hl => exact ⟨!vs.isEmpty, .inr (.inl ⟨vs, hs', rfl⟩), g _ H1 ρ1 p1 hr1 (isEmpty_rp hl).symm⟩
  | @ref n ad hn =>
    have g : Got X.K relB (match (c1.get n) with | some ws => R.ok (!ws.isEmpty) c1 | none => .no) ρ H Q := g
    cases e : (c1.get n) with
    | none => rw [e] at g; exact g.elim
    | some ws =>
      rw [e] at g
      obtain ⟨b, vs, e0, e1, e2, e3⟩ := hr1.lst (.ref hn) e
      cases e0
      exact ⟨!vs.isEmpty, .inl ⟨vs, .of e2, rfl⟩, g _ H1 ρ1 p1 hr1 (isEmpty_rp e3).symm⟩
theorem tW_and {σ : L2.St} {H : Hp} {Q : Bool → Hp → Prop} (h : tW X.K (bAnd ta tb) σ H Q) : tAnd (tW X.K ta) (tW X.K tb) σ H Q := by
  obtain ⟨ρ, ω, c, hr, hs, g⟩ := h
  obtain ⟨x, c1, e1, g⟩ := Got.bind g
  refine tG_in hr hs e1 fun k H1 ρ1 p1 hr1 hs1 rx => ?_
  have rx : x = k := rx
  subst rx
  cases x with
  | true => exact ⟨ρ1, ω, c1, hr1, hs1, g.after p1⟩
  | false => exact g false H1 ρ1 p1 hr1 rfl
theorem tW_or {σ : L2.St} {H : Hp} {Q : Bool → Hp → Prop} (h : tW X.K (bOr ta tb) σ H Q) : tOr (tW X.K ta) (tW X.K tb) σ H Q := by
  obtain ⟨ρ, ω, c, hr, hs, g⟩ := h
  obtain ⟨x, c1, e1, g⟩ := Got.bind g
  refine tG_in hr hs e1 fun k H1 ρ1 p1 hr1 hs1 rx => ?_
  have rx : x = k := rx
  subst rx
  cases x with
  | true => exact g true H1 ρ1 p1 hr1 rfl
  | false => exact ⟨ρ1, ω, c1, hr1, hs1, g.after p1⟩
theorem w_and1 (ha : PT X a (tW X.K ta)) : PW X (.BoolOp .And [a] pos) (tW X.K ta) := pw_and1 ha
theorem w_or1 (ha : PT X a (tW X.K ta)) : PW X (.BoolOp .Or [a] pos) (tW X.K ta) := pw_or1 ha
theorem w_and (ha : PT X a (tW X.K ta)) (hb : PW X (.BoolOp .And (b :: rest) pos) (tW X.K tb)) : PW X (.BoolOp .And (a :: b :: rest) pos) (tW X.K (bAnd ta tb)) := pw_imp (pw_and ha hb) fun _ _ _ h => tW_and h
theorem w_or (ha : PT X a (tW X.K ta)) (hb : PW X (.BoolOp .Or (b :: rest) pos) (tW X.K tb)) : PW X (.BoolOp .Or (a :: b :: rest) pos) (tW X.K (bOr ta tb)) := pw_imp (pw_or ha hb) fun _ _ _ h => tW_or h
theorem u_not (ha : PT X a (tW X.K ta)) : PT X (.UnaryOp .Not a pos) (tW X.K (bNot ta)) := pt_imp (pt_not ha) fun σ H Q h => by
  obtain ⟨ρ, ω, c, hr, hs, g⟩ := h
  obtain ⟨x, c1, e1, g⟩ := Got.bind g
  refine tG_in hr hs e1 fun k H1 ρ1 p1 hr1 hs1 rx => ?_
  have rx : x = k := rx
  subst rx
  exact g _ H1 ρ1 p1 hr1 rfl
theorem q_one {op} (ha : PE X a (tV X.K ea)) : PE X (.BoolOp op [a] pos) (tV X.K ea) := pe_one ha
theorem q_and (ha : PE X a (tV X.K ea)) (hb : PE X (.BoolOp .And (b :: rest) pos) (tV X.K eb)) : PE X (.BoolOp .And (a :: b :: rest) pos) (tV X.K (eAnd ea eb)) := pe_imp (pe_and ha hb) fun σ H Q h => by
  obtain ⟨ρ, ω, c, hr, hs, g⟩ := h
  obtain ⟨x, c1, e1, g⟩ := Got.bind g
  refine tG_in hr hs e1 fun v H1 ρ1 p1 hr1 hs1 rx => ?_
  cases rx with
  | bl k =>
    refine ⟨k, rfl, ?_⟩
    cases k with
    | true => exact ⟨ρ1, ω, c1, hr1, hs1, g.after p1⟩
    | false => exact g (.bl false) H1 ρ1 p1 hr1 (.bl false)
  | _ => exact g.elim
theorem q_or (ha : PE X a (tV X.K ea)) (hb : PE X (.BoolOp .Or (b :: rest) pos) (tV X.K eb)) : PE X (.BoolOp .Or (a :: b :: rest) pos) (tV X.K (eOr ea eb)) := pe_imp (pe_or ha hb) fun σ H Q h => by
  obtain ⟨ρ, ω, c, hr, hs, g⟩ := h
  obtain ⟨x, c1, e1, g⟩ := Got.bind g
  refine tG_in hr hs e1 fun v H1 ρ1 p1 hr1 hs1 rx => ?_
  cases rx with
  | bl k =>
    refine ⟨k, rfl, ?_⟩
    cases k with
    | true => exact g (.bl true) H1 ρ1 p1 hr1 (.bl true)
    | false => exact ⟨ρ1, ω, c1, hr1, hs1, g.after p1⟩
  | _ => exact g.elim
theorem q_not (ha : PE X a (tV X.K ea)) : PE X (.UnaryOp .Not a pos) (tV X.K (eNot ea)) := pe_imp (pe_not ha) fun σ H Q h => by
  obtain ⟨ρ, ω, c, hr, hs, g⟩ := h
  obtain ⟨x, c1, e1, g⟩ := Got.bind g
  refine tG_in hr hs e1 fun v H1 ρ1 p1 hr1 hs1 rx => ?_
  cases rx with
  | bl k => exact ⟨k, rfl, g (.bl (!k)) H1 ρ1 p1 hr1 (.bl _)⟩
  | _ => exact g.elim
theorem q_if (ht : PT X d (tW X.K ta)) (ha : PE X a (tV X.K ea)) (hb : PE X b (tV X.K eb)) : PE X (.IfExp d a b pos) (tV X.K (eIf ta ea eb)) := pe_imp (pe_ifExp ht ha hb) fun σ H Q h => by
  obtain ⟨ρ, ω, c, hr, hs, g⟩ := h
  obtain ⟨x, c1, e1, g⟩ := Got.bind g
  refine tG_in hr hs e1 fun k H1 ρ1 p1 hr1 hs1 rx => ?_
  have rx : x = k := rx
  subst rx
  cases x with
  | true => exact ⟨ρ1, ω, c1, hr1, hs1, g.after p1⟩
  | false => exact ⟨ρ1, ω, c1, hr1, hs1, g.after p1⟩
end

/-! ### argument lists, displays -/
noncomputable def aNil : EvA := fun _ c => .ok [] c
noncomputable def aCons (a : Ev) (r : EvA) : EvA := fun ω c => (a ω c).bind fun x c1 => (r ω c1).bind fun xs c2 => .ok (x :: xs) c2
noncomputable def itemsW (w : W) (c : Ch) : Option (List W) := match w with
  | .tup ws => some ws
  | .ref n => (c.get n)
  | .frz zs => some (zs.map W.int)
  | .lv ws => some ws
  | _ => none
/-- what a list holds, however it is told -/
noncomputable def lstW (c : Ch) (w : W) : Option (List W) := match w with
  | .ref n => c.get n
  | .lv ws => some ws
  | .mt => some []
  | _ => none
theorem lstW_ok {K : PySem.W.Frag} {ρ : List Addr} {H : Hp} {c : Ch} {w : W} {v : V} {ws : List W} (hr : RelH K ρ H c) (r : Rp K ρ H w v) (h : lstW c w = some ws) : ∃ a vs, v = .ref a ∧ H a = some (.lst vs) ∧ RpL K ρ H ws vs := by
  cases r with
  | ref hn =>
    obtain ⟨a, vs, e0, e1, e2, e3⟩ := hr.lst (.ref hn) h
    exact ⟨a, vs, e0, e2, e3⟩
  | lv ha _ hl =>
    cases h
    exact ⟨_, _, rfl, ha, hl⟩
  | mt ha _ =>
    cases h
    exact ⟨_, _, rfl, ha, .nil⟩
  | _ => cases h
noncomputable def aStar (a : Ev) (r : EvA) : EvA := fun ω c => (a ω c).bind fun x c1 => match itemsW x c1 with
  | some ys => (r ω c1).bind fun xs c2 => .ok (ys ++ xs) c2
  | none => .no
noncomputable def few (ws : List W) : Bool := Nat.ble (lenK ws) 100000
noncomputable def eTup (a : EvA) : Ev := fun ω c => (a ω c).bind fun xs c1 => match few xs with
  | true => .ok (.tup xs) c1
  | false => .no
noncomputable def newL (xs : List W) (c : Ch) : R W := match few xs with
  | true => .ok (.ref c.length) (c.push xs)
  | false => .no
noncomputable def eLst (a : EvA) : Ev := fun ω c => (a ω c).bind newL
theorem few_le {ws : List W} (h : few ws = true) : ws.length ≤ sizeLine := by
  rw [← lenK_eq]
  exact Nat.le_trans (Nat.le_of_ble_eq_true h) (by decide)
theorem newL_got {K : PySem.W.Frag} {ρ ρ1 : List Addr} {H H1 : Hp} {c : Ch} {ws : List W} {vs : List V} {Q : VK} (hr : RelH K ρ1 H1 c) (p1 : Post ρ H ρ1 H1) (r : RpL K ρ1 H1 ws vs) (g : Got K (Rp K) (newL ws c) ρ H Q) :
    vs.length ≤ sizeLine ∧ ∀ p, H1 p = none → Q (.ref p) (upd H1 p (.lst vs)) := by
  unfold newL at g
  cases e : few ws with
  | false => rw [e] at g; exact g.elim
  | true =>
    rw [e] at g
    refine ⟨by rw [← r.length]; exact few_le e, fun p hp => g (.ref p) _ (ρ1 ++ [p]) (p1.trans (post_new hp)) (hr.new hp r) (.ref ?_)⟩
    rw [← hr.len, List.getElem?_append_right (Nat.le_refl _)]
    simp
section
variable {X : Cx} {pos : Pos} {e : Expr} {es : List Expr} {ea : Ev} {ra : EvA}
theorem a_nil : PA X [] (tU X.K aNil) := pa_imp pa_nil fun σ H Q ⟨ρ, ω, c, hr, hs, g⟩ => g [] H ρ Post.refl hr .nil
theorem a_cons (ha : PE X e (tV X.K ea)) (hr : PA X es (tU X.K ra)) (hs : starEach (e :: es) X.env = (false, eval e X.env) :: starEach es X.env := by rfl) : PA X (e :: es) (tU X.K (aCons ea ra)) := pa_imp (pa_cons ha hr hs) fun σ H Q h => by
  obtain ⟨ρ, ω, c, hr, hs, g⟩ := h
  obtain ⟨x, c1, e1, g⟩ := Got.bind g
  refine tG_in hr hs e1 fun v H1 ρ1 p1 hr1 hs1 rx => ?_
  obtain ⟨xs, c2, e2, g⟩ := Got.bind g
  refine tG_in hr1 hs1 e2 fun vs H2 ρ2 p2 hr2 hs2 rxs => ?_
  exact g (v :: vs) H2 ρ2 (p1.trans p2) hr2 (.cons (rx.mono hr1 p2) rxs)
theorem rpl_ints {K : PySem.W.Frag} {ρ : List Addr} {H : Hp} : ∀ zs : List Int, RpL K ρ H (zs.map W.int) (zs.map V.int)
  | [] => .nil
  | z :: zs => .cons (.int z) (rpl_ints zs)
theorem itemsW_ok {K : PySem.W.Frag} {ρ : List Addr} {H : Hp} {c : Ch} {w : W} {v : V} {ws : List W} (hr : RelH K ρ H c) (r : Rp K ρ H w v) (h : itemsW w c = some ws) : ∃ a vs, v = .ref a ∧ (SqT K H a vs ∨ SqL K H a vs) ∧ RpL K ρ H ws vs := by
  cases r with
  | tup s l =>
    cases h
    exact ⟨_, _, rfl, .inl s, l⟩
  | ref hn =>
    obtain ⟨a, vs, e0, e1, e2, e3⟩ := hr.lst (.ref hn) h
    exact ⟨a, vs, e0, .inr (.of e2), e3⟩
  | frz ha =>
    cases h
    exact ⟨_, _, rfl, .inr ha.sqL, rpl_ints _⟩
  | lv ha _ hl =>
    cases h
    exact ⟨_, _, rfl, .inr (.of ha), hl⟩
  | _ => cases h
theorem a_star {p : Pos} (ha : PE X e (tV X.K ea)) (hr : PA X es (tU X.K ra)) (hs : starEach (.Starred e p :: es) X.env = (true, eval e X.env) :: starEach es X.env := by rfl) : PA X (.Starred e p :: es) (tU X.K (aStar ea ra)) := pa_imp (StX.pa_star ha hr hs) fun σ H Q h => by
  obtain ⟨ρ, ω, c, hr, hs, g⟩ := h
  obtain ⟨x, c1, e1, g⟩ := Got.bind g
  refine tG_in hr hs e1 fun v H1 ρ1 p1 hr1 hs1 rx => ?_
  cases e : itemsW x c1 with
  | none => rw [e] at g; exact g.elim
  | some ys =>
    rw [e] at g
    obtain ⟨xs, c2, e2, g⟩ := Got.bind g
    obtain ⟨a, vs, rfl, hq, rys⟩ := itemsW_ok hr1 rx e
    refine ⟨a, vs, rfl, hq, tG_in hr1 hs1 e2 fun us H2 ρ2 p2 hr2 hs2 rxs => ?_⟩
    exact g (vs ++ us) H2 ρ2 (p1.trans p2) hr2 ((rys.mono hr1 p2).append rxs)
theorem q_tup {x1} (h : PA X es (tU X.K ra)) : PE X (.Tuple es x1 pos) (tV X.K (eTup ra)) := pe_imp (pe_tup h) fun σ H Q h => by
  obtain ⟨ρ, ω, c, hr, hs, g⟩ := h
  obtain ⟨xs, c1, e1, g⟩ := Got.bind g
  refine tG_in hr hs e1 fun vs H1 ρ1 p1 hr1 hs1 rx => ?_
  cases e : few xs with
  | false => rw [e] at g; exact g.elim
  | true =>
    rw [e] at g
    refine ⟨by rw [← rx.length]; exact few_le e, fun p hp => g (.ref p) _ ρ1 (p1.trans (post_out hp)) (hr1.out hp) (.tup (.of upd_same) (rx.mono hr1 (post_out hp)))⟩
theorem q_lst (h : PA X es (tU X.K ra)) : PE X (.List es pos) (tV X.K (eLst ra)) := pe_imp (pe_lst h) fun σ H Q h => by
  obtain ⟨ρ, ω, c, hr, hs, g⟩ := h
  obtain ⟨xs, c1, e1, g⟩ := Got.bind g
  exact tG_in hr hs e1 fun vs H1 ρ1 p1 hr1 hs1 rx => newL_got hr1 p1 rx g
end
end Sm
/-! Sm3: what the operators, subscripts, built-ins do to small values -/
namespace Sm
open PySem PySem.Spec PyProof.Rows L2

/-! ### ints -/
noncomputable def fI (g : Int → Int → W) : F2 := fun x y c => match x, y with
  | .int i, .int j => .ok (g i j) c
  | _, _ => .no
noncomputable def fIC (C : Int → Int → Bool) (g : Int → Int → W) : F2 := fun x y c => match x, y with
  | .int i, .int j => match C i j with
    | true => .ok (g i j) c
    | false => .no
  | _, _ => .no
section
variable {K : PySem.W.Frag}
theorem ok_I {g : Int → Int → W} {gv : Int → Int → V} (hg : ∀ ρ H i j, Rp K ρ H (g i j) (gv i j)) : Ok2 K (rI0 gv) (fI g) := by
  intro ρ H c x y v u Q hr rx ry h
  cases rx with
  | int i =>
    cases ry with
    | int j => exact ⟨i, j, rfl, rfl, h _ H ρ Post.refl hr (hg ρ H i j)⟩
    | _ => exact h.elim
  | _ => exact h.elim
theorem ok_IC {C : Int → Int → Bool} {CP : Int → Int → Prop} {g : Int → Int → W} {gv : Int → Int → V} (hC : ∀ i j, C i j = true → CP i j) (hg : ∀ ρ H i j, Rp K ρ H (g i j) (gv i j)) : Ok2 K (rI CP gv) (fIC C g) := by
  intro ρ H c x y v u Q hr rx ry h
  cases rx with
  | int i =>
    cases ry with
    | int j =>
      have h : Got K (Rp K) (match C i j with | true => R.ok (g i j) c | false => .no) ρ H Q := h
      cases e : C i j with
      | false => rw [e] at h; exact h.elim
      | true =>
        rw [e] at h
        exact ⟨i, j, rfl, rfl, hC i j e, h _ H ρ Post.refl hr (hg ρ H i j)⟩
    | _ => exact h.elim
  | _ => exact h.elim
end
noncomputable def ilt (i j : Int) : Bool := match i, j with
  | .ofNat a, .ofNat b => Nat.blt a b
  | .negSucc _, .ofNat _ => true
  | .ofNat _, .negSucc _ => false
  | .negSucc a, .negSucc b => Nat.blt b a
noncomputable def ile (i j : Int) : Bool := !ilt j i
noncomputable def ieq (i j : Int) : Bool := match i, j with
  | .ofNat a, .ofNat b => Nat.beq a b
  | .negSucc a, .negSucc b => Nat.beq a b
  | _, _ => false
theorem ilt_eq (i j : Int) : ilt i j = decide (i < j) := by
  rw [Bool.eq_iff_iff, decide_eq_true_iff]
  cases i with
  | ofNat a =>
    cases j with
    | ofNat b =>
      show Nat.blt a b = true ↔ (a : Int) < (b : Int)
      rw [Nat.blt_eq]
      omega
    | negSucc b => simp [ilt]; omega
  | negSucc a =>
    cases j with
    | ofNat b => simp [ilt]; omega
    | negSucc b =>
      show Nat.blt b a = true ↔ Int.negSucc a < Int.negSucc b
      rw [Nat.blt_eq]
      omega
theorem ile_eq (i j : Int) : ile i j = decide (i ≤ j) := by
  unfold ile
  rw [ilt_eq, Bool.eq_iff_iff]
  simp
theorem ieq_eq (i j : Int) : ieq i j = decide (i = j) := by
  rw [Bool.eq_iff_iff, decide_eq_true_iff]
  cases i with
  | ofNat a =>
    cases j with
    | ofNat b =>
      show Nat.beq a b = true ↔ (a : Int) = (b : Int)
      rw [Nat.beq_eq]
      omega
    | negSucc b => simp [ieq]
  | negSucc a =>
    cases j with
    | ofNat b => simp [ieq]
    | negSucc b =>
      show Nat.beq a b = true ↔ Int.negSucc a = Int.negSucc b
      rw [Nat.beq_eq]
      omega
noncomputable def fAddI : F2 := fI fun i j => .int (i + j)
noncomputable def fSub : F2 := fI fun i j => .int (i - j)
noncomputable def mulC (i j : Int) : Bool := Nat.blt i.natAbs 18446744073709551616 || Nat.blt j.natAbs 18446744073709551616
noncomputable def fMulI : F2 := fIC mulC fun i j => .int (i * j)
noncomputable def fDiv : F2 := fIC (fun i j => ilt 0 j && ilt j 1073741824) fun i j => .int (i / j)
noncomputable def fMod : F2 := fIC (fun i j => ilt 0 j) fun i j => .int (i % j)
noncomputable def fLt : F2 := fI fun i j => .bl (ilt i j)
noncomputable def fLe : F2 := fI fun i j => .bl (ile i j)
noncomputable def fGt : F2 := fI fun i j => .bl (ilt j i)
noncomputable def fGe : F2 := fI fun i j => .bl (ile j i)
section
variable {K : PySem.W.Frag}
theorem ok_addI : Ok2 K (rI0 fun i j => .int (i + j)) fAddI := ok_I fun _ _ _ _ => .int _
theorem ok_sub : Ok2 K (rI0 fun i j => .int (i - j)) fSub := ok_I fun _ _ _ _ => .int _
theorem ok_mulI : Ok2 K (rI CMul fun i j => .int (i * j)) fMulI := ok_IC (fun i j h => by
  unfold mulC at h
  rcases Bool.or_eq_true_iff.mp h with h | h
  · have h : i.natAbs < 18446744073709551616 := by simpa [Nat.blt_eq] using h
    exact .inl ⟨by omega, by omega⟩
  · have h : j.natAbs < 18446744073709551616 := by simpa [Nat.blt_eq] using h
    exact .inr ⟨by omega, by omega⟩) fun _ _ _ _ => .int _
theorem ok_div : Ok2 K (rI CDiv fun i j => .int (i / j)) fDiv := ok_IC (fun i j h => by
  obtain ⟨h1, h2⟩ := Bool.and_eq_true_iff.mp h
  rw [ilt_eq] at h1 h2
  exact ⟨of_decide_eq_true h1, of_decide_eq_true h2⟩) fun _ _ _ _ => .int _
theorem ok_mod : Ok2 K (rI (fun _ j => 0 < j) fun i j => .int (i % j)) fMod := ok_IC (fun i j h => by
  rw [ilt_eq] at h
  exact of_decide_eq_true h) fun _ _ _ _ => .int _
noncomputable def fPow : F2 := fIC (fun i j => (ile 0 j && ile j 1000000) && Nat.blt i.natAbs 18446744073709551616) fun i j => .int (i ^ j.toNat)
theorem ok_pow : Ok2 K (rI CPow fun i j => .int (i ^ j.toNat)) fPow := ok_IC (fun i j h => by
  obtain ⟨h1, h2⟩ := Bool.and_eq_true_iff.mp h
  obtain ⟨h0, h1⟩ := Bool.and_eq_true_iff.mp h1
  rw [ile_eq] at h0 h1
  rw [Nat.blt_eq] at h2
  exact ⟨of_decide_eq_true h0, of_decide_eq_true h1, h2⟩) fun _ _ _ _ => .int _
theorem ok_lt : Ok2 K (rI0 fun i j => .bl (decide (i < j))) fLt := ok_I fun _ _ i j => by rw [ilt_eq]; exact .bl _
theorem ok_le : Ok2 K (rI0 fun i j => .bl (decide (i ≤ j))) fLe := ok_I fun _ _ i j => by rw [ile_eq]; exact .bl _
theorem ok_gt : Ok2 K (rI0 fun i j => .bl (decide (j < i))) fGt := ok_I fun _ _ i j => by rw [ilt_eq]; exact .bl _
theorem ok_ge : Ok2 K (rI0 fun i j => .bl (decide (j ≤ i))) fGe := ok_I fun _ _ i j => by rw [ile_eq]; exact .bl _
end

/-! ### lists and tuples: +, * -/
noncomputable def fCat : F2 := fun x y c => match lstW c x, lstW c y with
  | some xs, some ys => newL (appK xs ys) c
  | _, _ => .no
noncomputable def fCatT : F2 := fun x y c => match x, y with
  | .tup xs, .tup ys => match few (xs ++ ys) with
    | true => .ok (.tup (xs ++ ys)) c
    | false => .no
  | _, _ => .no
noncomputable def fRep : F2 := fun x y c => match y with
  | .int k => match lstW c x with
    | some xs => match ile k 100000 && ile (-100000) k with
      | true => newL (repK xs k.toNat) c
      | false => .no
    | none => .no
  | _ => .no
noncomputable def fRepT : F2 := fun x y c => match x, y with
  | .tup (w :: ws), .int k => match ile 2 k && ile k 1000 && Nat.ble (w :: ws).length 1000 with
    | true => .ok (.tup (List.replicate k.toNat (w :: ws)).flatten) c
    | false => .no
  | _, _ => .no
section
variable {K : PySem.W.Frag}
theorem ok_cat : Ok2 K rCat fCat := by
  intro ρ H c x y v u Q hr rx ry h
  unfold fCat at h
  cases e1 : lstW c x with
  | none => rw [e1] at h; exact h.elim
  | some xs =>
    cases e2 : lstW c y with
    | none => rw [e1, e2] at h; exact h.elim
    | some ys =>
      rw [e1, e2] at h
      have h : Got K (Rp K) (newL (appK xs ys) c) ρ H Q := h
      rw [appK_eq] at h
      obtain ⟨a, vs, rfl, ha, rv⟩ := lstW_ok hr rx e1
      obtain ⟨b, us, rfl, hb, ru⟩ := lstW_ok hr ry e2
      obtain ⟨hz, q⟩ := newL_got hr Post.refl (rv.append ru) h
      rw [List.length_append] at hz
      exact ⟨a, b, vs, us, rfl, rfl, ha, hb, hz, q⟩
theorem ok_catT : Ok2 K (rCatA K) fCatT := by
  intro ρ H c x y v u Q hr rx ry h
  cases rx with
  | @tup xs vs a hs hl =>
    cases ry with
    | @tup ys us b hs' hl' =>
      have h : Got K (Rp K) (match few (xs ++ ys) with | true => R.ok (.tup (xs ++ ys)) c | false => .no) ρ H Q := h
      cases e : few (xs ++ ys) with
      | false => rw [e] at h; exact h.elim
      | true =>
        rw [e] at h
        have hz := few_le e
        rw [List.length_append, hl.length, hl'.length] at hz
        refine ⟨a, b, vs, us, rfl, rfl, hs, hs', hz, fun e0 => ?_, fun _ e1 => ?_, fun _ _ p hp => h (.ref p) _ ρ (post_out hp) (hr.out hp) (.tup (.of upd_same) ((hl.append hl').mono hr (post_out hp)))⟩
        · subst e0
          cases hl
          exact h (.ref b) H ρ Post.refl hr (.tup hs' hl')
        · subst e1
          cases hl'
          rw [List.append_nil] at h
          exact h (.ref a) H ρ Post.refl hr (.tup hs hl)
    | _ => exact h.elim
  | _ => exact h.elim
theorem ok_rep : Ok2 K rRep fRep := by
  intro ρ H c x y v u Q hr rx ry h
  cases ry with
  | int k =>
    have h : Got K (Rp K) (match lstW c x with | some xs => (match ile k 100000 && ile (-100000) k with | true => newL (repK xs k.toNat) c | false => .no) | none => .no) ρ H Q := h
    cases e1 : lstW c x with
    | none => rw [e1] at h; exact h.elim
    | some xs =>
      rw [e1] at h
      have h : Got K (Rp K) (match ile k 100000 && ile (-100000) k with | true => newL (repK xs k.toNat) c | false => .no) ρ H Q := h
      cases e2 : ile k 100000 && ile (-100000) k with
      | false => rw [e2] at h; exact h.elim
      | true =>
        rw [e2] at h
        obtain ⟨h1, h2⟩ := Bool.and_eq_true_iff.mp e2
        rw [ile_eq] at h1 h2
        have h1 := of_decide_eq_true h1
        have h2 := of_decide_eq_true h2
        obtain ⟨a, vs, rfl, ha, rv⟩ := lstW_ok hr rx e1
        rw [repK_eq] at h
        obtain ⟨hz, q⟩ := newL_got hr Post.refl (rv.rep k.toNat) h
        rw [PyProof.Rows.lm_len_rep_flat, Nat.mul_comm] at hz
        exact ⟨a, k, vs, rfl, rfl, ha, by omega, by omega, hz, q⟩
  | _ => exact h.elim
theorem ok_repT : Ok2 K (rRepT K) fRepT := by
  intro ρ H c x y v u Q hr rx ry h
  cases rx with
  | @tup xs vs a hs hl =>
    cases ry with
    | int k =>
      cases xs with
      | nil => exact h.elim
      | cons w ws =>
        have h : Got K (Rp K) (match ile 2 k && ile k 1000 && Nat.ble (w :: ws).length 1000 with | true => R.ok (.tup (List.replicate k.toNat (w :: ws)).flatten) c | false => .no) ρ H Q := h
        cases e : ile 2 k && ile k 1000 && Nat.ble (w :: ws).length 1000 with
        | false => rw [e] at h; exact h.elim
        | true =>
          rw [e] at h
          obtain ⟨h12, h3⟩ := Bool.and_eq_true_iff.mp e
          obtain ⟨h1, h2⟩ := Bool.and_eq_true_iff.mp h12
          rw [ile_eq] at h1 h2
          have h3 := Nat.le_of_ble_eq_true h3
          rw [hl.length] at h3
          refine ⟨a, k, vs, rfl, rfl, hs, fun e0 => ?_, of_decide_eq_true h1, of_decide_eq_true h2, h3, fun p hp => h (.ref p) _ ρ (post_out hp) (hr.out hp) (.tup (.of upd_same) ((hl.rep k.toNat).mono hr (post_out hp)))⟩
          subst e0
          cases hl
    | _ => cases xs <;> exact h.elim
  | _ => exact h.elim
end
noncomputable def fOr (f g : F2) : F2 := fun x y c => match f x y c with
  | .ok w c' => .ok w c'
  | .no => g x y c
noncomputable def fAdd : F2 := fOr fAddI (fOr fCat fCatT)
noncomputable def fMul : F2 := fOr fMulI (fOr fRep fRepT)
section
variable {X : Cx} {pos : Pos} {a b : Expr} {ea eb : Ev}
theorem q_add (ha : PE X a (tV X.K ea)) (hb : PE X b (tV X.K eb)) : PE X (.BinOp a .Add b pos) (tV X.K (eBin fAdd ea eb)) := q_bin (opr_or op_add (opr_or op_cat op_catA)) (ok_or ok_addI (ok_or ok_cat ok_catT)) ha hb
theorem q_mul (ha : PE X a (tV X.K ea)) (hb : PE X b (tV X.K eb)) : PE X (.BinOp a .Mult b pos) (tV X.K (eBin fMul ea eb)) := q_bin (opr_or op_mul (opr_or op_rep op_repT)) (ok_or ok_mulI (ok_or ok_rep ok_repT)) ha hb
theorem q_sub (ha : PE X a (tV X.K ea)) (hb : PE X b (tV X.K eb)) : PE X (.BinOp a .Sub b pos) (tV X.K (eBin fSub ea eb)) := q_bin op_sub ok_sub ha hb
theorem q_div (ha : PE X a (tV X.K ea)) (hb : PE X b (tV X.K eb)) : PE X (.BinOp a .FloorDiv b pos) (tV X.K (eBin fDiv ea eb)) := q_bin op_fdiv ok_div ha hb
theorem q_pow (ha : PE X a (tV X.K ea)) (hb : PE X b (tV X.K eb)) : PE X (.BinOp a .Pow b pos) (tV X.K (eBin fPow ea eb)) := q_bin op_pow ok_pow ha hb
theorem q_mod (ha : PE X a (tV X.K ea)) (hb : PE X b (tV X.K eb)) : PE X (.BinOp a .Mod b pos) (tV X.K (eBin fMod ea eb)) := q_bin op_mod ok_mod ha hb
end
noncomputable def fNeg : W → Ch → R W := fun x c => match x with
  | .int i => .ok (.int (-i)) c
  | _ => .no
noncomputable def eUn (f : W → Ch → R W) (a : Ev) : Ev := fun ω c => (a ω c).bind f
theorem q_neg {X : Cx} {pos : Pos} {a : Expr} {ea : Ev} (ha : PE X a (tV X.K ea)) : PE X (.UnaryOp .USub a pos) (tV X.K (eUn fNeg ea)) := pe_imp (pe_un un_neg ha) fun σ H Q h => by
  obtain ⟨ρ, ω, c, hr, hs, g⟩ := h
  obtain ⟨x, c1, e1, g⟩ := Got.bind g
  refine tG_in hr hs e1 fun v H1 ρ1 p1 hr1 hs1 rx => ?_
  cases rx with
  | int i => exact ⟨i, rfl, g _ H1 ρ1 p1 hr1 (.int _)⟩
  | _ => exact g.elim

/-! ### ==, != -/
noncomputable def dat : Nat → Ch → W → Option PyData
  | 0, _, _ => none
  | _ + 1, _, .non => some .none
  | _ + 1, _, .bl b => some (.bool b)
  | _ + 1, _, .int i => some (.int i)
  | _ + 1, _, .str x => some (.str x)
  | _ + 1, _, .emp => none
  | _ + 1, _, .mt => some (.list [])
  | _ + 1, _, .frz _ => none
  | _ + 1, _, .obj _ _ => none
  | _ + 1, _, .any => none
  | n + 1, c, .lv ws => (ws.mapM (dat n c)).map .list
  | n + 1, c, .tup ws => (ws.mapM (dat n c)).map .tuple
  | n + 1, c, .ref k => match (c.get k) with
    | some ws => (ws.mapM (dat n c)).map .list
    | none => none
section
variable {K : PySem.W.Frag} {ρ : List Addr} {H : Hp} {c : Ch}
theorem mapM_dp {f : W → Option PyData} (hf : ∀ w d v, f w = some d → Rp K ρ H w v → Dp K H v d) : ∀ {ws : List W} {vs : List V} {ds : List PyData}, ws.mapM f = some ds → RpL K ρ H ws vs → DpAll K H vs ds
  | [], _, ds, h, .nil => by
    simp at h
    subst h
    exact .nil
  | w :: ws, _, ds, h, .cons r t => by
    rw [List.mapM_cons] at h
    cases e1 : f w with
    | none => rw [e1] at h; cases h
    | some d =>
      rw [e1] at h
      cases e2 : ws.mapM f with
      | none => rw [e2] at h; cases h
      | some ds' =>
        rw [e2] at h
        have h : some (d :: ds') = some ds := h
        cases h
        exact .cons (hf w d _ e1 r) (mapM_dp hf e2 t)
theorem dat_dp (hr : RelH K ρ H c) : ∀ (n : Nat) (w : W) (d : PyData) (v : V), dat n c w = some d → Rp K ρ H w v → Dp K H v d
  | 0, _, _, _, h, _ => by cases h
  | n + 1, .emp, d, _, h, .emp _ => by cases h
  | n + 1, .frz _, d, _, h, .frz _ => by cases h
  | n + 1, .obj _ _, d, _, h, .obj _ _ _ => by cases h
  | n + 1, .any, d, _, h, .any => by cases h
  | n + 1, .lv ws, d, _, h, .lv ha _ l => by
    have h : (ws.mapM (dat n c)).map PyData.list = some d := h
    cases e : ws.mapM (dat n c) with
    | none => rw [e] at h; cases h
    | some ds =>
      rw [e] at h
      cases h
      exact .lst (.of ha) (mapM_dp (fun w d v => dat_dp hr n w d v) e l)
  | n + 1, .mt, d, _, h, .mt ha _ => by cases h; exact .lst (.of ha) .nil
  | n + 1, .non, d, _, h, .non => by cases h; exact .non
  | n + 1, .bl b, d, _, h, .bl _ => by cases h; exact .bl b
  | n + 1, .int i, d, _, h, .int _ => by cases h; exact .int i
  | n + 1, .str x, d, _, h, .str _ => by cases h; exact .str x
  | n + 1, .tup ws, d, _, h, .tup s l => by
    have h : (ws.mapM (dat n c)).map PyData.tuple = some d := h
    cases e : ws.mapM (dat n c) with
    | none => rw [e] at h; cases h
    | some ds =>
      rw [e] at h
      cases h
      exact .tup s (mapM_dp (fun w d v => dat_dp hr n w d v) e l)
  | n + 1, .ref k, d, _, h, .ref (a := a₀) hk => by
    have h : (match (c.get k) with | some ws => (ws.mapM (dat n c)).map PyData.list | none => none) = some d := h
    cases e0 : (c.get k) with
    | none => rw [e0] at h; cases h
    | some ws =>
      rw [e0] at h
      have h : (ws.mapM (dat n c)).map PyData.list = some d := h
      cases e : ws.mapM (dat n c) with
      | none => rw [e] at h; cases h
      | some ds =>
        rw [e] at h
        cases h
        obtain ⟨a, vs, z, _, ha, rv⟩ := hr.lst (v := .ref a₀) (.ref hk) e0
        cases z
        exact .lst (.of ha) (mapM_dp (fun w d v => dat_dp hr n w d v) e rv)
end
noncomputable def fEqI (neg : Bool) : F2 := fun x y c => match x, y with
  | .int i, .int j => .ok (.bl (xor neg (ieq i j))) c
  | _, _ => .no
noncomputable def fEqD (neg : Bool) : F2 := fun x y c => match dat 20 c x, dat 20 c y with
  | some d, some e => match SeqAt.shaped d && SeqAt.shaped e with
    | true => .ok (.bl (xor neg (PyData.eqv d e))) c
    | false => .no
  | _, _ => .no
def rEqE : R2 := fun x y H Q => ∃ a b kvs, x = .ref a ∧ y = .ref b ∧ H a = some (.dK kvs) ∧ H b = some (.dK kvs) ∧ (kvs.map (·.1)).Nodup ∧ (∀ p ∈ kvs, flatB p.2 = true) ∧ Q (.bl true) H
noncomputable def fEqE : F2 := fun x y c => match x, y with
  | .emp, .emp => .ok (.bl true) c
  | _, _ => .no
theorem op_eqA {X : Cx} (hu : X.A.units + 64 < cLine) : OpR X (compareOp .Eq) (rOr rEq (rOr (rEqD X.K) rEqE)) := opr_or op_eq (opr_or (op_eqD hu) (op_eq_dict (Nat.lt_of_le_of_lt (Nat.le_add_right _ _) hu)))
noncomputable def fEq : F2 := fOr (fEqI false) (fOr (fEqD false) fEqE)
noncomputable def fNe : F2 := fOr (fEqI true) (fEqD true)
section
variable {K : PySem.W.Frag}
theorem fEqD_in {neg : Bool} {ρ : List Addr} {H : Hp} {c : Ch} {x y : W} {v u : V} {Q : VK} (hr : RelH K ρ H c) (rx : Rp K ρ H x v) (ry : Rp K ρ H y u) (h : Got K (Rp K) (fEqD neg x y c) ρ H Q) :
    ∃ d e, Dp K H v d ∧ Dp K H u e ∧ SeqAt.shaped d = true ∧ SeqAt.shaped e = true ∧ Q (.bl (xor neg (PyData.eqv d e))) H := by
  unfold fEqD at h
  cases e1 : dat 20 c x with
  | none => rw [e1] at h; exact h.elim
  | some d =>
    cases e2 : dat 20 c y with
    | none => rw [e1, e2] at h; exact h.elim
    | some e =>
      rw [e1, e2] at h
      have h : Got K (Rp K) (match SeqAt.shaped d && SeqAt.shaped e with | true => R.ok (.bl (xor neg (PyData.eqv d e))) c | false => .no) ρ H Q := h
      cases e3 : SeqAt.shaped d && SeqAt.shaped e with
      | false => rw [e3] at h; exact h.elim
      | true =>
        rw [e3] at h
        obtain ⟨h1, h2⟩ := Bool.and_eq_true_iff.mp e3
        exact ⟨d, e, dat_dp hr 20 x d v e1 rx, dat_dp hr 20 y e u e2 ry, h1, h2, h _ H ρ Post.refl hr (.bl _)⟩
theorem ok_eqE : Ok2 K rEqE fEqE := by
  intro ρ H c x y v u Q hr rx ry h
  cases rx with
  | @emp a ha =>
    cases ry with
    | @emp b hb => exact ⟨a, b, [], rfl, rfl, ha, hb, by simp, by simp, h _ H ρ Post.refl hr (.bl _)⟩
    | _ => exact h.elim
  | _ => exact h.elim
theorem ok_eq : Ok2 K (rOr rEq (rOr (rEqD K) rEqE)) fEq := ok_or (by
  intro ρ H c x y v u Q hr rx ry h
  cases rx with
  | int i =>
    cases ry with
    | int j =>
      have q : Q (.bl (xor false (ieq i j))) H := h _ H ρ Post.refl hr (.bl _)
      refine ⟨rfl, ?_⟩
      rw [dec_int]
      rw [Bool.false_xor, ieq_eq, ← Bool.beq_eq_decide_eq] at q
      exact q
    | _ => exact h.elim
  | _ => exact h.elim) (ok_or (by
  intro ρ H c x y v u Q hr rx ry h
  obtain ⟨d, e, h1, h2, h3, h4, q⟩ := fEqD_in hr rx ry h
  exact ⟨d, e, h1, h2, h3, h4, by simpa using q⟩) ok_eqE)
theorem ok_ne : Ok2 K (rOr rNe (rNeD K)) fNe := ok_or (by
  intro ρ H c x y v u Q hr rx ry h
  cases rx with
  | int i =>
    cases ry with
    | int j =>
      have q : Q (.bl (xor true (ieq i j))) H := h _ H ρ Post.refl hr (.bl _)
      refine ⟨rfl, ?_⟩
      rw [dec_int]
      rw [Bool.true_xor, ieq_eq, ← Bool.beq_eq_decide_eq] at q
      exact q
    | _ => exact h.elim
  | _ => exact h.elim) (by
  intro ρ H c x y v u Q hr rx ry h
  obtain ⟨d, e, h1, h2, h3, h4, q⟩ := fEqD_in hr rx ry h
  exact ⟨d, e, h1, h2, h3, h4, by simpa using q⟩)
end
/-- is None, is True -/
noncomputable def isN (w : W) : Bool := match w with
  | .non => true
  | _ => false
noncomputable def known (w : W) : Bool := match w with
  | .any => false
  | _ => true
noncomputable def fIsN (neg : Bool) : F2 := fun x y c => match y with
  | .non => match known x with
    | true => .ok (.bl (xor neg (isN x))) c
    | false => .no
  | _ => .no
noncomputable def fIsB : F2 := fun x y c => match x, y with
  | .bl a, .bl b => .ok (.bl (a == b)) c
  | _, _ => .no
section
variable {K : PySem.W.Frag}
theorem isN_eq {ρ : List Addr} {H : Hp} {w : W} {v : V} (r : Rp K ρ H w v) (hk : known w = true) : isN w = decide (v = .non) := by
  cases r <;> first | rfl | cases hk
theorem got_known {ρ : List Addr} {H : Hp} {w : W} {r : R W} {Q : VK} (h : Got K (Rp K) (match known w with | true => r | false => .no) ρ H Q) : known w = true ∧ Got K (Rp K) r ρ H Q := by
  cases e : known w with
  | true => rw [e] at h; exact ⟨rfl, h⟩
  | false => rw [e] at h; exact h.elim
theorem ok_isN : Ok2 K (fun x y H Q => y = .non ∧ Q (.bl (decide (x = .non))) H) (fIsN false) := by
  intro ρ H c x y v u Q hr rx ry h
  cases ry with
  | non =>
    obtain ⟨hk, h⟩ := got_known (w := x) (r := .ok (.bl (xor false (isN x))) c) h
    exact ⟨rfl, by rw [← isN_eq rx hk]; simpa using h _ H ρ Post.refl hr (.bl _)⟩
  | _ => exact h.elim
theorem ok_notN : Ok2 K (fun x y H Q => y = .non ∧ Q (.bl (!decide (x = .non))) H) (fIsN true) := by
  intro ρ H c x y v u Q hr rx ry h
  cases ry with
  | non =>
    obtain ⟨hk, h⟩ := got_known (w := x) (r := .ok (.bl (xor true (isN x))) c) h
    exact ⟨rfl, by rw [← isN_eq rx hk]; simpa using h _ H ρ Post.refl hr (.bl _)⟩
  | _ => exact h.elim
theorem ok_isB : Ok2 K rIsB fIsB := by
  intro ρ H c x y v u Q hr rx ry h
  cases rx with
  | bl a =>
    cases ry with
    | bl b => exact ⟨a, b, rfl, rfl, by rw [← Bool.beq_eq_decide_eq]; exact h _ H ρ Post.refl hr (.bl _)⟩
    | _ => exact h.elim
  | _ => exact h.elim
end
end Sm
/-! Sm4: subscripts, slices, built-ins, calls of defs, small statements, a def by its body -/
namespace Sm
open PySem PySem.Spec PyProof.Rows L2

/-! ### a[i] -/
noncomputable def atW (ws : List W) (i : Int) : Option W := match i with
  | .ofNat k => getK ws k
  | .negSucc k => match Nat.ble (k + 1) (lenK ws) with
    | true => getK ws (lenK ws - (k + 1))
    | false => none
noncomputable def fIx : F2 := fun x y c => match x, y with
  | .tup ws, .int i => match atW ws i with
    | some w => .ok w c
    | none => .no
  | .ref n, .int i => match (c.get n) with
    | some ws => match atW ws i with
      | some w => .ok w c
      | none => .no
    | none => .no
  | .frz zs, .int i => match atW (zs.map W.int) i with
    | some w => .ok w c
    | none => .no
  | .lv ws, .int i => match atW ws i with
    | some w => .ok w c
    | none => .no
  | _, _ => .no
section
variable {K : PySem.W.Frag} {ρ : List Addr} {H : Hp} {c : Ch}
theorem atW_ok {ws : List W} {vs : List V} {i : Int} {w : W} (r : RpL K ρ H ws vs) (h : atW ws i = some w) : ∃ v, atI vs i = some v ∧ Rp K ρ H w v := by
  cases i with
  | ofNat k =>
    have h : getK ws k = some w := h
    rw [getK_eq] at h
    obtain ⟨v, e, q⟩ := r.get h
    refine ⟨v, ?_, q⟩
    have hk : k < vs.length := (List.getElem?_eq_some_iff.mp e).1
    have e1 : ixN vs.length (Int.ofNat k) = some k := by
      unfold ixN
      rw [if_pos (show (0 : Int) ≤ Int.ofNat k from Int.natCast_nonneg k), if_pos (show (Int.ofNat k) < (vs.length : Int) from Int.ofNat_lt.mpr hk)]
      rfl
    unfold atI
    rw [e1]
    exact e
  | negSucc k =>
    have h : (match Nat.ble (k + 1) (lenK ws) with | true => getK ws (lenK ws - (k + 1)) | false => none) = some w := h
    rw [lenK_eq, getK_eq] at h
    cases e0 : Nat.ble (k + 1) ws.length with
    | false => rw [e0] at h; cases h
    | true =>
      rw [e0] at h
      have hk := Nat.le_of_ble_eq_true e0
      rw [r.length] at hk h
      obtain ⟨v, e, q⟩ := r.get h
      refine ⟨v, ?_, q⟩
      have e1 : ixN vs.length (Int.negSucc k) = some (vs.length - (k + 1)) := by
        unfold ixN
        rw [if_neg (by omega), if_pos (by omega)]
        congr 1
        omega
      unfold atI
      rw [e1]
      exact e
theorem ok_ix : Ok2 K (rIx K) fIx := by
  intro ρ H c x y v u Q hr rx ry h
  cases rx with
  | @tup ws vs a hs hl =>
    cases ry with
    | int i =>
      have h : Got K (Rp K) (match atW ws i with | some w => R.ok w c | none => .no) ρ H Q := h
      cases e : atW ws i with
      | none => rw [e] at h; exact h.elim
      | some w =>
        rw [e] at h
        obtain ⟨v, e1, q⟩ := atW_ok hl e
        exact .inr (.inl ⟨a, vs, i, v, rfl, rfl, hs, e1, h v H ρ Post.refl hr q⟩)
    | _ => exact h.elim
  | @ref n a hn =>
    cases ry with
    | int i =>
      have h : Got K (Rp K) (match (c.get n) with | some ws => (match atW ws i with | some w => R.ok w c | none => .no) | none => .no) ρ H Q := h
      cases e0 : (c.get n) with
      | none => rw [e0] at h; exact h.elim
      | some ws =>
        rw [e0] at h
        have h : Got K (Rp K) (match atW ws i with | some w => R.ok w c | none => .no) ρ H Q := h
        cases e : atW ws i with
        | none => rw [e] at h; exact h.elim
        | some w =>
          rw [e] at h
          obtain ⟨_, vs, z, _, ha, rv⟩ := hr.lst (.ref hn) e0
          cases z
          obtain ⟨v, e1, q⟩ := atW_ok rv e
          exact .inl ⟨a, vs, i, v, rfl, rfl, .of ha, e1, h v H ρ Post.refl hr q⟩
    | _ => exact h.elim
  | @frz a zs ha =>
    cases ry with
    | int i =>
      have h : Got K (Rp K) (match atW (zs.map W.int) i with | some w => R.ok w c | none => .no) ρ H Q := h
      cases e : atW (zs.map W.int) i with
      | none => rw [e] at h; exact h.elim
      | some w =>
        rw [e] at h
        obtain ⟨v, e1, q⟩ := atW_ok (rpl_ints (K := K) (ρ := ρ) (H := H) zs) e
        exact .inl ⟨a, _, i, v, rfl, rfl, ha.sqL, e1, h v H ρ Post.refl hr q⟩
    | _ => exact h.elim
  | @lv a ws vs ha hn hl =>
    cases ry with
    | int i =>
      have h : Got K (Rp K) (match atW ws i with | some w => R.ok w c | none => .no) ρ H Q := h
      cases e : atW ws i with
      | none => rw [e] at h; exact h.elim
      | some w =>
        rw [e] at h
        obtain ⟨v, e1, q⟩ := atW_ok hl e
        exact .inl ⟨a, vs, i, v, rfl, rfl, .of ha, e1, h v H ρ Post.refl hr q⟩
    | _ => exact h.elim
  | _ => exact h.elim
theorem q_ix {X : Cx} {pos : Pos} {a b : Expr} {ea eb : Ev} (ha : PE X a (tV X.K ea)) (hb : PE X b (tV X.K eb)) (hs : PlainIx b := by intro _ _; rfl) : PE X (.Subscript a b pos) (tV X.K (eBin fIx ea eb)) :=
  pe_imp (pe_ix ix_seq ha hb hs) fun _ _ _ h => tV_op ok_ix h
end

/-! ### a[lo:hi] -/
abbrev EvO := Sl → Ch → R (Option Int)
noncomputable def oNo : EvO := fun _ c => .ok none c
noncomputable def oAt (e : Ev) : EvO := fun ω c => (e ω c).bind fun x c1 => match x with
  | .int i => .ok (some i) c1
  | _ => .no
abbrev relO : Rel (Option Int) (Option Int) := fun _ _ a b => a = b
noncomputable def cutW (ws : List W) (lo hi : Option Int) : List W := (ws.drop (HT.sIx ws.length 0 lo)).take (HT.sIx ws.length ws.length hi - HT.sIx ws.length 0 lo)
noncomputable def fSl (x : W) (lo hi : Option Int) (c : Ch) : R W := match x with
  | .tup ws => .ok (.tup (cutW ws lo hi)) c
  | .ref n => match (c.get n) with
    | some ws => newL (cutW ws lo hi) c
    | none => .no
  | .frz zs => newL (cutW (zs.map W.int) lo hi) c
  | .lv ws => newL (cutW ws lo hi) c
  | _ => .no
noncomputable def eSl (a : Ev) (lo hi : EvO) : Ev := fun ω c => (a ω c).bind fun x c1 => (lo ω c1).bind fun l c2 => (hi ω c2).bind fun h c3 => fSl x l h c3
section
variable {X : Cx} {pos p2 : Pos} {e : Expr} {lo hi : Option Expr} {ea : Ev} {el eh : EvO}
theorem po_imp {e : Option Expr} {t t' : TO} (h : PO X e t) (i : ∀ σ H Q, t' σ H Q → t σ H Q) : PO X e t' := ⟨fun pins s σ H Q I q => h.run pins s σ H Q I (i σ H Q q)⟩
theorem o_no : PO X none (tG X.K relO oNo) := po_imp po_none fun σ H Q ⟨ρ, ω, c, hr, hs, g⟩ => g none H ρ Post.refl hr rfl
theorem o_at (ha : PE X e (tV X.K ea)) : PO X (some e) (tG X.K relO (oAt ea)) := po_imp (po_some ha) fun σ H Q h => by
  obtain ⟨ρ, ω, c, hr, hs, g⟩ := h
  obtain ⟨x, c1, e1, g⟩ := Got.bind g
  refine tG_in hr hs e1 fun v H1 ρ1 p1 hr1 hs1 rx => ?_
  cases rx with
  | int i => exact ⟨i, rfl, g (some i) H1 ρ1 p1 hr1 rfl⟩
  | _ => exact g.elim
theorem cutW_ok {K : PySem.W.Frag} {ρ : List Addr} {H : Hp} {ws : List W} {vs : List V} (r : RpL K ρ H ws vs) (lo hi : Option Int) : RpL K ρ H (cutW ws lo hi) (cutV vs lo hi) := by
  unfold cutW cutV
  rw [r.length]
  exact (r.drop _).take _
theorem cutW_whole {ws : List W} {lo hi : Option Int} (h : HT.sIx ws.length 0 lo = 0 ∧ HT.sIx ws.length ws.length hi = ws.length) : cutW ws lo hi = ws := by
  unfold cutW
  rw [h.1, h.2]
  simp
theorem q_sl (he : PE X e (tV X.K ea)) (hl : PO X lo (tG X.K relO el)) (hh : PO X hi (tG X.K relO eh)) : PE X (.Subscript e (.Slice lo hi none p2) pos) (tV X.K (eSl ea el eh)) :=
  pe_imp (pe_slice (sl_list.or sl_tupA) he hl hh) fun σ H Q h => by
  obtain ⟨ρ, ω, c, hr, hs, g⟩ := h
  obtain ⟨x, c1, e1, g⟩ := Got.bind g
  refine tG_in hr hs e1 fun v H1 ρ1 p1 hr1 hs1 rx => ?_
  obtain ⟨l, c2, e2, g⟩ := Got.bind g
  refine tG_in hr1 hs1 e2 fun l' H2 ρ2 p2 hr2 hs2 rl => ?_
  obtain ⟨u, c3, e3, g⟩ := Got.bind g
  refine tG_in hr2 hs2 e3 fun u' H3 ρ3 p3 hr3 hs3 ru => ?_
  have rl : l = l' := rl
  have ru : u = u' := ru
  subst rl ru
  have g := g.after ((p1.trans p2).trans p3)
  have rx := (rx.mono hr1 p2).mono hr2 p3
  cases rx with
  | @tup ws vs a hs' hl' =>
    refine .inr ⟨a, vs, rfl, hs', fun hw => ?_, fun _ p hp => g (.ref p) _ ρ3 (post_out hp) (hr3.out hp) (.tup (.of upd_same) ((cutW_ok hl' l u).mono hr3 (post_out hp)))⟩
    rw [← hl'.length] at hw
    have g : Got X.K (Rp X.K) (.ok (.tup (cutW ws l u)) c3) ρ3 H3 Q := g
    rw [cutW_whole hw] at g
    exact g (.ref a) H3 ρ3 Post.refl hr3 (.tup hs' hl')
  | @ref n a hn =>
    have g : Got X.K (Rp X.K) (match (c3.get n) with | some ws => newL (cutW ws l u) c3 | none => .no) ρ3 H3 Q := g
    cases e0 : (c3.get n) with
    | none => rw [e0] at g; exact g.elim
    | some ws =>
      rw [e0] at g
      obtain ⟨_, vs, z, _, ha, rv⟩ := hr3.lst (.ref hn) e0
      cases z
      exact .inl ⟨a, vs, rfl, .of ha, (newL_got hr3 Post.refl (cutW_ok rv l u) g).2⟩
  | @frz a zs ha =>
    have g : Got X.K (Rp X.K) (newL (cutW (zs.map W.int) l u) c3) ρ3 H3 Q := g
    exact .inl ⟨a, _, rfl, ha.sqL, (newL_got hr3 Post.refl (cutW_ok (rpl_ints zs) l u) g).2⟩
  | @lv a ws vs ha hn hl =>
    have g : Got X.K (Rp X.K) (newL (cutW ws l u) c3) ρ3 H3 Q := g
    exact .inl ⟨a, vs, rfl, .of ha, (newL_got hr3 Post.refl (cutW_ok hl l u) g).2⟩
  | _ => exact g.elim
end

/-! ### built-ins -/
abbrev FC := List W → Ch → R W
noncomputable def oR {α β : Type} (o : Option α) (k : α → R β) : R β := match o with
  | some a => k a
  | none => .no
noncomputable def selI (b : Bool) (i j : Int) : Int := match b with
  | true => i
  | false => j
noncomputable def eCB (f : FC) (a : EvA) : Ev := fun ω c => (a ω c).bind f
noncomputable def OkC (K : PySem.W.Frag) (r : List V → Hp → VK → Prop) (f : FC) : Prop := ∀ (ρ : List Addr) (H : Hp) (c : Ch) (xs : List W) (vs : List V) (Q : VK), RelH K ρ H c → RpL K ρ H xs vs → Got K (Rp K) (f xs c) ρ H Q → r vs H Q
section
variable {X : Cx} {x : Str} {p pos : Pos} {e : Expr} {es : List Expr} {ra : EvA} {id T : String} {r : List V → Hp → VK → Prop} {f : FC}
theorem tV_cb (ok : OkC X.K r f) {σ : L2.St} {H : Hp} {Q : VK} (h : tV X.K (eCB f ra) σ H Q) : tCB r (tU X.K ra) σ H Q := by
  obtain ⟨ρ, ω, c, hr, hs, g⟩ := h
  obtain ⟨xs, c1, e1, g⟩ := Got.bind g
  exact tG_in hr hs e1 fun vs H1 ρ1 p1 hr1 hs1 rx => ok ρ1 H1 c1 xs vs Q hr1 rx (g.after p1)
theorem q_cb (hc : CallR X (.builtin id) r) (ok : OkC X.K r f) (hm : X.mg x = none) (hv : bootBuiltins x = some (.builtin id)) (ha : PA X (e :: es) (tU X.K ra)) (hg : Gl X x := by rfl) (hn : x ≠ "__name__" := by decide) (hdb : (x == ("__debug__" : Str)) = false := by decide)
    (he : starEach (e :: es) X.env = (false, eval e X.env) :: starEach es X.env := by rfl) (hpl : (backTo pos (starEach es X.env)).any (·.1) = false := by rfl) : PE X (.Call (.Name x p) (e :: es) [] pos) (tV X.K (eCB f ra)) :=
  pe_imp (pe_callB hc hg hm hv ha hn hdb he hpl) fun _ _ _ h => tV_cb ok h
theorem q_ct (hc : CallR X (.type T) r) (ok : OkC X.K r f) (hm : X.mg x = none) (hv : bootBuiltins x = some (.type T)) (ha : PA X (e :: es) (tU X.K ra)) (hg : Gl X x := by rfl) (hn : x ≠ "__name__" := by decide) (hdb : (x == ("__debug__" : Str)) = false := by decide)
    (he : starEach (e :: es) X.env = (false, eval e X.env) :: starEach es X.env := by rfl) (hpl : (backTo pos (starEach es X.env)).any (·.1) = false := by rfl) : PE X (.Call (.Name x p) (e :: es) [] pos) (tV X.K (eCB f ra)) :=
  pe_imp (pe_callTy hc hg hm hv ha hn hdb he hpl) fun _ _ _ h => tV_cb ok h
end
noncomputable def cLen : FC := fun xs c => match xs with
  | [x] => oR (itemsW x c) fun ws => .ok (.int (lenK ws : Nat)) c
  | _ => .no
noncomputable def cInt : FC := fun xs c => match xs with
  | [.int i] => .ok (.int i) c
  | _ => .no
noncomputable def cList : FC := fun xs c => match xs with
  | [x] => oR (itemsW x c) fun ws => newL ws c
  | _ => .no
noncomputable def cTuple : FC := fun xs c => match xs with
  | [x] => oR (itemsW x c) fun ws => .ok (.tup ws) c
  | _ => .no
noncomputable def cMax : FC := fun xs c => match xs with
  | [.int i, .int j] => .ok (.int (selI (ilt i j) j i)) c
  | _ => .no
noncomputable def cMin : FC := fun xs c => match xs with
  | [.int i, .int j] => .ok (.int (selI (ilt j i) j i)) c
  | _ => .no
noncomputable def cAbs : FC := fun xs c => match xs with
  | [.int i] => .ok (.int (i.natAbs : Nat)) c
  | _ => .no
noncomputable def blsW : List W → Option (List Bool)
  | [] => some []
  | .bl b :: r => match blsW r with
    | some bs => some (b :: bs)
    | none => none
  | _ :: _ => none
noncomputable def cAll : FC := fun xs c => match xs with
  | [x] => oR (lstW c x) fun ws => oR (blsW ws) fun bs => .ok (.bl (bs.all id)) c
  | _ => .no
noncomputable def cAny : FC := fun xs c => match xs with
  | [x] => oR (lstW c x) fun ws => oR (blsW ws) fun bs => .ok (.bl (bs.any id)) c
  | _ => .no
section
variable {K : PySem.W.Frag}
theorem got_opt {α : Type} {o : Option α} {f : α → R W} {ρ : List Addr} {H : Hp} {Q : VK} (h : Got K (Rp K) (oR o f) ρ H Q) : ∃ a, o = some a ∧ Got K (Rp K) (f a) ρ H Q := by
  cases o with
  | some a => exact ⟨a, rfl, h⟩
  | none => exact h.elim
theorem ok_len : OkC K (fun xs H Q => ∃ x n, xs = [x] ∧ LenV K x H n ∧ Q (.int n) H) cLen := by
  intro ρ H c xs vs Q hr rx h
  match xs, rx, h with
  | [x], .cons r1 .nil, h =>
    obtain ⟨ws, e, h⟩ := got_opt h
    obtain ⟨a, us, rfl, hq, rl⟩ := itemsW_ok hr r1 e
    refine ⟨.ref a, us.length, rfl, ?_, by rw [← rl.length, ← lenK_eq]; exact h _ H ρ Post.refl hr (.int _)⟩
    rcases hq with hq | hq
    · exact .inr ⟨us, hq, rfl⟩
    · exact .inl ⟨us, hq, rfl⟩
  | [], .nil, h => exact h.elim
  | _ :: _ :: _, _, h => exact h.elim
theorem ok_int : OkC K (fun xs H Q => (∃ i, xs = [.int i] ∧ Q (.int i) H) ∨ ∃ k, xs = [.bl k] ∧ Q (.int (if k then 1 else 0)) H) cInt := by
  intro ρ H c xs vs Q hr rx h
  match xs, rx, h with
  | [.int i], .cons (.int _) .nil, h => exact .inl ⟨i, rfl, h _ H ρ Post.refl hr (.int i)⟩
theorem ok_list : OkC K (fun xs H Q => ∃ p ys, xs = [.ref p] ∧ (SqL K H p ys ∨ SqT K H p ys) ∧ ∀ l, H l = none → Q (.ref l) (upd H l (.lst ys))) cList := by
  intro ρ H c xs vs Q hr rx h
  match xs, rx, h with
  | [x], .cons r1 .nil, h =>
    obtain ⟨ws, e, h⟩ := got_opt h
    obtain ⟨a, us, rfl, hq, rl⟩ := itemsW_ok hr r1 e
    exact ⟨a, us, rfl, hq.symm, (newL_got hr Post.refl rl h).2⟩
  | [], .nil, h => exact h.elim
  | _ :: _ :: _, _, h => exact h.elim
theorem ok_tuple : OkC K (fun xs H Q => ∃ p ys, xs = [.ref p] ∧ ((SqL K H p ys ∧ ∀ l, H l = none → Q (.ref l) (upd H l (.tup ys))) ∨ (SqT K H p ys ∧ Q (.ref p) H))) cTuple := by
  intro ρ H c xs vs Q hr rx h
  match xs, rx, h with
  | [x], .cons r1 .nil, h =>
    obtain ⟨ws, e, h⟩ := got_opt h
    obtain ⟨a, us, rfl, hq, rl⟩ := itemsW_ok hr r1 e
    refine ⟨a, us, rfl, ?_⟩
    rcases hq with hq | hq
    · exact .inr ⟨hq, h (.ref a) H ρ Post.refl hr (.tup hq rl)⟩
    · exact .inl ⟨hq, fun l hl => h (.ref l) _ ρ (post_out hl) (hr.out hl) (.tup (.of upd_same) (rl.mono hr (post_out hl)))⟩
  | [], .nil, h => exact h.elim
  | _ :: _ :: _, _, h => exact h.elim
theorem mat_if {c : Prop} [Decidable c] {b : Bool} (h : b = decide c) (i j : Int) : selI b i j = if c then i else j := by
  subst h
  unfold selI
  by_cases hc : c
  · rw [if_pos hc, decide_eq_true hc]
  · rw [if_neg hc, decide_eq_false hc]
theorem ok_max : OkC K (fun xs H Q => ∃ i j, xs = [.int i, .int j] ∧ Q (.int (if j > i then j else i)) H) cMax := by
  intro ρ H c xs vs Q hr rx h
  match xs, rx, h with
  | [.int i, .int j], .cons (.int _) (.cons (.int _) .nil), h => exact ⟨i, j, rfl, by rw [← mat_if (ilt_eq i j)]; exact h _ H ρ Post.refl hr (.int _)⟩
theorem ok_min : OkC K (fun xs H Q => ∃ i j, xs = [.int i, .int j] ∧ Q (.int (if j < i then j else i)) H) cMin := by
  intro ρ H c xs vs Q hr rx h
  match xs, rx, h with
  | [.int i, .int j], .cons (.int _) (.cons (.int _) .nil), h => exact ⟨i, j, rfl, by rw [← mat_if (ilt_eq j i)]; exact h _ H ρ Post.refl hr (.int _)⟩
noncomputable def cDivmod : FC := fun xs c => match xs with
  | [.int i, .int j] => match ilt 0 j && ilt j 1073741824 with
    | true => .ok (.tup [.int (i / j), .int (i % j)]) c
    | false => .no
  | _ => .no
theorem ok_divmod : OkC K (fun xs H Q => ∃ i j, xs = [.int i, .int j] ∧ CDiv i j ∧ ∀ p, H p = none → Q (.ref p) (upd H p (.tup [.int (i / j), .int (i % j)]))) cDivmod := by
  intro ρ H c xs vs Q hr rx h
  match xs, rx, h with
  | [.int i, .int j], .cons (.int _) (.cons (.int _) .nil), h =>
    have h : Got K (Rp K) (match ilt 0 j && ilt j 1073741824 with | true => R.ok (.tup [.int (i / j), .int (i % j)]) c | false => .no) ρ H Q := h
    cases e : ilt 0 j && ilt j 1073741824 with
    | false => rw [e] at h; exact h.elim
    | true =>
      rw [e] at h
      obtain ⟨h1, h2⟩ := Bool.and_eq_true_iff.mp e
      rw [ilt_eq] at h1 h2
      exact ⟨i, j, rfl, ⟨of_decide_eq_true h1, of_decide_eq_true h2⟩, fun p hp => h (.ref p) _ ρ (post_out hp) (hr.out hp) (.tup (.of upd_same) (.cons (.int _) (.cons (.int _) .nil)))⟩
theorem ok_abs : OkC K (fun xs H Q => ∃ i, xs = [.int i] ∧ Q (.int (if i < 0 then -i else i)) H) cAbs := by
  intro ρ H c xs vs Q hr rx h
  match xs, rx, h with
  | [.int i], .cons (.int _) .nil, h =>
    refine ⟨i, rfl, ?_⟩
    have e : ((i.natAbs : Nat) : Int) = if i < 0 then -i else i := by split <;> omega
    rw [← e]
    exact h _ H ρ Post.refl hr (.int _)
theorem blsW_ok {ρ : List Addr} {H : Hp} : ∀ {ws : List W} {vs : List V} {bs : List Bool}, RpL K ρ H ws vs → blsW ws = some bs → vs = bs.map V.bl
  | [], _, bs, .nil, h => by
    cases h
    rfl
  | .bl b :: r, _, bs, .cons (.bl _) t, h => by
    have h : (match blsW r with | some bs => some (b :: bs) | none => none) = some bs := h
    cases e : blsW r with
    | none => rw [e] at h; cases h
    | some bs' =>
      rw [e] at h
      cases h
      rw [blsW_ok t e]
      rfl
  | .non :: _, _, _, .cons .non _, h => by cases h
  | .int _ :: _, _, _, .cons (.int _) _, h => by cases h
  | .str _ :: _, _, _, .cons (.str _) _, h => by cases h
  | .tup _ :: _, _, _, .cons (.tup _ _) _, h => by cases h
  | .ref _ :: _, _, _, .cons (.ref _) _, h => by cases h
theorem ok_all : OkC K (rAll K) cAll := by
  intro ρ H c xs vs Q hr rx h
  match xs, rx, h with
  | [x], .cons r1 .nil, h =>
    obtain ⟨ws, e, h⟩ := got_opt h
    obtain ⟨bs, e2, h⟩ := got_opt h
    obtain ⟨a, us, rfl, ha, rv⟩ := lstW_ok hr r1 e
    rw [blsW_ok rv e2] at ha
    exact ⟨a, bs, rfl, .of ha, h _ H ρ Post.refl hr (.bl _)⟩
  | [], .nil, h => exact h.elim
  | _ :: _ :: _, _, h => exact h.elim
theorem ok_any : OkC K (rAny K) cAny := by
  intro ρ H c xs vs Q hr rx h
  match xs, rx, h with
  | [x], .cons r1 .nil, h =>
    obtain ⟨ws, e, h⟩ := got_opt h
    obtain ⟨bs, e2, h⟩ := got_opt h
    obtain ⟨a, us, rfl, ha, rv⟩ := lstW_ok hr r1 e
    rw [blsW_ok rv e2] at ha
    exact ⟨a, bs, rfl, .of ha, h _ H ρ Post.refl hr (.bl _)⟩
  | [], .nil, h => exact h.elim
  | _ :: _ :: _, _, h => exact h.elim
end
section
variable {X : Cx} {p pos : Pos} {e e2 : Expr} {ra : EvA}
theorem q_len (hm : X.mg "len" = none) (ha : PA X [e] (tU X.K ra)) (hg : Gl X "len" := by rfl) (he : starEach [e] X.env = (false, eval e X.env) :: starEach [] X.env := by rfl) (hpl : (backTo pos (starEach [] X.env)).any (·.1) = false := by rfl) :
    PE X (.Call (.Name "len" p) [e] [] pos) (tV X.K (eCB cLen ra)) := q_cb call_len ok_len hm PySem.boot_len ha hg (by decide) (by decide) he hpl
theorem q_toInt (hm : X.mg "int" = none) (ha : PA X [e] (tU X.K ra)) (hg : Gl X "int" := by rfl) (he : starEach [e] X.env = (false, eval e X.env) :: starEach [] X.env := by rfl) (hpl : (backTo pos (starEach [] X.env)).any (·.1) = false := by rfl) :
    PE X (.Call (.Name "int" p) [e] [] pos) (tV X.K (eCB cInt ra)) := q_ct call_int1 ok_int hm (by decide +kernel) ha hg (by decide) (by decide) he hpl
theorem q_list (hm : X.mg "list" = none) (ha : PA X [e] (tU X.K ra)) (hg : Gl X "list" := by rfl) (he : starEach [e] X.env = (false, eval e X.env) :: starEach [] X.env := by rfl) (hpl : (backTo pos (starEach [] X.env)).any (·.1) = false := by rfl) :
    PE X (.Call (.Name "list" p) [e] [] pos) (tV X.K (eCB cList ra)) := q_ct call_list_of ok_list hm (by decide +kernel) ha hg (by decide) (by decide) he hpl
theorem q_tuple (hm : X.mg "tuple" = none) (ha : PA X [e] (tU X.K ra)) (hg : Gl X "tuple" := by rfl) (he : starEach [e] X.env = (false, eval e X.env) :: starEach [] X.env := by rfl) (hpl : (backTo pos (starEach [] X.env)).any (·.1) = false := by rfl) :
    PE X (.Call (.Name "tuple" p) [e] [] pos) (tV X.K (eCB cTuple ra)) := q_ct call_tuple_of ok_tuple hm (by decide +kernel) ha hg (by decide) (by decide) he hpl
theorem q_all (hm : X.mg "all" = none) (hc : X.calm = true) (ha : PA X [e] (tU X.K ra)) (hg : Gl X "all" := by rfl) (he : starEach [e] X.env = (false, eval e X.env) :: starEach [] X.env := by rfl) (hpl : (backTo pos (starEach [] X.env)).any (·.1) = false := by rfl) :
    PE X (.Call (.Name "all" p) [e] [] pos) (tV X.K (eCB cAll ra)) := q_cb (cr_all hc) ok_all hm (by decide +kernel) ha hg (by decide) (by decide) he hpl
theorem q_any (hm : X.mg "any" = none) (hc : X.calm = true) (ha : PA X [e] (tU X.K ra)) (hg : Gl X "any" := by rfl) (he : starEach [e] X.env = (false, eval e X.env) :: starEach [] X.env := by rfl) (hpl : (backTo pos (starEach [] X.env)).any (·.1) = false := by rfl) :
    PE X (.Call (.Name "any" p) [e] [] pos) (tV X.K (eCB cAny ra)) := q_cb (cr_any hc) ok_any hm (by decide +kernel) ha hg (by decide) (by decide) he hpl
theorem q_max (hm : X.mg "max" = none) (hc : X.calm = true) (ha : PA X [e, e2] (tU X.K ra)) (hg : Gl X "max" := by rfl) (he : starEach [e, e2] X.env = (false, eval e X.env) :: starEach [e2] X.env := by rfl) (hpl : (backTo pos (starEach [e2] X.env)).any (·.1) = false := by rfl) :
    PE X (.Call (.Name "max" p) [e, e2] [] pos) (tV X.K (eCB cMax ra)) := q_cb (call_max2 hc) ok_max hm (by decide +kernel) ha hg (by decide) (by decide) he hpl
theorem q_min (hm : X.mg "min" = none) (hc : X.calm = true) (ha : PA X [e, e2] (tU X.K ra)) (hg : Gl X "min" := by rfl) (he : starEach [e, e2] X.env = (false, eval e X.env) :: starEach [e2] X.env := by rfl) (hpl : (backTo pos (starEach [e2] X.env)).any (·.1) = false := by rfl) :
    PE X (.Call (.Name "min" p) [e, e2] [] pos) (tV X.K (eCB cMin ra)) := q_cb (call_min2 hc) ok_min hm (by decide +kernel) ha hg (by decide) (by decide) he hpl
theorem q_divmod (hm : X.mg "divmod" = none) (ha : PA X [e, e2] (tU X.K ra)) (hg : Gl X "divmod" := by rfl) (he : starEach [e, e2] X.env = (false, eval e X.env) :: starEach [e2] X.env := by rfl) (hpl : (backTo pos (starEach [e2] X.env)).any (·.1) = false := by rfl) :
    PE X (.Call (.Name "divmod" p) [e, e2] [] pos) (tV X.K (eCB cDivmod ra)) := q_cb call_divmod ok_divmod hm (by decide +kernel) ha hg (by decide) (by decide) he hpl
theorem q_abs (hm : X.mg "abs" = none) (ha : PA X [e] (tU X.K ra)) (hg : Gl X "abs" := by rfl) (he : starEach [e] X.env = (false, eval e X.env) :: starEach [] X.env := by rfl) (hpl : (backTo pos (starEach [] X.env)).any (·.1) = false := by rfl) :
    PE X (.Call (.Name "abs" p) [e] [] pos) (tV X.K (eCB cAbs ra)) := q_cb call_abs ok_abs hm (by decide +kernel) ha hg (by decide) (by decide) he hpl
end

/-! ### isinstance(x, T), T a built-in class -/
noncomputable def kindW : W → String
  | .non => "NoneType"
  | .bl _ => "bool"
  | .int _ => "int"
  | .str _ => "str"
  | .tup _ => "tuple"
  | .ref _ => "list"
  | .emp => "dict"
  | .mt => "list"
  | .frz _ => "list"
  | .lv _ => "list"
  | .obj _ _ => "NoneType"
  | .any => "NoneType"
noncomputable def tabTuple : W → Bool
  | .tup _ => true
  | _ => false
noncomputable def tabList : W → Bool
  | .ref _ => true
  | .mt => true
  | .frz _ => true
  | .lv _ => true
  | _ => false
noncomputable def tabBool : W → Bool
  | .bl _ => true
  | _ => false
noncomputable def tabInt : W → Bool
  | .bl _ => true
  | .int _ => true
  | _ => false
noncomputable def tabStr : W → Bool
  | .str _ => true
  | _ => false
noncomputable def tabDict : W → Bool
  | .emp => true
  | _ => false
noncomputable def eIsi (tab : W → Bool) (a : Ev) : Ev := fun ω c => (a ω c).bind fun x c1 => match x with
  | .obj _ _ => .no
  | .any => .no
  | x => .ok (.bl (tab x)) c1
noncomputable def noObj (w : W) : Prop := match w with
  | .obj _ _ => False
  | .any => False
  | _ => True
theorem tyX_of {K : PySem.W.Frag} {ρ : List Addr} {H : Hp} {c : Ch} {w : W} {v : V} (hr : RelH K ρ H c) (r : Rp K ρ H w v) (hw : noObj w) : TyX K H v (.type (kindW w)) := by
  cases r with
  | non => exact .base .non
  | bl b => exact .base (.bl b)
  | int i => exact .base (.int i)
  | str x => exact .base (.str x)
  | tup s l =>
    rcases s with (s | ⟨o, s⟩) | ⟨o, its, n, s1, s2, _⟩
    · exact .base (.tup s)
    · exact .fTuple s
    · exact .kTuple s1 s2
  | ref h =>
    obtain ⟨vs, e⟩ := hr.mem _ (List.mem_of_getElem? h)
    exact .base (.lst e)
  | emp h => exact .base (.dK h)
  | mt h _ => exact .base (.lst h)
  | frz h =>
    rcases h with h | ⟨o, h⟩ | ⟨o, _, _, h1, h2, _⟩
    · exact .base (.lst h.1)
    · exact .base (.frz h)
    · exact .kList h1 h2
  | lv h _ _ => exact .base (.lst h)
  | obj _ _ _ => exact hw.elim
  | any => exact hw.elim
section
variable {X : Cx} {p p' pos : Pos} {e : Expr} {ea : Ev}
theorem q_isi {T : String} {x : Str} {tab : W → Bool} (htab : ∀ w, kitB (kindW w) T = some (tab w)) (hT : bootBuiltins x = some (.type T)) (hmT : X.mg x = none) (hm : X.mg "isinstance" = none) (ha : PE X e (tV X.K ea)) (hgT : Gl X x := by rfl) (hnT : x ≠ "__name__" := by decide) (hdT : (x == ("__debug__" : Str)) = false := by decide) (hg : Gl X "isinstance" := by rfl)
    (h1 : starEach [e, .Name x p'] X.env = (false, eval e X.env) :: starEach [.Name x p'] X.env := by rfl) (h2 : starEach [.Name x p'] X.env = (false, eval (.Name x p') X.env) :: starEach [] X.env := by rfl) (hpl : (backTo pos (starEach [.Name x p'] X.env)).any (·.1) = false := by rfl) :
    PE X (.Call (.Name "isinstance" p) [e, .Name x p'] [] pos) (tV X.K (eIsi tab ea)) :=
  pe_imp (pe_callB call_isi hg hm (by decide +kernel) (pa_cons ha (pa_cons (pe_bltn (v := .ty T) hgT hmT hT rfl hnT hdT) pa_nil h2) h1) (by decide) (by decide) h1 hpl) fun σ H Q h => by
  obtain ⟨ρ, ω, c, hr, hs, g⟩ := h
  obtain ⟨x, c1, e1, g⟩ := Got.bind g
  refine tG_in hr hs e1 fun v H1 ρ1 p1 hr1 hs1 rx => ?_
  have key : noObj x ∧ Got X.K (Rp X.K) (.ok (.bl (tab x)) c1) ρ H Q := by
    cases x with
    | obj _ _ => exact g.elim
    | any => exact g.elim
    | _ => exact ⟨trivial, g⟩
  exact ⟨v, .ty T, .type (kindW x), .type T, tab x, rfl, .ty T, tyX_of hr1 rx key.1, kit_ty (htab x), key.2 _ H1 ρ1 p1 hr1 (.bl _)⟩
end
theorem tab_tuple : ∀ w, kitB (kindW w) "tuple" = some (tabTuple w)
  | .non => (by decide +kernel : kitB "NoneType" "tuple" = some false)
  | .bl _ => (by decide +kernel : kitB "bool" "tuple" = some false)
  | .int _ => (by decide +kernel : kitB "int" "tuple" = some false)
  | .str _ => (by decide +kernel : kitB "str" "tuple" = some false)
  | .tup _ => (by decide +kernel : kitB "tuple" "tuple" = some true)
  | .ref _ => (by decide +kernel : kitB "list" "tuple" = some false)
  | .emp => (by decide +kernel : kitB "dict" "tuple" = some false)
  | .mt => (by decide +kernel : kitB "list" "tuple" = some false)
  | .frz _ => (by decide +kernel : kitB "list" "tuple" = some false)
  | .lv _ => (by decide +kernel : kitB "list" "tuple" = some false)
  | .obj _ _ => (by decide +kernel : kitB "NoneType" "tuple" = some false)
  | .any => (by decide +kernel : kitB "NoneType" "tuple" = some false)
theorem tab_list : ∀ w, kitB (kindW w) "list" = some (tabList w)
  | .non => (by decide +kernel : kitB "NoneType" "list" = some false)
  | .bl _ => (by decide +kernel : kitB "bool" "list" = some false)
  | .int _ => (by decide +kernel : kitB "int" "list" = some false)
  | .str _ => (by decide +kernel : kitB "str" "list" = some false)
  | .tup _ => (by decide +kernel : kitB "tuple" "list" = some false)
  | .ref _ => (by decide +kernel : kitB "list" "list" = some true)
  | .emp => (by decide +kernel : kitB "dict" "list" = some false)
  | .mt => (by decide +kernel : kitB "list" "list" = some true)
  | .frz _ => (by decide +kernel : kitB "list" "list" = some true)
  | .lv _ => (by decide +kernel : kitB "list" "list" = some true)
  | .obj _ _ => (by decide +kernel : kitB "NoneType" "list" = some false)
  | .any => (by decide +kernel : kitB "NoneType" "list" = some false)
theorem tab_bool : ∀ w, kitB (kindW w) "bool" = some (tabBool w)
  | .non => (by decide +kernel : kitB "NoneType" "bool" = some false)
  | .bl _ => (by decide +kernel : kitB "bool" "bool" = some true)
  | .int _ => (by decide +kernel : kitB "int" "bool" = some false)
  | .str _ => (by decide +kernel : kitB "str" "bool" = some false)
  | .tup _ => (by decide +kernel : kitB "tuple" "bool" = some false)
  | .ref _ => (by decide +kernel : kitB "list" "bool" = some false)
  | .emp => (by decide +kernel : kitB "dict" "bool" = some false)
  | .mt => (by decide +kernel : kitB "list" "bool" = some false)
  | .frz _ => (by decide +kernel : kitB "list" "bool" = some false)
  | .lv _ => (by decide +kernel : kitB "list" "bool" = some false)
  | .obj _ _ => (by decide +kernel : kitB "NoneType" "bool" = some false)
  | .any => (by decide +kernel : kitB "NoneType" "bool" = some false)
theorem tab_int : ∀ w, kitB (kindW w) "int" = some (tabInt w)
  | .non => (by decide +kernel : kitB "NoneType" "int" = some false)
  | .bl _ => (by decide +kernel : kitB "bool" "int" = some true)
  | .int _ => (by decide +kernel : kitB "int" "int" = some true)
  | .str _ => (by decide +kernel : kitB "str" "int" = some false)
  | .tup _ => (by decide +kernel : kitB "tuple" "int" = some false)
  | .ref _ => (by decide +kernel : kitB "list" "int" = some false)
  | .emp => (by decide +kernel : kitB "dict" "int" = some false)
  | .mt => (by decide +kernel : kitB "list" "int" = some false)
  | .frz _ => (by decide +kernel : kitB "list" "int" = some false)
  | .lv _ => (by decide +kernel : kitB "list" "int" = some false)
  | .obj _ _ => (by decide +kernel : kitB "NoneType" "int" = some false)
  | .any => (by decide +kernel : kitB "NoneType" "int" = some false)
theorem tab_str : ∀ w, kitB (kindW w) "str" = some (tabStr w)
  | .non => (by decide +kernel : kitB "NoneType" "str" = some false)
  | .bl _ => (by decide +kernel : kitB "bool" "str" = some false)
  | .int _ => (by decide +kernel : kitB "int" "str" = some false)
  | .str _ => (by decide +kernel : kitB "str" "str" = some true)
  | .tup _ => (by decide +kernel : kitB "tuple" "str" = some false)
  | .ref _ => (by decide +kernel : kitB "list" "str" = some false)
  | .emp => (by decide +kernel : kitB "dict" "str" = some false)
  | .mt => (by decide +kernel : kitB "list" "str" = some false)
  | .frz _ => (by decide +kernel : kitB "list" "str" = some false)
  | .lv _ => (by decide +kernel : kitB "list" "str" = some false)
  | .obj _ _ => (by decide +kernel : kitB "NoneType" "str" = some false)
  | .any => (by decide +kernel : kitB "NoneType" "str" = some false)
theorem tab_dict : ∀ w, kitB (kindW w) "dict" = some (tabDict w)
  | .non => (by decide +kernel : kitB "NoneType" "dict" = some false)
  | .bl _ => (by decide +kernel : kitB "bool" "dict" = some false)
  | .int _ => (by decide +kernel : kitB "int" "dict" = some false)
  | .str _ => (by decide +kernel : kitB "str" "dict" = some false)
  | .tup _ => (by decide +kernel : kitB "tuple" "dict" = some false)
  | .ref _ => (by decide +kernel : kitB "list" "dict" = some false)
  | .emp => (by decide +kernel : kitB "dict" "dict" = some true)
  | .mt => (by decide +kernel : kitB "list" "dict" = some false)
  | .frz _ => (by decide +kernel : kitB "list" "dict" = some false)
  | .lv _ => (by decide +kernel : kitB "list" "dict" = some false)
  | .obj _ _ => (by decide +kernel : kitB "NoneType" "dict" = some false)
  | .any => (by decide +kernel : kitB "NoneType" "dict" = some false)
end Sm
/-! Sm5: calls of defs, statements, a def by its body -/
namespace Sm
open PySem PySem.Spec PyProof.Rows L2

/-! ### calls of defs -/
noncomputable def spR (K : PySem.W.Frag) (n : Nat) (f : FC) : Sp := fun vs H Q _ => ∃ ρ ws c, RelH K ρ H c ∧ RpL K ρ H ws vs ∧ ws.length = n ∧ Got K (Rp K) (f ws c) ρ H Q
/-- what is known of a def x of n parameters: called, it runs as f -/
structure Has (P : Program) (w : World) (K : PySem.W.Frag) (mg : Str → Option Value) (base : Heap) (k : Nat) (x : Str) (n : Nat) (f : FC) : Prop where
  ex : ∃ (CX : CXT) (fa : Addr) (fd : FuncData) (ps : List Str), FnOk P w K mg base CX k fa fd ps (spR K n f) ∧ mg x = some (.ref fa) ∧ PySem.W.keepIn K (.ref fa) = true ∧ Binds K fd ps [] ∧ ∀ X : Cx, X.prog = P → X.w = w → Passes CX X E0
noncomputable def eCall (n : Nat) (f : FC) (ra : EvA) : Ev := fun ω c => (ra ω c).bind fun ws c1 => match Nat.beq ws.length n with
  | true => f ws c1
  | false => .no
section
variable {X : Cx} {x : Str} {p pos : Pos} {e : Expr} {es : List Expr} {ra : EvA} {k n : Nat} {f : FC}
theorem tV_call {σ : L2.St} {H : Hp} {Q : VK} (h : tV X.K (eCall n f ra) σ H Q) : tCall (spR X.K n f) [] E0 (tU X.K ra) σ H Q := by
  obtain ⟨ρ, ω, c, hr, hs, g⟩ := h
  obtain ⟨ws, c1, e1, g⟩ := Got.bind g
  refine tG_in hr hs e1 fun vs H1 ρ1 p1 hr1 hs1 rx => ?_
  cases e2 : Nat.beq ws.length n with
  | false => rw [e2] at g; exact g.elim
  | true =>
    rw [e2] at g
    rw [List.append_nil]
    exact ⟨ρ1, ws, c1, hr1, rx, Nat.eq_of_beq_eq_true e2, g.after p1⟩
theorem q_call (G : Has X.prog X.w X.K X.mg X.base k x n f) (hr : Room k X.A) (ha : PA X (e :: es) (tU X.K ra)) (hg : Gl X x := by rfl) (hdb : (x == ("__debug__" : Str)) = false := by decide)
    (he : starEach (e :: es) X.env = (false, eval e X.env) :: starEach es X.env := by rfl) (hpl : (backTo pos (starEach es X.env)).any (·.1) = false := by rfl) : PE X (.Call (.Name x p) (e :: es) [] pos) (tV X.K (eCall n f ra)) := by
  obtain ⟨CX, fa, fd, ps, F, hm, hk, hb, hx⟩ := G.ex
  exact pe_imp (pe_call F hr hg hm hk hb .nil (hx X rfl rfl) ha hdb he hpl) fun _ _ _ h => tV_call h
theorem q_call0 (G : Has X.prog X.w X.K X.mg X.base k x n f) (hr : Room k X.A) (hg : Gl X x := by rfl) (hdb : (x == ("__debug__" : Str)) = false := by decide) : PE X (.Call (.Name x p) [] [] pos) (tV X.K (eCall n f aNil)) := by
  obtain ⟨CX, fa, fd, ps, F, hm, hk, hb, hx⟩ := G.ex
  exact pe_imp (pe_call0 F hr hg hm hk hb .nil (hx X rfl rfl) hdb) fun σ H Q h => by
    obtain ⟨ρ, ω, c, hr, hs, g⟩ := h
    have g : Got X.K (Rp X.K) (match Nat.beq ([] : List W).length n with | true => f [] c | false => .no) ρ H Q := g
    cases e2 : Nat.beq ([] : List W).length n with
    | false => rw [e2] at g; exact g.elim
    | true =>
      rw [e2] at g
      exact ⟨ρ, [], c, hr, .nil, Nat.eq_of_beq_eq_true e2, g⟩
end
/-- values without lists, to a depth (to a callee a list that stands apart may go) -/
noncomputable def flat : Nat → W → Bool
  | 0, _ => false
  | _ + 1, .ref _ => false
  | _ + 1, .mt => false
  | _ + 1, .frz _ => false
  | _ + 1, .lv _ => false
  | n + 1, .obj _ ws => ws.all (flat n)
  | n + 1, .tup ws => ws.all (flat n)
  | _ + 1, _ => true
noncomputable def flatA : Nat → W → Bool
  | 0, _ => false
  | _ + 1, .ref _ => false
  | n + 1, .lv ws => ws.all (flatA n)
  | n + 1, .obj _ ws => ws.all (flatA n)
  | n + 1, .tup ws => ws.all (flatA n)
  | _ + 1, _ => true
section
variable {K : PySem.W.Frag} {ρ ρ' : List Addr} {H : Hp}
theorem flatL_rp {f : W → Bool} (hf : ∀ w v, f w = true → Rp K ρ H w v → Rp K ρ' H w v) : ∀ {ws : List W} {vs : List V}, ws.all f = true → RpL K ρ H ws vs → RpL K ρ' H ws vs
  | [], _, _, .nil => .nil
  | w :: ws, _, h, .cons r t => by
    rw [List.all_cons] at h
    obtain ⟨h1, h2⟩ := Bool.and_eq_true_iff.mp h
    exact .cons (hf w _ h1 r) (flatL_rp hf h2 t)
theorem flat_rp : ∀ (n : Nat) (w : W) (v : V), flat n w = true → Rp K ρ H w v → Rp K ρ' H w v
  | 0, _, _, h, _ => by cases h
  | n + 1, .ref k, _, h, _ => by cases h
  | n + 1, .mt, _, h, _ => by cases h
  | n + 1, .frz _, _, h, _ => by cases h
  | n + 1, .lv _, _, h, _ => by cases h
  | n + 1, .obj _ ws, _, h, .obj s hl l => .obj s hl (flatL_rp (fun w v => flat_rp n w v) h l)
  | n + 1, .tup ws, _, h, .tup s l => .tup s (flatL_rp (fun w v => flat_rp n w v) h l)
  | n + 1, .emp, _, _, .emp h => .emp h
  | n + 1, .non, _, _, .non => .non
  | n + 1, .any, _, _, .any => .any
  | n + 1, .bl _, _, _, .bl b => .bl b
  | n + 1, .int _, _, _, .int b => .int b
  | n + 1, .str _, _, _, .str b => .str b
theorem flatA_rp (hs : ∀ a, a ∈ ρ' → a ∈ ρ) : ∀ (n : Nat) (w : W) (v : V), flatA n w = true → Rp K ρ H w v → Rp K ρ' H w v
  | 0, _, _, h, _ => by cases h
  | n + 1, .ref k, _, h, _ => by cases h
  | n + 1, .frz _, _, _, .frz h => .frz (h.sub hs)
  | n + 1, .lv ws, _, h, .lv h1 h2 l => .lv h1 (fun z => h2 (hs _ z)) (flatL_rp (fun w v => flatA_rp hs n w v) h l)
  | n + 1, .obj _ ws, _, h, .obj s hl l => .obj s hl (flatL_rp (fun w v => flatA_rp hs n w v) h l)
  | n + 1, .mt, _, h, .mt h1 h2 => .mt h1 fun z => h2 (hs _ z)
  | n + 1, .tup ws, _, h, .tup s l => .tup s (flatL_rp (fun w v => flatA_rp hs n w v) h l)
  | n + 1, .emp, _, _, .emp h => .emp h
  | n + 1, .non, _, _, .non => .non
  | n + 1, .any, _, _, .any => .any
  | n + 1, .bl _, _, _, .bl b => .bl b
  | n + 1, .int _, _, _, .int b => .int b
  | n + 1, .str _, _, _, .str b => .str b
end
/-- a run apart: on the empty heap, of values without lists, to such a value -/
noncomputable def alone (f : FC) : FC := fun ws c => match ws.all (flatA 9) with
  | true => match f ws Ch.nil with
    | .ok w _ => match flat 9 w with
      | true => .ok w c
      | false => .no
    | .no => .no
  | false => .no
theorem spR_alone {K : PySem.W.Frag} {n : Nat} {f : FC} {vs : List V} {H : Hp} {Q : VK} {E : XK} (h : spR K n (alone f) vs H Q E) : spR K n f vs H Q E := by
  obtain ⟨ρ, ws, c, hr, rx, hn, g⟩ := h
  have hr0 : RelH K [] H Ch.nil := ⟨rfl, List.nodup_nil, fun a ha => absurd ha List.not_mem_nil, fun n ws e => by cases e⟩
  unfold alone at g
  cases e1 : ws.all (flatA 9) with
  | false => rw [e1] at g; exact g.elim
  | true =>
    rw [e1] at g
    refine ⟨[], ws, Ch.nil, hr0, flatL_rp (fun w v => flatA_rp (fun a z => absurd z List.not_mem_nil) 9 w v) e1 rx, hn, ?_⟩
    cases e2 : f ws Ch.nil with
    | no => rw [e2] at g; exact g.elim
    | ok w c2 =>
      rw [e2] at g
      have g : Got K (Rp K) (match flat 9 w with | true => R.ok w c | false => .no) ρ H Q := g
      cases e3 : flat 9 w with
      | false => rw [e3] at g; exact g.elim
      | true =>
        rw [e3] at g
        intro v H' ρ' po hr' rv
        have po2 : Post ρ H ρ H' := ⟨⟨[], by simp, by simp⟩, fun a o e _ => po.keep a o e (by simp), po.dom⟩
        refine g v H' ρ po2 ⟨hr.len, hr.nd, fun a ha => ?_, fun n us e => ?_⟩ (flat_rp 9 w v e3 rv)
        · obtain ⟨zs, e4⟩ := hr.mem a ha
          exact ⟨zs, po.keep a _ e4 (by simp)⟩
        obtain ⟨a, zs, e4, e5, e6⟩ := hr.at_ n us e
        exact ⟨a, zs, e4, po.keep a _ e5 (by simp), e6.mono hr po2⟩
theorem Has.alone {P : Program} {w : World} {K : PySem.W.Frag} {mg : Str → Option Value} {base : Heap} {k : Nat} {x : Str} {n : Nat} {f : FC} (h : Has P w K mg base k x n f) : Has P w K mg base k x n (Sm.alone f) := by
  obtain ⟨CX, fa, fd, ps, F, r⟩ := h.ex
  exact ⟨⟨CX, fa, fd, ps, F.imp fun vs H Q E => spR_alone, r⟩⟩
theorem Has.mono {P : Program} {w : World} {K : PySem.W.Frag} {mg : Str → Option Value} {base : Heap} {j k : Nat} {x : Str} {n : Nat} {f : FC} (h : Has P w K mg base j x n f) (hk : j ≤ k) : Has P w K mg base k x n f := by
  obtain ⟨CX, fa, fd, ps, F, r⟩ := h.ex
  exact ⟨⟨CX, fa, fd, ps, F.mono hk, r⟩⟩
/-- another run that gives the same where it gives -/
theorem Has.imp {P : Program} {w : World} {K : PySem.W.Frag} {mg : Str → Option Value} {base : Heap} {k : Nat} {x : Str} {n : Nat} {f g : FC} (h : Has P w K mg base k x n f) (i : ∀ ws c a c', g ws c = .ok a c' → f ws c = .ok a c') : Has P w K mg base k x n g := by
  obtain ⟨CX, fa, fd, ps, F, r⟩ := h.ex
  refine ⟨⟨CX, fa, fd, ps, F.imp fun vs H Q E ⟨ρ, ws, c, hr, rx, hn, q⟩ => ⟨ρ, ws, c, hr, rx, hn, ?_⟩, r⟩⟩
  cases e : g ws c with
  | no => rw [e] at q; exact q.elim
  | ok a c' =>
    rw [i ws c a c' e]
    rw [e] at q
    exact q

/-! ### targets -/
abbrev EvG := W → Sl → Ch → R Sl
abbrev EvGs := List W → Sl → Ch → R Sl
abbrev relS (K : PySem.W.Frag) : Rel Sl L2.St := fun ρ H ω σ => RelS K ρ H ω σ
noncomputable def tGt (K : PySem.W.Frag) (g : EvG) : TG := fun v σ H Q => ∃ ρ w ω c, RelH K ρ H c ∧ Rp K ρ H w v ∧ RelS K ρ H ω σ ∧ Got K (relS K) (g w ω c) ρ H Q
noncomputable def tGs (K : PySem.W.Frag) (g : EvGs) : TGs := fun vs σ H Q => ∃ ρ ws ω c, RelH K ρ H c ∧ RpL K ρ H ws vs ∧ RelS K ρ H ω σ ∧ Got K (relS K) (g ws ω c) ρ H Q
noncomputable def gN (i : Nat) : EvG := fun w ω c => .ok (setK (some w) ω i) c
noncomputable def gsNil : EvGs := fun ws ω c => match ws with
  | [] => .ok ω c
  | _ => .no
noncomputable def gsCons (g : EvG) (gs : EvGs) : EvGs := fun ws ω c => match ws with
  | w :: r => (g w ω c).bind fun ω1 c1 => gs r ω1 c1
  | [] => .no
noncomputable def gT (n : Nat) (gs : EvGs) : EvG := fun w ω c => match w with
  | .tup ws => match Nat.beq ws.length n with
    | true => gs ws ω c
    | false => .no
  | _ => .no
noncomputable def setW (ws : List W) (i : Int) (w : W) : Option (List W) := match i with
  | .ofNat k => match getK ws k with
    | some _ => some (setK w ws k)
    | none => none
  | .negSucc k => match Nat.ble (k + 1) ws.length with
    | true => some (ws.set (ws.length - (k + 1)) w)
    | false => none
/-- o[i] = w -/
noncomputable def gSb (o i : Ev) : EvG := fun w ω c => (o ω c).bind fun x c1 => (i ω c1).bind fun y c2 => match x, y with
  | .ref n, .int j => match (c2.get n) with
    | some ws => match setW ws j w with
      | some us => .ok ω (c2.set n us)
      | none => .no
    | none => .no
  | _, _ => .no
section
variable {X : Cx} {pos : Pos}
theorem g_name {i : Nat} {x : Str} (hN : X.N.Nodup) (hi : X.N[i]? = some x := by rfl) (hx : Loc X.env.scope x := by first | exact Or.inl rfl | exact Or.inr rfl) (hf : X.fn x = true ∨ X.env.scope.names.lookup x = some .local := by first | exact .inl rfl | exact .inr rfl | assumption) : PG X (.Name x pos) (tGt X.K (gN i)) :=
  pg_imp (pg_name hN hi hx hf) fun v σ H Q ⟨ρ, w, ω, c, hr, rw', hs, g⟩ => g _ H ρ Post.refl hr (hs.setK rw' i)
theorem gs_imp {e : List Expr} {t t' : TGs} (h : PGs X e t) (i : ∀ v σ H Q, t' v σ H Q → t v σ H Q) : PGs X e t' := ⟨fun pins s σ H v u Q I r q => h.run pins s σ H v u Q I r (i v σ H Q q)⟩
theorem gs_nil : PGs X [] (tGs X.K gsNil) := gs_imp pgs_nil fun vs σ H Q h => by
  obtain ⟨ρ, ws, ω, c, hr, rw', hs, g⟩ := h
  cases rw' with
  | nil => exact ⟨rfl, g σ H ρ Post.refl hr hs⟩
  | cons _ _ => exact g.elim
theorem gs_cons {e : Expr} {es : List Expr} {g1 : EvG} {g2 : EvGs} (h1 : PG X e (tGt X.K g1)) (h2 : PGs X es (tGs X.K g2))
    (hs : (assignEach (e :: es) X.env).map (·.2) = assign e X.env :: (assignEach es X.env).map (·.2) := by rfl) : PGs X (e :: es) (tGs X.K (gsCons g1 g2)) := gs_imp (pgs_cons h1 h2 hs) fun vs σ H Q h => by
  obtain ⟨ρ, ws, ω, c, hr, rw', hs, g⟩ := h
  cases rw' with
  | nil => exact g.elim
  | @cons w ws v vs r1 r2 =>
    obtain ⟨ω1, c1, e1, g⟩ := Got.bind g
    refine ⟨v, vs, rfl, ρ, w, ω, c, hr, r1, hs, ?_⟩
    rw [e1]
    exact fun σ1 H1 ρ1 p1 hr1 hs1 => ⟨ρ1, ws, ω1, c1, hr1, r2.mono hr p1, hs1, g.after p1⟩
theorem g_tup {es : List Expr} {k : Nat} {gs : EvGs} {n : Nat} (hc : X.calm = true) (h : PGs X es (tGs X.K gs)) (hn : (assignEach es X.env).length = n := by rfl) (hst : (assignEach es X.env).findIdx? (·.1) = none := by rfl) :
    PG X (.Tuple es k pos) (tGt X.K (gT n gs)) := pg_imp (pg_tup hc h hn hst) fun v σ H Q h => by
  obtain ⟨ρ, w, ω, c, hr, rw', hs, g⟩ := h
  cases rw' with
  | @tup ws vs a s l =>
    have g : Got X.K (Sm.relS X.K) (match Nat.beq ws.length n with | true => gs ws ω c | false => .no) ρ H Q := g
    cases e2 : Nat.beq ws.length n with
    | false => rw [e2] at g; exact g.elim
    | true =>
      rw [e2] at g
      exact ⟨a, vs, rfl, s, by rw [← l.length]; exact Nat.eq_of_beq_eq_true e2, ρ, ws, ω, c, hr, l, hs, g⟩
  | _ => exact g.elim
theorem setW_ok {K : PySem.W.Frag} {ρ : List Addr} {H : Hp} {ws us : List W} {vs : List V} {i : Int} {w : W} {v : V} (r : RpL K ρ H ws vs) (rw' : Rp K ρ H w v) (h : setW ws i w = some us) : ∃ j, ixN vs.length i = some j ∧ RpL K ρ H us (vs.set j v) := by
  cases i with
  | ofNat k =>
    have h : (match getK ws k with | some _ => some (setK w ws k) | none => none) = some us := h
    rw [getK_eq, setK_eq] at h
    cases e0 : ws[k]? with
    | none => rw [e0] at h; cases h
    | some _ =>
      rw [e0] at h
      cases h
      have hk : k < ws.length := (List.getElem?_eq_some_iff.mp e0).1
      rw [r.length] at hk
      refine ⟨k, ?_, r.set rw' k⟩
      unfold ixN
      rw [if_pos (show (0 : Int) ≤ Int.ofNat k from Int.natCast_nonneg k), if_pos (show (Int.ofNat k) < (vs.length : Int) from Int.ofNat_lt.mpr hk)]
      rfl
  | negSucc k =>
    have h : (match Nat.ble (k + 1) ws.length with | true => some (ws.set (ws.length - (k + 1)) w) | false => none) = some us := h
    cases e0 : Nat.ble (k + 1) ws.length with
    | false => rw [e0] at h; cases h
    | true =>
      rw [e0] at h
      cases h
      have hk := Nat.le_of_ble_eq_true e0
      rw [r.length] at hk ⊢
      refine ⟨_, ?_, r.set rw' _⟩
      unfold ixN
      rw [if_neg (by omega), if_pos (by omega)]
      congr 1
      omega
theorem g_sub {o i : Expr} {eo ei : Ev} (ho : PE X o (tV X.K eo)) (hi : PE X i (tV X.K ei)) (ha : ∀ v, assign (.Subscript o i pos) X.env v = (do
      let ov ← holding [v] (eval o X.env)
      let iv ← holding [v, ov] (eval i X.env)
      standAt pos
      holding [v, ov, iv] (setItem ov iv v)
      release [v, ov, iv] []) := by intro _; rfl) : PG X (.Subscript o i pos) (tGt X.K (gSb eo ei)) := pg_imp (pg_sub ho hi set_list ha) fun v σ H Q h => by
  obtain ⟨ρ, w, ω, c, hr, rw', hs, g⟩ := h
  obtain ⟨x, c1, e1, g⟩ := Got.bind g
  refine tG_in hr hs e1 fun vo H1 ρ1 p1 hr1 hs1 rx => ?_
  obtain ⟨y, c2, e2, g⟩ := Got.bind g
  refine tG_in hr1 hs1 e2 fun vi H2 ρ2 p2 hr2 hs2 ry => ?_
  have rx := rx.mono hr1 p2
  have rw2 := (rw'.mono hr p1).mono hr1 p2
  have g := g.after (p1.trans p2)
  cases rx with
  | @ref n a hn =>
    cases ry with
    | int j =>
      have g : Got X.K (Sm.relS X.K) (match (c2.get n) with | some ws => (match setW ws j w with | some us => R.ok ω (c2.set n us) | none => .no) | none => .no) ρ2 H2 Q := g
      cases e3 : (c2.get n) with
      | none => rw [e3] at g; exact g.elim
      | some ws =>
        rw [e3] at g
        have g : Got X.K (Sm.relS X.K) (match setW ws j w with | some us => R.ok ω (c2.set n us) | none => .no) ρ2 H2 Q := g
        cases e4 : setW ws j w with
        | none => rw [e4] at g; exact g.elim
        | some us =>
          rw [e4] at g
          obtain ⟨_, vs, z, _, hA, rv⟩ := hr2.lst (.ref hn) e3
          cases z
          obtain ⟨l, e5, e6⟩ := setW_ok rv rw2 e4
          have po : Post ρ2 H2 ρ2 (upd H2 a (.lst (vs.set l v))) := post_set hA (List.mem_of_getElem? hn)
          exact ⟨a, vs, j, l, rfl, rfl, hA, e5, g σ _ ρ2 po (hr2.put hn e6) (hs2.mono hr2 po)⟩
    | _ => exact g.elim
  | _ => exact g.elim
end

/-! ### statements -/
noncomputable def sNext : EvS := fun ω c => .nx ω c
noncomputable def sSeq (s t : EvS) : EvS := fun ω c => match s ω c with
  | .nx ω1 c1 => t ω1 c1
  | .rt w c1 => .rt w c1
  | .bk ω1 c1 => .bk ω1 c1
  | .ct ω1 c1 => .ct ω1 c1
  | .no => .no
noncomputable def sSet (i : Nat) (e : Ev) : EvS := fun ω c => (e ω c).run fun w c1 => .nx (setK (some w) ω i) c1
noncomputable def sAsg (e : Ev) (g : EvG) : EvS := fun ω c => (e ω c).run fun w c1 => (g w ω c1).run fun ω1 c2 => .nx ω1 c2
noncomputable def sPar (i j : Nat) (a : EvA) : EvS := fun ω c => (a ω c).run fun ws c1 => match ws with
  | [v, w] => .nx (setK (some w) (setK (some v) ω i) j) c1
  | _ => .no
noncomputable def sIf (t : EvB) (a b : EvS) : EvS := fun ω c => (t ω c).run fun k c1 => match k with
  | true => a ω c1
  | false => b ω c1
noncomputable def sRet (e : Ev) : EvS := fun ω c => (e ω c).run fun w c1 => .rt w c1
noncomputable def sDrop (e : Ev) : EvS := fun ω c => (e ω c).run fun _ c1 => .nx ω c1
/-- o.append(e) -/
noncomputable def eApp (o e : Ev) : Ev := fun ω c => (o ω c).bind fun x c1 => (e ω c1).bind fun y c2 => match x with
  | .ref n => match (c2.get n) with
    | some ws => match Nat.blt (lenK ws) 100000 with
      | true => .ok .non (c2.set n (appK ws [y]))
      | false => .no
    | none => .no
  | _ => .no
section
variable {X : Cx} {pos : Pos} {st : Stmt} {rest : List Stmt} {a b : EvS} {e : Expr} {ea : Ev} {ra : EvA} {t : EvB}
theorem x_nil : PSs X [] (tX X.K sNext) := pss_imp pss_nil fun D σ H ⟨ρ, ω, c, hr, hs, g⟩ => g σ H ρ Post.refl hr hs
theorem x_cons (h1 : PS X st (tX X.K a)) (h2 : PSs X rest (tX X.K b)) : PSs X (st :: rest) (tX X.K (sSeq a b)) := pss_imp (pss_cons h1 h2) fun D σ H h => by
  obtain ⟨ρ, ω, c, hr, hs, g⟩ := h
  refine ⟨ρ, ω, c, hr, hs, ?_⟩
  unfold sSeq at g
  cases e : a ω c with
  | nx ω1 c1 =>
    rw [e] at g
    exact fun σ1 H1 ρ1 p1 hr1 hs1 => ⟨ρ1, ω1, c1, hr1, hs1, GotS.after g p1⟩
  | rt w c1 =>
    rw [e] at g
    exact g
  | bk ω1 c1 =>
    rw [e] at g
    exact g
  | ct ω1 c1 =>
    rw [e] at g
    exact g
  | no =>
    rw [e] at g
    exact g.elim
theorem x_one (h1 : PS X st (tX X.K a)) : PSs X [st] (tX X.K a) := pss_one h1
theorem x_set {i : Nat} {x : Str} {pos' : Pos} (hN : X.N.Nodup) (he : PE X e (tV X.K ea)) (hi : X.N[i]? = some x := by rfl) (hx : Loc X.env.scope x := by first | exact Or.inl rfl | exact Or.inr rfl) (hs : swapsWith e (some (.Name x pos')) pos.line X.env = pure false := by rfl) (hf : X.fn x = true ∨ X.env.scope.names.lookup x = some .local := by first | exact .inl rfl | exact .inr rfl | assumption) :
    PS X (.Assign [.Name x pos'] e pos) (tX X.K (sSet i ea)) := ps_imp (ps_set hN hi hx he hs hf) fun D σ H h => by
  obtain ⟨ρ, ω, c, hr, hs, g⟩ := h
  obtain ⟨w, c1, e1, g⟩ := GotS.run g
  exact tG_in hr hs e1 fun v H1 ρ1 p1 hr1 hs1 rx => g _ H1 ρ1 p1 hr1 (hs1.setK rx i)
theorem x_asg {tg : Expr} {g : EvG} (he : PE X e (tV X.K ea)) (hg : PG X tg (tGt X.K g)) (hs : swapsWithSole [tg] e pos.line X.env = pure false := by rfl) (hw : swappedStores [tg] e X.env = pure none := by rfl)
    (h1 : (assignEach [tg] X.env).map (·.2) = [assign tg X.env] := by rfl) : PS X (.Assign [tg] e pos) (tX X.K (sAsg ea g)) := ps_imp (ps_asg he hg hs hw h1) fun D σ H h => by
  obtain ⟨ρ, ω, c, hr, hs, q⟩ := h
  obtain ⟨w, c1, e1, q⟩ := GotS.run q
  obtain ⟨ω1, c2, e2, q⟩ := GotS.run q
  refine tG_in hr hs e1 fun v H1 ρ1 p1 hr1 hs1 rx => ⟨ρ1, w, ω, c1, hr1, rx, hs1, ?_⟩
  rw [e2]
  exact fun σ2 H2 ρ2 p2 hr2 hs2 => q σ2 H2 ρ2 (p1.trans p2) hr2 hs2
theorem x_par {i j : Nat} {x y : Str} {e1 e2 : Expr} {px py pt : Pos} {kt k2 pt2} (hc : X.calm = true) (hN : X.N.Nodup) (ha : PA X [e1, e2] (tU X.K ra)) (hi : X.N[i]? = some x := by rfl) (hj : X.N[j]? = some y := by rfl) (hij : i ≠ j := by decide)
    (hx : X.env.scope.names.lookup x = some .local := by rfl) (hy : X.env.scope.names.lookup y = some .local := by rfl)
    (hw : swappedStores [.Tuple [.Name x px, .Name y py] kt pt] (.Tuple [e1, e2] k2 pt2) X.env = pure (some [x, y]) := by rfl)
    (hs : swapsWithSole [.Tuple [.Name x px, .Name y py] kt pt] (.Tuple [e1, e2] k2 pt2) pos.line X.env = pure false := by rfl) :
    PS X (.Assign [.Tuple [.Name x px, .Name y py] kt pt] (.Tuple [e1, e2] k2 pt2) pos) (tX X.K (sPar i j ra)) := ps_imp (ps_par hc hN hi hj hij hx hy ha hw hs) fun D σ H h => by
  obtain ⟨ρ, ω, c, hr, hs, q⟩ := h
  obtain ⟨ws, c1, e1, q⟩ := GotS.run q
  refine tG_in hr hs e1 fun vs H1 ρ1 p1 hr1 hs1 rx => ?_
  match ws, rx, q with
  | [w1, w2], .cons (v := v1) r1 (.cons (v := v2) r2 .nil), q => exact ⟨v1, v2, rfl, q _ H1 ρ1 p1 hr1 ((hs1.setK r1 i).setK r2 j)⟩
  | [], _, q => exact q.elim
  | [_], _, q => exact q.elim
  | _ :: _ :: _ :: _, _, q => exact q.elim
theorem x_if {c : Expr} {s1 s2 : List Stmt} (hc : PT X c (tW X.K t)) (h1 : PSs X s1 (tX X.K a)) (h2 : PSs X s2 (tX X.K b)) : PS X (.If c s1 s2 pos) (tX X.K (sIf t a b)) := ps_imp (ps_if hc h1 h2) fun D σ H h => by
  obtain ⟨ρ, ω, c, hr, hs, q⟩ := h
  obtain ⟨k, c1, e1, q⟩ := GotS.run q
  refine tG_in hr hs e1 fun k' H1 ρ1 p1 hr1 hs1 rx => ?_
  have rx : k = k' := rx
  subst rx
  cases k with
  | true => exact ⟨ρ1, ω, c1, hr1, hs1, q.after p1⟩
  | false => exact ⟨ρ1, ω, c1, hr1, hs1, q.after p1⟩
theorem x_ret (he : PE X e (tV X.K ea)) : PS X (.Return (some e) pos) (tX X.K (sRet ea)) := ps_imp (ps_ret he) fun D σ H h => by
  obtain ⟨ρ, ω, c, hr, hs, q⟩ := h
  obtain ⟨w, c1, e1, q⟩ := GotS.run q
  exact tG_in hr hs e1 fun v H1 ρ1 p1 hr1 hs1 rx => q v H1 ρ1 p1 hr1 rx
theorem x_drop (he : PE X e (tV X.K ea)) (hs : swapsWith e none pos.line X.env = pure false := by rfl) : PS X (.Expr e pos) (tX X.K (sDrop ea)) := ps_imp (ps_expr he hs) fun D σ H h => by
  obtain ⟨ρ, ω, c, hr, hs, q⟩ := h
  obtain ⟨w, c1, e1, q⟩ := GotS.run q
  exact tG_in hr hs e1 fun v H1 ρ1 p1 hr1 hs1 rx => q σ H1 ρ1 p1 hr1 hs1
/-- what is not run here -/
noncomputable def sNo : EvS := fun _ _ => .no
theorem x_no : PS X st (tX X.K sNo) := ⟨fun pins s σ H D I h => by
  obtain ⟨ρ, ω, c, _, _, g⟩ := h
  exact g.elim⟩
theorem q_emp : PE X (.Dict [] [] pos) (tV X.K (eC .emp)) := pe_imp pe_dnewK fun σ H Q h => by
  obtain ⟨ρ, ω, c, hr, hs, g⟩ := h
  exact fun p hp => g (.ref p) _ ρ (post_out hp) (hr.out hp) (.emp upd_same)
theorem q_mt : PE X (.List [] pos) (tV X.K (eC .mt)) := pe_imp (pe_lst pa_nil) fun σ H Q h => by
  obtain ⟨ρ, ω, c, hr, hs, g⟩ := h
  exact ⟨Nat.zero_le _, fun p hp => g (.ref p) _ ρ (post_out hp) (hr.out hp) (.mt upd_same fun z => by
    obtain ⟨vs, e⟩ := hr.mem _ z
    rw [hp] at e
    cases e)⟩
theorem x_pass : PS X (.Pass pos) (tX X.K sNext) := ps_imp ps_pass fun D σ H ⟨ρ, ω, c, hr, hs, g⟩ => g σ H ρ Post.refl hr hs
theorem q_app {o : Expr} {eo : Ev} {apos cpos : Pos} (ho : PE X o (tV X.K eo)) (ha : PE X e (tV X.K ea)) (h1 : starEach [e] X.env = (false, eval e X.env) :: starEach [] X.env := by rfl)
    (hbase : attributeBase o "append" X.env (eval o X.env) = eval o X.env := by rfl)
    (hfew : ((backTo cpos (starEach [e] X.env)).all (fun x => !x.1) && (backToKw cpos (keywordEach [] X.env)).all (fun x => x.1.isSome)
      && decide ([e].length + ([] : List Keyword).length + (if ([] : List Keyword).isEmpty then 0 else 1) < 30)) = true := by rfl)
    (hline : (apos.endLine == cpos.line) = true := by rfl) (hplain : (backTo cpos (starEach [] X.env)).any (·.1) = false := by rfl) : PE X (.Call (.Attribute o "append" apos) [e] [] cpos) (tV X.K (eApp eo ea)) :=
  pe_imp (pe_bm PySem.F.plainAttrs_list PySem.F.slot_list_append PySem.F.type_list_append mt_append ho (pa_cons ha pa_nil h1) hbase hfew hline h1 hplain) fun σ H Q h => by
  obtain ⟨ρ, ω, c, hr, hs, g⟩ := h
  obtain ⟨x, c1, e1, g⟩ := Got.bind g
  refine tG_in hr hs e1 fun v H1 ρ1 p1 hr1 hs1 rx => ?_
  obtain ⟨y, c2, e2, g⟩ := Got.bind g
  cases rx with
  | @ref n a hn =>
    obtain ⟨us, hA0⟩ := hr1.mem _ (List.mem_of_getElem? hn)
    refine ⟨.inl ⟨rfl, _, .of hA0⟩, tG_in hr1 hs1 e2 fun vy H2 ρ2 p2 hr2 hs2 ry => ?_⟩
    have hn2 := p2.get hn
    have g := g.after (p1.trans p2)
    have g : Got X.K (Rp X.K) (match (c2.get n) with | some ws => (match Nat.blt (lenK ws) 100000 with | true => R.ok .non (c2.set n (appK ws [y])) | false => .no) | none => .no) ρ2 H2 Q := g
    cases e3 : (c2.get n) with
    | none => rw [e3] at g; exact g.elim
    | some ws =>
      rw [e3] at g
      have g : Got X.K (Rp X.K) (match Nat.blt (lenK ws) 100000 with | true => R.ok .non (c2.set n (appK ws [y])) | false => .no) ρ2 H2 Q := g
      cases e4 : Nat.blt (lenK ws) 100000 with
      | false => rw [e4] at g; exact g.elim
      | true =>
        rw [e4] at g
        obtain ⟨_, vs, z, _, hA, rv⟩ := hr2.lst (.ref hn2) e3
        cases z
        rw [appK_eq] at g
        have hl : ws.length < 100000 := by rw [Nat.blt_eq, lenK_eq] at e4; exact e4
        rw [rv.length] at hl
        have po : Post ρ2 H2 ρ2 (upd H2 a (.lst (vs ++ [vy]))) := post_set hA (List.mem_of_getElem? hn2)
        exact ⟨a, vs, vy, rfl, rfl, hA, Nat.lt_of_lt_of_le hl (by decide), g .non _ ρ2 po (hr2.put hn2 (rv.append (.cons ry .nil))) .non⟩
  | _ => exact g.elim
end

/-! ### a def by its body -/
noncomputable def runF (n m : Nat) (body : EvS) : FC := fun ws c => match body (ws.map some ++ List.replicate (m - n) none) c with
  | .rt w c1 => .ok w c1
  | .nx _ c1 => .ok .non c1
  | _ => .no
section
variable {P : Program} {w : World} {K : PySem.W.Frag} {mg : Str → Option Value} {base : Heap}
theorem startS {ρ : List Addr} {H : Hp} : ∀ {ws : List W} {vs : List V} (j : Nat), RpL K ρ H ws vs → RelS K ρ H (ws.map some ++ List.replicate j none) (vs.map some ++ List.replicate j none)
  | _, _, 0, .nil => .nil
  | _, _, j + 1, .nil => .free (startS (ws := []) (vs := []) j .nil)
  | _, _, j, .cons r t => .cons r (startS j t)
theorem fn_run {x qual : Str} {params : Arguments} {body : List Stmt} {scope : Scope} {f : Addr} {fd : FuncData} {CX : CXT} {N ps : List Str} {k n m : Nat} {bd : EvS} (F : FunD K x qual params body scope [] [] f fd) (S : FnScope N ps scope) (hn : ps.length = n) (hm : N.length = m)
    (hb : ∀ (cdv : Value) (A : Around) (outer : List Env) (s : Shared) (H : Hp) (E : XK), Room k (A.deeper (envOfC qual scope s.heap.objs.size f cdv)) → PSs (cxOf CX P w K mg base N qual scope f cdv A outer s H E).nox body (tX K bd)) :
    FnOk P w K mg base CX (k + 1) f fd ps (spR K n (runF n m bd)) := by
  subst hn hm
  refine F.ok S (fun vs H Q E ⟨ρ, ws, c, hr, rx, hl, _⟩ => by rw [← rx.length, hl]) fun cdv A outer s H vs Q E hr ⟨ρ, ws, c, hr', rx, hl, g⟩ => ⟨tX K bd, (hb cdv A outer s H E hr).nox, ρ, ws.map some ++ List.replicate (N.length - ps.length) none, c, hr', ?_, ?_⟩
  · have e : L2.start N vs = vs.map some ++ List.replicate (N.length - ps.length) none := by
      unfold L2.start
      rw [← rx.length, hl]
    rw [e]
    exact startS _ rx
  · unfold runF at g
    cases e : bd (ws.map some ++ List.replicate (N.length - ps.length) none) c with
    | rt w c1 => rw [e] at g; exact g
    | nx ω c1 =>
      rw [e] at g
      exact fun σ H' ρ' p hr' hs' => g .non H' ρ' p hr' .non
    | bk _ _ => rw [e] at g; exact g.elim
    | ct _ _ => rw [e] at g; exact g.elim
    | no => rw [e] at g; exact g.elim
theorem has_of {x : Str} {params : Arguments} {body : List Stmt} {scope : Scope} {f : Addr} {fd : FuncData} {ps : List Str} {k n : Nat} {r : FC} (F : FunD K x x params body scope [] [] f fd) (G : FnOk P w K mg base CX0 k f fd ps (spR K n r)) (hm : mg x = some (.ref f))
    (hb : ∀ (kV doc pm : Value) (an : Option Addr) (cdv ct : Value) (us : List Value), us.length = ps.length → bindArgs (PySem.W.fnOf x x params body scope .none kV doc pm an cdv ct) ⟨us, []⟩ = pure (ps.zip us)) : Has P w K mg base k x n r :=
  ⟨⟨CX0, f, fd, ps, G, hm, F.kp, F.bindsN hb, fun _ _ _ => pass0⟩⟩
end
end Sm
/-! Rx1: enumerate of a tuple -/
namespace Rx
open PySem PySem.Spec PyProof.Rows L2
theorem enum_meets {v : Value} {o : Obj} {Z : Heap → Prop} (B : Begins v o Z) :
    Meets (Builtin.«enumerate.__new__» ⟨[.type "enumerate", v], []⟩) (fun _ R s => Z s.heap ∧ R (.ok (.ret (.ref (s.heap.push o).objs.size))) { s with heap := (s.heap.push o).push { cls := .type "enumerate", data := .fields #[.none, .bool false, .ref s.heap.objs.size, rawInt 0, .none, .none] } }) :=
  .of_wp fun prog w A R st z => by
    obtain ⟨hp, g, d, tk, os⟩ := st
    obtain ⟨z1, z⟩ := z
    have hsub := sub_enumerate
    have go : ∀ {A' : Around} {E Q : Value → Shared → Prop}, Q (.ref hp.objs.size) ⟨hp.push o, g, d, tk, os⟩ → wpAny (model prog w) A' (pyIter v) Q E ⟨hp, g, d, tk, os⟩ := fun q => B.iter prog w _ _ ⟨hp, g, d, tk, os⟩ _ z1 q
    wp_walk using go
    refine wpAny_stack_any fun sk => wpAny_pure ?_
    split
    · rename_i c _ _ _ _ _
      cases (c == Value.type "enumerate") <;> (wp_walk using go; exact ⟨_, rfl, z⟩)
    · wp_walk using go
      exact ⟨_, rfl, z⟩
section
variable {prog : Program} {w : World} {A : Around} {E : Value → Shared → Prop} {s : Shared}
theorem enum_starts {v : Value} {o : Obj} {Z : Heap → Prop} {Q : Value → Shared → Prop} (B : Begins v o Z) (z : Z s.heap)
    (k : ∀ h', IsEnum h' (s.heap.objs.size + 1) s.heap.objs.size 0 .none → h'.get? s.heap.objs.size = some o → (∀ b u, s.heap.get? b = some u → h'.get? b = some u) → Q (.ref (s.heap.objs.size + 1)) { s with heap := h' }) :
    wpAny (model prog w) A (call (.type "enumerate") [v]) Q E s := by
  refine callType_new F.called_enumerate (by decide) (F.typeCall_enumerate_1 _) (F.newCall_enumerate_1 _) (fun obj => F.args_object_init_2 obj _) F.entry_enumerate_new (enum_meets B) ⟨z, ?_⟩
  have sz : (s.heap.push o).objs.size = s.heap.objs.size + 1 := Heap.size_push ..
  show _ ∧ _
  rw [sz]
  have he : IsEnum ((s.heap.push o).push { cls := .type "enumerate", data := .fields #[.none, .bool false, .ref s.heap.objs.size, rawInt 0, .none, .none] }) (s.heap.objs.size + 1) s.heap.objs.size 0 .none := by
    have q := Heap.get?_push_size (s.heap.push o) (o := { cls := .type "enumerate", data := .fields #[.none, .bool false, .ref s.heap.objs.size, rawInt 0, .none, .none] }) rfl
    rwa [sz] at q
  exact ⟨⟨_, he, rfl⟩, k _ he (Heap.get?_push_of_some _ (Heap.get?_push_size _ B.free)) fun b u x => Heap.get?_push_of_some _ (Heap.get?_push_of_some _ x)⟩
end
/-- the tuple at a as it stands at each turn, each item in a new pair -/
def IteT (K : PySem.W.Frag) (a : Addr) : It :=
  ⟨fun i H => ∃ (xs : List V) (x : V), SqT K H a xs ∧ xs[i]? = some x, fun i H v H' => ∃ T x, v = .ref T ∧ H T = none ∧ H' = upd H T (.tup [.int (i : Nat), x]) ∧ ∀ xs, SqT K H a xs → xs[i]? = some x, fun i H => ∃ xs : List V, SqT K H a xs ∧ xs.length ≤ i⟩
theorem turn_enumT {P : Program} {w : World} {K : PySem.W.Frag} {elts : List Expr} {kk : Nat} {tpos : Pos} (a e it : Addr) (hea : e ≠ a) (hia : a ≠ it) :
    Turn P w K (.Tuple elts kk tpos) (IteT K a) [e, it] e (fun i h => (∃ old, IsEnum h e it ((i : Nat) : Int) old) ∧ h.IsTupleIter it a i ∧ e ≠ it) where
  mem := List.mem_cons_self
  obj := fun i h st b hb => by
    obtain ⟨⟨old, z1⟩, ⟨o, z2, z3, z4⟩, _⟩ := st
    rcases List.mem_cons.mp hb with q | q
    · rw [q]
      exact ⟨_, z1, fun v z => nomatch z⟩
    · rw [List.mem_singleton.mp q]
      exact ⟨o, z2, fun v z => by rw [z4] at z; cases z⟩
  keep := fun i h h' st k => let ⟨⟨old, z1⟩, z2, z3⟩ := st
    ⟨⟨old, k e List.mem_cons_self _ z1⟩, z2.at fun o q => k it (by simp) o q, z3⟩
  item := by
    intro X e1 e2 e3 hc i pins s σ H E I hf st hg
    subst e1 e2 e3
    obtain ⟨⟨old, z1⟩, z2, z3⟩ := st
    obtain ⟨xs, x, hq, hx⟩ := hg
    obtain ⟨its, rv, p, _⟩ := I.tuple hq
    obtain ⟨u, hu, ru⟩ := rv.get hx
    have p : s.heap.IsTuple a its.toArray := p
    have lt1 := Heap.lt_size z1
    have lt2 : it < s.heap.objs.size := let ⟨_, q, _⟩ := z2; Heap.lt_size q
    have hi : i < its.toArray.size := by
      have := (List.getElem?_eq_some_iff.mp hu).1
      simpa using this
    have D : Draws X.prog X.w X.A.in1 it [it, a] its.toArray.size (fun i v => its.toArray[i]? = some v) (fun i h => h.IsTupleIter it a i ∧ h.IsTuple a its.toArray) := Draws.tuple (A := X.A.in1) (I.ok.hd hc) it a hia its.toArray
    have nf : e ∉ [it, a] := fun z => by
      rcases List.mem_cons.mp z with z | z
      · exact z3 z
      · exact hea (List.mem_singleton.mp z)
    refine wpAny_pyNext_enum_itemD D z1 ⟨z2, p⟩ hi z3 nf fun y h' tk hy ho st hT hsz hk => ?_
    have ey : y = u := by
      have q : its.toArray[i]? = some y := hy
      rw [List.getElem?_toArray, hu] at q
      exact (Option.some.inj q).symm
    subst ey
    refine ⟨_, rfl, wpAny_letOwnedTupleGo_enum (s := { s with heap := h', toks := tk + 1 }) ho fun h2 he2 sb => ?_⟩
    have hT2 : h2.get? s.heap.objs.size = some { cls := .type "tuple", data := .seq #[.int i tk, y] } := (sb.2 _ (Nat.ne_of_gt lt1)).trans hT
    have fresh : ObjOk X.prog X.w (upd H s.heap.objs.size (.tup [.int (i : Nat), x])) h2 s.heap.objs.size (.tup [.int (i : Nat), x]) :=
      ⟨by show 2 ≤ sizeLine; decide, [.int i tk, y], .cons ⟨_, rfl⟩ (.cons ru .nil), ⟨_, hT2, rfl, _, rfl⟩⟩
    have J : Inv X pins σ (upd H s.heap.objs.size (.tup [.int (i : Nat), x])) { s with heap := h2, toks := tk + 1 } :=
      I.turnedNew (ch := [e, it]) (fun b o hb q => by
        have n1 : b ≠ e := fun z => hb (by simp [z])
        have n2 : b ≠ it := fun z => hb (by simp [z])
        exact (sb.2 b n1).trans (hk b o n1 n2 q)) hf (Nat.le_refl _) fresh
    refine ⟨.ref s.heap.objs.size, _, J, rfl, ⟨_, x, rfl, I.hok.fresh (Nat.le_refl _), rfl, fun ys hy => by rw [I.tuple_inj hy hq]; exact hx⟩, ⟨⟨y, ?_⟩, st.1.at fun o q => (sb.2 it (Ne.symm z3)).trans q, z3⟩, fun b hb => ?_⟩
    · rw [show ((i + 1 : Nat) : Int) = (i : Int) + 1 by omega]
      exact he2
    · have lb : b < s.heap.objs.size := by
        rcases List.mem_cons.mp hb with q | q
        · rw [q]; exact lt1
        · rw [List.mem_singleton.mp q]; exact lt2
      rw [upd_ne (Nat.ne_of_lt lb)]
      exact (hf b hb).1
  done := by
    intro X e1 e2 e3 hc i pins s σ H E I hf st hg
    subst e1 e2 e3
    obtain ⟨⟨old, z1⟩, z2, z3⟩ := st
    obtain ⟨xs, hq, hx⟩ := hg
    obtain ⟨its, rv, p, _⟩ := I.tuple hq
    have p : s.heap.IsTuple a its.toArray := p
    obtain ⟨f0, f1, f2, f3, f4, f5⟩ := hf it (by simp)
    have hT : s.TypeIs (.ref e) "enumerate" := ⟨_, z1, rfl⟩
    have none_ : its.toArray[i]? = none := by
      have := rv.length
      simp
      omega
    unfold pyNext
    refine wpAny_bind (wpAny_attempt (wpAny_callSpecial?_slot (name := Str.ofString "__next__") hT F.slot_enumerate_next (wpAny_call_entry F.slot_enumerate_next hT F.entry_enumerate_next ?_ (F.args_enumerate_next_1 _))))
    show wpAny _ _ (field (.ref e) 2 >>= _) _ _ _
    refine wpAny_bind (wpAny_field z1 rfl (x := .ref it) rfl ?_)
    refine wpAny_bind (wpAny_nextOf_tuple_end (I.ok.hd hc) z2 p none_ fun h' x hb ⟨o, ho, hc'⟩ => ?_)
    refine wpAny_bind (wpAny_isInstance (T := "StopIteration") (b := true) ⟨o, ho, hc'⟩ isSubtype_stop ?_)
    exact wpAny_pure ⟨rfl, I.turned (t' := s.toks) (fun b o n q => hb b o n q) f0 f1 f3 f4 f5⟩
  self := fun A i s Q E st h => let ⟨⟨_, z⟩, _⟩ := st; wpAny_pyIter_enum z h
def iEnumT (K : PySem.W.Frag) (ta : TA) : TI := fun σ H R => ta σ H fun vs H1 => ∃ a xs, vs = [.ref a] ∧ SqT K H1 a xs ∧ R (IteT K a) H1
theorem pi_enumT {X : Cx} {e : Expr} {ta : TA} {p pos tpos : Pos} {elts : List Expr} {kk : Nat} (hg : Gl X "enumerate") (hm : X.mg "enumerate" = none) (ha : PA X [e] ta) (hs : starEach [e] X.env = [(false, eval e X.env)] := by rfl) :
    PI X (.Tuple elts kk tpos) (.Call (.Name "enumerate" p) [e] [] pos) (iEnumT X.K ta) := by
  refine ⟨fun pins s σ H R I h => ?_⟩
  refine Call_ (ld_blt I hg hm boot_enumerate (PyProof.Rows.callWith_type1 (thn (ha.run pos pins s σ H _ I h) fun us s1 ⟨vs, H1, I1, r1, q1⟩ => ?_) hs rfl))
  obtain ⟨a, xs, ex, hq, q⟩ := q1
  subst ex
  cases r1 with
  | cons r rr =>
    cases rr
    cases r
    obtain ⟨its, rv, pt, _⟩ := I1.tuple hq
    have pt : s1.heap.IsTuple a its.toArray := pt
    have la : a < s1.heap.objs.size := let ⟨_, z, _⟩ := pt; Heap.lt_size z
    refine enum_starts (begins_tuple a its.toArray) pt fun h' he hit hk => wpAny_pyIter_enum he ?_
    have I2 : Inv X pins σ H1 { s1 with heap := h' } := I1.kept (t' := s1.toks) hk
    refine ⟨s1.heap.objs.size + 1, [s1.heap.objs.size + 1, s1.heap.objs.size], _, _, H1, rfl, I2, turn_enumT a (s1.heap.objs.size + 1) s1.heap.objs.size (fun z => by rw [← z] at la; exact absurd (Nat.lt_trans (Nat.lt_succ_self _) la) (Nat.lt_irrefl _)) (fun z => by rw [z] at la; exact absurd la (Nat.lt_irrefl _)), ⟨⟨.none, he⟩, ⟨_, hit, rfl, rfl⟩, Nat.succ_ne_self _⟩, fun b hb => ?_, q⟩
    have hle : s1.heap.objs.size ≤ b := by
      rcases List.mem_cons.mp hb with z | z
      · rw [z]; exact Nat.le_succ _
      · rw [List.mem_singleton.mp z]; exact Nat.le_refl _
    exact I1.fpOk hle (I1.hok.fresh hle)
end Rx
/-! Rx2: t[::p] of a tuple, p from 2 on -/
namespace Rx
open PySem PySem.Spec PyProof.Rows L2
/-- how many there are -/
def stepN (n : Nat) (p : Int) : Nat := Builtin.Slice.slicePlaces 0 (n : Int) p
def stepL {α : Type} (xs : List α) (p : Int) : List α := (List.range (stepN xs.length p)).filterMap fun (m : Nat) => xs[(0 + (m : Int) * p).toNat]?
section
variable {prog : Program} {w : World} {A : Around} {E : Value → Shared → Prop} {s : Shared}
theorem applied_step {sl : Addr} {vs : Value} {p : Int} {n : Nat} {Q : Int × Int × Nat → Shared → Prop} (hs : s.heap.IsSliceOf sl .none .none vs) (ps : IsPart vs (some p)) (hp : 2 ≤ p) (h : Q (0, p, stepN n p) s) :
    wpAny (model prog w) A (Builtin.Slice.sliceApplied (.ref sl) (pure (n : Int))) Q E s := by
  obtain ⟨os, hos, hcs, hds⟩ := id hs
  unfold Builtin.Slice.sliceApplied Builtin.Slice.sliceFields
  refine wpAny_bind (wpAny_bind (wpAny_field hos hds (x := .none) rfl (wpAny_bind (wpAny_field hos hds (x := .none) rfl (wpAny_bind (wpAny_field hos hds (x := vs) rfl (wpAny_pure ?_)))))))
  refine wpAny_bind (HT.slicePart_ ps ?_)
  have n0 : ¬ ((p == 0) = true) := by simpa using (show ¬ p = 0 by omega)
  show wpAny _ _ (if (p == 0) = true then _ else _) _ _ s
  rw [if_neg n0]
  refine wpAny_bind (HT.slicePart_ .none (wpAny_bind (HT.slicePart_ .none (wpAny_bind (wpAny_pure ?_)))))
  have e : Builtin.Slice.sliceAdjust none none p (n : Int) = (0, (n : Int)) := by
    unfold Builtin.Slice.sliceAdjust
    simp only [show ¬ p < 0 by omega, if_false]
  show wpAny _ _ (match Builtin.Slice.sliceAdjust none none p (n : Int) with | (lo, hi) => pure (lo, p, Builtin.Slice.slicePlaces lo hi p)) _ _ s
  rw [e]
  exact wpAny_pure h
theorem stepN_le (n : Nat) (p : Int) (hp : 2 ≤ p) : stepN n p ≤ n := by
  unfold stepN Builtin.Slice.slicePlaces
  rw [if_pos (by omega)]
  split
  · rename_i h
    have h1 : ((n : Int) - 0 - 1) / p ≤ (n : Int) - 1 := by
      refine Int.le_trans (Int.ediv_le_self p (by omega)) (by omega)
    omega
  · simp
theorem stepL_length {α : Type} (xs : List α) (p : Int) (hp : 2 ≤ p) : (stepL xs p).length ≤ xs.length := by
  unfold stepL
  refine Nat.le_trans (List.length_filterMap_le _ _) ?_
  rw [List.length_range]
  exact stepN_le _ _ hp
theorem item_step {t sl : Addr} {items : Array Value} {vs : Value} {p : Int} {Q : Value → Shared → Prop} (ht : IsTup s.heap t items) (hs : s.heap.IsSliceOf sl .none .none vs) (ps : IsPart vs (some p)) (hp : 2 ≤ p)
    (h : Q (.ref s.heap.objs.size) { s with heap := s.heap.push { cls := .type "tuple", data := .seq (stepL items.toList p).toArray } }) (hsz : items.size ≤ sizeLine) : wpAny (model prog w) A (getItem (.ref t) (.ref sl)) Q E s := by
  have ok : sizeOk (.seq (stepL items.toList p).toArray) := by
    show (stepL items.toList p).toArray.size ≤ sizeLine
    rw [List.size_toArray]
    exact Nat.le_trans (stepL_length _ _ hp) (by rw [Array.length_toList]; exact hsz)
  obtain ⟨os, hos, hcs, hds⟩ := id hs
  have hTs : s.TypeIs (.ref sl) "slice" := ⟨os, hos, hcs⟩
  unfold getItem
  try with_reducible refine wpAny_holding ?_
  first | refine wpAny_bind (wpAny_pure ?_) | skip
  refine wpAny_bind (wpAny_sequenceKey ht.typeIs (by decide) ?_)
  refine wpAny_bind (wpAny_callSpecial?_slot (name := Str.ofString "__getitem__") ht.typeIs PyProof.Rows.slot_tuple_getitem (wpAny_call_entry PyProof.Rows.slot_tuple_getitem ht.typeIs entry_tuple_getitem ?_ (args_tuple_getitem _ _)))
  show wpAny _ _ (Builtin.Tuple.tupleItemsOf (.ref t) >>= _) _ _ s
  refine wpAny_bind (tupleItemsOf_ ht ?_)
  refine wpAny_bind (wpAny_typeOf hTs ?_)
  rw [if_pos (by decide)]
  refine wpAny_bind (applied_step hs ps hp ?_)
  have n1 : ¬ (((0 : Int) == 0 && p == 1 && stepN items.size p == items.size) = true) := by
    have : (p == 1) = false := by simpa using (show ¬ p = 1 by omega)
    rw [this]
    simp
  show wpAny _ _ (if ((0 : Int) == 0 && p == 1 && stepN items.size p == items.size) = true then _ else _) _ _ s
  rw [if_neg n1]
  have e : ((List.range (stepN items.size p)).filterMap fun (m : Nat) => items[((0 : Int) + (m : Int) * p).toNat]?).toArray = (stepL items.toList p).toArray := by
    unfold stepL
    rw [Array.length_toList]
    congr 2
    funext m
    rw [Array.getElem?_toList]
  rw [e]
  first
    | exact wpAny_bind (m := Builtin.Tuple.tupleExact _) (wpAny_newObj_type (wpAny_pure ⟨_, rfl, wpAny_pure h⟩) ok)
    | exact wpAny_bind (m := Builtin.Tuple.tupleExact _) (wpAny_newObj_type (wpAny_bind (wpAny_pure (wpAny_pure ⟨_, rfl, wpAny_pure h⟩))) ok)
    | exact wpAny_bind (wpAny_bind (m := Builtin.Tuple.tupleExact _) (wpAny_newObj_type (wpAny_pure (wpAny_pure ⟨_, rfl, wpAny_pure h⟩)) ok))
    | exact wpAny_bind (wpAny_bind (m := Builtin.Tuple.tupleExact _) (wpAny_newObj_type (wpAny_pure ⟨_, rfl, wpAny_pure h⟩) ok))
end
theorem Vals.filter {xs : List V} {us : List Value} (r : Vals xs us) : ∀ (ms : List Nat) (f : Nat → Nat), Vals (ms.filterMap fun m => xs[f m]?) (ms.filterMap fun m => us[f m]?)
  | [], _ => .nil
  | m :: ms, f => by
    have ih := Vals.filter r ms f
    cases hx : xs[f m]? with
    | some x =>
      obtain ⟨u, hu, ru⟩ := r.get hx
      rw [List.filterMap_cons, List.filterMap_cons, hx, hu]
      exact .cons ru ih
    | none =>
      have hu : us[f m]? = none := by
        rw [List.getElem?_eq_none_iff] at hx ⊢
        rw [← r.length]
        exact hx
      rw [List.filterMap_cons, List.filterMap_cons, hx, hu]
      exact ih
theorem stepL_vals {xs : List V} {us : List Value} (r : Vals xs us) (p : Int) : Vals (stepL xs p) (stepL us p) := by
  unfold stepL
  rw [r.length]
  exact Vals.filter r _ _
def tStep (K : PySem.W.Frag) (te ts : TE) : TE := fun σ H Q => te σ H fun x H1 => ts σ H1 fun y H2 => ∃ (a : Addr) (xs : List V) (p : Int), x = .ref a ∧ y = .int p ∧ SqT K H2 a xs ∧ 2 ≤ p ∧ ∀ q, H2 q = none → Q (.ref q) (upd H2 q (.tup (stepL xs p)))
theorem pe_step {X : Cx} {e st : Expr} {te ts : TE} {p2 pos : Pos} (he : PE X e te) (hs : PE X st ts) : PE X (.Subscript e (.Slice none none (some st) p2) pos) (tStep X.K te ts) := by
  refine ⟨fun pins s σ H Q I h => ?_⟩
  refine Subscript_ (thn (he.run pins s σ H _ I h) fun v s1 ⟨x, H1, I1, r1, q1⟩ => ?_)
  refine wpAny_Slice (thn (po_none.run pins s1 σ H1 (fun o H2 => o = none ∧ H2 = H1) I1 ⟨rfl, rfl⟩) fun vl s2 ⟨l, H2, I2, pl, el, e2⟩ => ?_)
  subst el e2
  refine thn (po_none.run pins s2 σ H2 (fun o H3 => o = none ∧ H3 = H2) I2 ⟨rfl, rfl⟩) fun vu s3 ⟨u, H3, I3, pu, eu, e3⟩ => ?_
  subst eu e3
  rw [evalPart_some]
  refine thn (hs.run pins s3 σ H3 _ I3 q1) fun vs s4 ⟨y, H4, I4, ry, a, xs, p, ex, ey, hx, hp, q⟩ => ?_
  subst ex ey
  obtain ⟨tk, rfl⟩ := id ry
  obtain rfl : v = Value.ref a := r1
  have el : vl = .none := by cases pl; rfl
  have eu : vu = .none := by cases pu; rfl
  subst el eu
  have I5 : Inv X pins σ H4 { s4 with heap := s4.heap.push { cls := .type "slice", data := .fields #[.none, .none, .int p tk] } } := I4.kept (t' := s4.toks) fun b ob q => Heap.get?_push_of_some _ q
  obtain ⟨its, r, ht, hz⟩ := I5.tuple hx
  have hl := r.length
  show wpAny (model X.prog X.w) X.A (subscriptTail e (.Slice none none (some st) p2) (.ref a) (.ref s4.heap.objs.size)) (EP X pins σ Q) X.xe { s4 with heap := s4.heap.push { cls := .type "slice", data := .fields #[.none, .none, .int p tk] } }
  refine tail_any (ops := [.ref a, .ref s4.heap.objs.size]) ht.typeIs PyProof.Rows.slot_tuple_getitem.lookup ?_ (by with_unfolding_all rfl)
  refine item_step ht (Heap.IsSliceOf.new _ .none .none (.int p tk)) (.int p tk) hp ?_ (by rw [List.size_toArray, ← hl]; exact hz)
  refine ⟨.ref _, _, I5.laid (t' := s4.toks) (o := .tup (stepL xs p)) (fun b ob q => Heap.get?_push_of_some _ q) (Nat.le_refl _) ?_, rfl, q _ (I5.hok.fresh (Nat.le_refl _))⟩
  exact ⟨Nat.le_trans (stepL_length xs p hp) hz, _, stepL_vals r p, IsTup.new _ _⟩
end Rx
/-! Rx3: a, b, *c = a list -/
namespace Rx
open PySem PySem.Spec PyProof.Rows L2
theorem walks_from {prog : Program} {w : World} {A : Around} {I : Addr} {fp wr : List Addr} {n : Nat} {P : Nat → Value → Prop} {St : Nat → Heap → Prop} (W : Walks prog w A I fp wr n P St) (k : Nat) (hk : k ≤ n) :
    Walks prog w A I fp wr (n - k) (fun i => P (i + k)) (fun i => St (i + k)) where
  sub := W.sub
  frame := fun i => W.frame (i + k)
  item := fun i s Q E hi st hQ => W.item (i + k) s Q E (by omega) st fun v h' tk p st' kk => hQ v h' tk p (by rw [show i + 1 + k = i + k + 1 by omega]; exact st') kk
  done := fun s Q E st hQ => W.done s Q E (by rw [show n - k + k = n by omega] at st; exact st) hQ
  self := fun i => W.self (i + k)
section
variable {prog : Program} {w : World} {A : Around} {E : Value → Shared → Prop} {s : Shared}
theorem draw_two {it l : Addr} {items : Array Value} {x y : Value} {Q : List Value → Shared → Prop} (hne : l ≠ it) (hit : s.heap.IsListIter it l 0) (hl : s.heap.IsList l items) (hx : items[0]? = some x) (hy : items[1]? = some y)
    (k : ∀ h', h'.IsListIter it l 2 → Heap.SameBut it s.heap h' → Q [x, y] { s with heap := h' }) : wpAny (model prog w) A (draw (.ref it) 2) Q E s := by
  show wpAny _ _ (pyNext (.ref it) >>= _) Q E s
  refine wpAny_bind (wpAny_pyNext_list_item hit hl hx fun h1 i1 b1 => ?_)
  refine wpAny_bind (wpAny_holding ?_)
  show wpAny _ _ (pyNext (.ref it) >>= _) _ E _
  refine wpAny_bind (wpAny_pyNext_list_item (s := { s with heap := h1 }) i1 (hl.extBut b1.extBut hne) hy fun h2 i2 b2 => ?_)
  refine wpAny_bind (wpAny_holding ?_)
  show wpAny _ _ (pure []) _ E _
  exact wpAny_pure (wpAny_pure (wpAny_pure (k h2 i2 (b1.trans b2))))
theorem star_items {l : Addr} {items : List Value} {x y : Value} {Q : List Value → Shared → Prop} (hh : A.handled = none) (hl : s.heap.IsList l (x :: y :: items).toArray) (hz : items.length + 2 ≤ sizeLine)
    (k : ∀ s' : Shared, (∀ b o, s.heap.get? b = some o → s'.heap.get? b = some o) → s'.gens = s.gens → s'.drawn = s.drawn → s'.os = s.os → Q [x, y, .ref s'.heap.objs.size] { s' with heap := s'.heap.push { cls := .type "list", data := .seq items.toArray } }) :
    wpAny (model prog w) A (unpackItems (.ref l) 3 (some 2)) Q E s := by
  have lt : l < s.heap.objs.size := let ⟨_, e, _⟩ := hl; Heap.lt_size e
  have hne : l ≠ s.heap.objs.size := Nat.ne_of_lt lt
  unfold unpackItems
  refine wpAny_bind ?_
  unfold notIterableAtAll
  refine wpAny_bind (wpAny_specialOf hl.typeIs F.slot_list_iter.lookup ?_)
  refine wpAny_pure ?_
  simp only [Bool.false_eq_true, if_false]
  refine wpAny_bind (wpAny_holding (wpAny_pyIter_list hl ?_))
  refine wpAny_bind (wpAny_holding (draw_two (x := x) (y := y) hne ⟨_, Heap.get?_push_size _ rfl, rfl, rfl⟩ (hl.at fun o e => Heap.get?_push_of_some _ e) rfl rfl fun h1 i1 b1 => ?_))
  rw [if_neg (by simp)]
  have k1 : ∀ b o, s.heap.get? b = some o → h1.get? b = some o := fun b o e => b1.extBut b o (Nat.ne_of_lt (Heap.lt_size e)) (Heap.get?_push_of_some _ e)
  have hl1 : h1.IsList l (x :: y :: items).toArray := hl.at fun o e => k1 _ _ e
  have W : Walks prog w A.in1 s.heap.objs.size [s.heap.objs.size, l] [s.heap.objs.size] ((x :: y :: items).toArray.size - 2) (fun i v => (x :: y :: items).toArray[i + 2]? = some v) (fun i h => h.IsListIter s.heap.objs.size l (i + 2) ∧ h.IsList l (x :: y :: items).toArray) :=
    walks_from (Walks.list (A := A.in1) hh s.heap.objs.size l hne (x :: y :: items).toArray) 2 (by simp)
  refine wpAny_bind (wpAny_holding (wpAny_collect_iter (.inr (.inr (.inl rfl))) W.toS (fun i s' st => st.1.typeIs) ⟨i1, hl1⟩ (fun b hb => ?_) List.mem_cons_self (fun s' acc mv it => ?_) (by simp; omega)))
  · have sz : s.heap.objs.size < h1.objs.size := by
      obtain ⟨_, e, _⟩ := i1
      exact Heap.lt_size e
    rcases List.mem_cons.mp hb with q | q
    · rw [q]; exact sz
    · rw [List.mem_singleton.mp q]; exact Nat.lt_trans lt sz
  · have ea : acc.toList = items := by
      refine List.ext_getElem? fun j => ?_
      have hs : acc.size = items.length := by
        have := it.1
        simpa using this
      by_cases hj : j < acc.size
      · have := it.2 j acc[j] (by simp [hj])
        have e2 : (x :: y :: items).toArray[j + 2]? = some acc[j] := this
        rw [List.getElem?_toArray, List.getElem?_cons_succ, List.getElem?_cons_succ] at e2
        rw [e2]
        simp [hj]
      · rw [List.getElem?_eq_none (by simp; omega), List.getElem?_eq_none (by omega)]
    rw [ea]
    rw [if_neg (by simp)]
    have e1 : items.take (items.length - (3 - 1 - 2)) = items := by simp
    have e2 : items.drop (items.length - (3 - 1 - 2)) = [] := by simp
    simp only [e1, e2]
    have k2 : ∀ b o, s.heap.get? b = some o → s'.heap.get? b = some o := fun b o e => mv.heap b o (fun z => absurd (List.mem_singleton.mp z) (Nat.ne_of_lt (Heap.lt_size e))) (k1 b o e)
    refine wpAny_bind (wpAny_newList ?_)
    refine wpAny_pure ?_
    exact k s' k2 mv.gens mv.drawn mv.os
end
/-- a, b, *c = the list: its first two, the rest in a new list -/
def gStar2 (t : TGs) : TG := fun v σ H Q => ∃ (a : Addr) (x y : V) (xs : List V), v = .ref a ∧ H a = some (.lst (x :: y :: xs)) ∧ ∀ p, H p = none → t [x, y, .ref p] σ (upd H p (.lst xs)) Q
theorem pg_star2 {X : Cx} {e1 e2 e3 : Expr} {ps pos : Pos} {kk : Nat} {t : TGs} (hc : X.calm = true) (h : PGs X [e1, e2, .Starred e3 ps] t) (hn : (assignEach [e1, e2, .Starred e3 ps] X.env).length = 3 := by rfl) (hst : (assignEach [e1, e2, .Starred e3 ps] X.env).findIdx? (·.1) = some 2 := by rfl) :
    PG X (.Tuple [e1, e2, .Starred e3 ps] kk pos) (gStar2 t) := by
  refine ⟨fun pins s σ H v u Q I r hw => ?_⟩
  obtain ⟨a, x, y, xs, rfl, ha, hw⟩ := hw
  obtain rfl : u = Value.ref a := r
  obtain ⟨its, rv, pl, hz⟩ := I.list (.of ha)
  cases rv with
  | cons rx rr =>
    cases rr with
    | @cons _ uy _ us ry rest =>
      rename_i ux
      have hl : s.heap.IsList a (ux :: uy :: us).toArray := pl.isList
      show wpAny _ _ (do standAt pos; unpack (.ref a) (assignEach [e1, e2, .Starred e3 ps] X.env)) _ _ s
      refine wpAny_bind (wpAny_standAt ?_)
      unfold unpack
      rw [hn, hst]
      have hlen := rest.length
      have hz' : us.length + 2 ≤ sizeLine := by
        rw [← hlen]
        exact hz
      refine wpAny_bind (wpAny_holding (star_items (I.ok.hd hc) hl hz' fun s' k1 g1 d1 o1 => ?_))
      have es : s' = { s with heap := s'.heap, toks := s'.toks } := by
        obtain ⟨h0, g0, d0, t0, o0⟩ := s'
        simp only at g1 d1 o1
        subst g1 d1 o1
        rfl
      have I1 : Inv X pins σ H s' := by
        rw [es]
        exact I.kept (t' := s'.toks) k1
      have hp : H s'.heap.objs.size = none := I1.hok.fresh (Nat.le_refl _)
      have I2 : Inv X pins σ (upd H s'.heap.objs.size (.lst xs)) { s' with heap := s'.heap.push { cls := .type "list", data := .seq us.toArray } } :=
        I1.laid (t' := s'.toks) (o := .lst xs) (fun b o e => Heap.get?_push_of_some _ e) (Nat.le_refl _) ⟨by rw [hlen]; omega, us, 0, rest, Heap.get?_push_size _ rfl⟩
      exact h.run pins _ σ _ [x, y, .ref s'.heap.objs.size] [ux, uy, .ref s'.heap.objs.size] Q I2 (.cons rx (.cons ry (.cons rfl .nil))) (hw _ hp)
end Rx
/-! Sm6: what is walked; for; comprehensions -/
namespace Sm
open PySem PySem.Spec PyProof.Rows L2

inductive Src where
  | rng (lo : Int) (n : Nat) | rngC (lo d : Int) (n : Nat) | tupl (ws : List W) | lst (k : Nat) | enu (k : Nat) | lvl (ws : List W) | enuT (ws : List W) | enuV (ws : List W) | zipT (ws us : List W)
inductive SR where
  | stop | item (w : W) | no
noncomputable def atL (ws : List W) (i : Nat) : SR := match getK ws i with
  | some w => .item w
  | none => .stop
noncomputable def atE (ws : List W) (i : Nat) : SR := match getK ws i with
  | some w => .item (.tup [.int (i : Nat), w])
  | none => .stop
noncomputable def stepS (s : Src) (i : Nat) (c : Ch) : SR := match s with
  | .rng lo n => match Nat.blt i n with
    | true => .item (.int (lo + (i : Nat)))
    | false => .stop
  | .rngC lo d n => match Nat.blt i n with
    | true => .item (.int (lo + (i : Nat) * d))
    | false => .stop
  | .tupl ws => atL ws i
  | .lst k => match (c.get k) with
    | some ws => atL ws i
    | none => .no
  | .enu k => match (c.get k) with
    | some ws => atE ws i
    | none => .no
  | .lvl ws => atL ws i
  | .enuT ws => atE ws i
  | .enuV ws => atE ws i
  | .zipT ws us => match getK ws i with
    | some w => match getK us i with
      | some u => .item (.tup [w, u])
      | none => .stop
    | none => .stop
inductive SrcAt (K : PySem.W.Frag) (ρ : List Addr) (H : Hp) : Src → It → Prop
  | rng {lo : Int} {n : Nat} : SrcAt K ρ H (.rng lo n) (Itr lo n)
  | rngC {lo d : Int} {n : Nat} : SrcAt K ρ H (.rngC lo d n) (Itc lo d n)
  | tupl {a : Addr} {vs : List V} {ws : List W} : SqT K H a vs → RpL K ρ H ws vs → SrcAt K ρ H (.tupl ws) (Itt K a)
  | lst {a : Addr} {k : Nat} : ρ[k]? = some a → SrcAt K ρ H (.lst k) (Itl K a)
  | enu {a : Addr} {k : Nat} : ρ[k]? = some a → SrcAt K ρ H (.enu k) (Ite K a)
  | lvl {a : Addr} {vs : List V} {ws : List W} : H a = some (.lst vs) → a ∉ ρ → RpL K ρ H ws vs → SrcAt K ρ H (.lvl ws) (Itl K a)
  | enuT {a : Addr} {vs : List V} {ws : List W} : SqT K H a vs → RpL K ρ H ws vs → SrcAt K ρ H (.enuT ws) (Rx.IteT K a)
  | enuV {a : Addr} {vs : List V} {ws : List W} : H a = some (.lst vs) → a ∉ ρ → RpL K ρ H ws vs → SrcAt K ρ H (.enuV ws) (Ite K a)
  | zipT {a b : Addr} {vs xs : List V} {ws us : List W} : SqT K H a vs → SqT K H b xs → RpL K ρ H ws vs → RpL K ρ H us xs → SrcAt K ρ H (.zipT ws us) (RZ.ItzT K a b)
section
variable {K : PySem.W.Frag} {ρ ρ' : List Addr} {H H' : Hp} {c : Ch} {s : Src} {J : It}
theorem SrcAt.mono (hr : RelH K ρ H c) (p : Post ρ H ρ' H') (h : SrcAt K ρ H s J) : SrcAt K ρ' H' s J := by
  cases h with
  | rng => exact .rng
  | rngC => exact .rngC
  | tupl a b => exact .tupl (hr.sqT p a) (b.mono hr p)
  | lst a => exact .lst (p.get a)
  | enu a => exact .enu (p.get a)
  | lvl a hn b => exact .lvl (p.keep _ _ a hn) (not_more p a hn) (b.mono hr p)
  | enuT a b => exact .enuT (hr.sqT p a) (b.mono hr p)
  | enuV a hn b => exact .enuV (p.keep _ _ a hn) (not_more p a hn) (b.mono hr p)
  | zipT a b d e => exact .zipT (hr.sqT p a) (hr.sqT p b) (d.mono hr p) (e.mono hr p)
noncomputable def StepOk (K : PySem.W.Frag) (ρ : List Addr) (H : Hp) (c : Ch) (J : It) (i : Nat) : SR → Prop
  | .stop => J.stop i H
  | .item w => J.go i H ∧ ∀ x H', J.yld i H x H' → Post ρ H ρ H' ∧ RelH K ρ H' c ∧ Rp K ρ H' w x
  | .no => True
theorem src_step (hr : RelH K ρ H c) (h : SrcAt K ρ H s J) (i : Nat) : StepOk K ρ H c J i (stepS s i c) := by
  cases h with
  | @rng lo n =>
    show StepOk K ρ H c (Itr lo n) i (match Nat.blt i n with | true => .item (.int (lo + (i : Nat))) | false => .stop)
    cases e : Nat.blt i n with
    | true =>
      rw [Nat.blt_eq] at e
      exact ⟨e, fun x H' ⟨h1, h2⟩ => by subst h1 h2; exact ⟨Post.refl, hr, .int _⟩⟩
    | false =>
      have : ¬ i < n := fun z => by rw [← Nat.blt_eq] at z; rw [z] at e; cases e
      exact Nat.le_of_not_lt this
  | @rngC lo d n =>
    show StepOk K ρ H c (Itc lo d n) i (match Nat.blt i n with | true => .item (.int (lo + (i : Nat) * d)) | false => .stop)
    cases e : Nat.blt i n with
    | true =>
      rw [Nat.blt_eq] at e
      exact ⟨e, fun x H' ⟨h1, h2⟩ => by subst h1 h2; exact ⟨Post.refl, hr, .int _⟩⟩
    | false =>
      have : ¬ i < n := fun z => by rw [← Nat.blt_eq] at z; rw [z] at e; cases e
      exact Nat.le_of_not_lt this
  | @tupl a vs ws hs hl =>
    show StepOk K ρ H c (Itt K a) i (atL ws i)
    unfold atL
    rw [getK_eq]
    cases e : ws[i]? with
    | none => exact ⟨vs, hs, by rw [← hl.length]; exact List.getElem?_eq_none_iff.mp e⟩
    | some w =>
      obtain ⟨v, e1, r⟩ := hl.get e
      refine ⟨⟨vs, v, hs, e1⟩, fun x H' ⟨h1, h2⟩ => ?_⟩
      subst h1
      have := h2 vs hs
      rw [e1] at this
      cases this
      exact ⟨Post.refl, hr, r⟩
  | @lst a k hk =>
    show StepOk K ρ H c (Itl K a) i (match (c.get k) with | some ws => atL ws i | none => .no)
    cases e0 : (c.get k) with
    | none => trivial
    | some ws =>
      obtain ⟨_, vs, z, _, ha, rv⟩ := hr.lst (.ref hk) e0
      cases z
      show StepOk K ρ H c (Itl K a) i (atL ws i)
      unfold atL
      rw [getK_eq]
      cases e : ws[i]? with
      | none => exact ⟨vs, .of ha, by rw [← rv.length]; exact List.getElem?_eq_none_iff.mp e⟩
      | some w =>
        obtain ⟨v, e1, r⟩ := rv.get e
        refine ⟨⟨vs, v, .of ha, e1⟩, fun x H' ⟨h1, h2⟩ => ?_⟩
        subst h1
        have := h2 vs (.of ha)
        rw [e1] at this
        cases this
        exact ⟨Post.refl, hr, r⟩
  | @enu a k hk =>
    show StepOk K ρ H c (Ite K a) i (match (c.get k) with | some ws => atE ws i | none => .no)
    cases e0 : (c.get k) with
    | none => trivial
    | some ws =>
      obtain ⟨_, vs, z, _, ha, rv⟩ := hr.lst (.ref hk) e0
      cases z
      show StepOk K ρ H c (Ite K a) i (atE ws i)
      unfold atE
      rw [getK_eq]
      cases e : ws[i]? with
      | none => exact ⟨vs, .of ha, by rw [← rv.length]; exact List.getElem?_eq_none_iff.mp e⟩
      | some w =>
        obtain ⟨v, e1, r⟩ := rv.get e
        refine ⟨⟨vs, v, .of ha, e1⟩, fun x H' ⟨T, y, h0, h1, h2, h3⟩ => ?_⟩
        subst h0 h2
        have := h3 vs (.of ha)
        rw [e1] at this
        cases this
        exact ⟨post_out h1, hr.out h1, .tup (.of upd_same) (.cons (.int _) (.cons (r.mono hr (post_out h1)) .nil))⟩
  | @lvl a vs ws ha hn hl =>
    show StepOk K ρ H c (Itl K a) i (atL ws i)
    unfold atL
    rw [getK_eq]
    cases e : ws[i]? with
    | none => exact ⟨vs, .of ha, by rw [← hl.length]; exact List.getElem?_eq_none_iff.mp e⟩
    | some w =>
      obtain ⟨v, e1, r⟩ := hl.get e
      refine ⟨⟨vs, v, .of ha, e1⟩, fun x H' ⟨h1, h2⟩ => ?_⟩
      subst h1
      have := h2 vs (.of ha)
      rw [e1] at this
      cases this
      exact ⟨Post.refl, hr, r⟩
  | @enuT a vs ws ha hl =>
    show StepOk K ρ H c (Rx.IteT K a) i (atE ws i)
    unfold atE
    rw [getK_eq]
    cases e : ws[i]? with
    | none => exact ⟨vs, ha, by rw [← hl.length]; exact List.getElem?_eq_none_iff.mp e⟩
    | some w =>
      obtain ⟨v, e1, r⟩ := hl.get e
      refine ⟨⟨vs, v, ha, e1⟩, fun x H' ⟨T, y, h0, h1, h2, h3⟩ => ?_⟩
      subst h0 h2
      have := h3 vs ha
      rw [e1] at this
      cases this
      exact ⟨post_out h1, hr.out h1, .tup (.of upd_same) (.cons (.int _) (.cons (r.mono hr (post_out h1)) .nil))⟩
  | @enuV a vs ws ha hn hl =>
    show StepOk K ρ H c (Ite K a) i (atE ws i)
    unfold atE
    rw [getK_eq]
    cases e : ws[i]? with
    | none => exact ⟨vs, .of ha, by rw [← hl.length]; exact List.getElem?_eq_none_iff.mp e⟩
    | some w =>
      obtain ⟨v, e1, r⟩ := hl.get e
      refine ⟨⟨vs, v, .of ha, e1⟩, fun x H' ⟨T, y, h0, h1, h2, h3⟩ => ?_⟩
      subst h0 h2
      have := h3 vs (.of ha)
      rw [e1] at this
      cases this
      exact ⟨post_out h1, hr.out h1, .tup (.of upd_same) (.cons (.int _) (.cons (r.mono hr (post_out h1)) .nil))⟩
  | @zipT a b vs xs ws us ha hb hl hm =>
    show StepOk K ρ H c (RZ.ItzT K a b) i (match getK ws i with | some w => (match getK us i with | some u => .item (.tup [w, u]) | none => .stop) | none => .stop)
    rw [getK_eq, getK_eq]
    cases e : ws[i]? with
    | none => exact ⟨vs, xs, ha, hb, .inl (by rw [← hl.length]; exact List.getElem?_eq_none_iff.mp e)⟩
    | some w =>
      obtain ⟨v, e1, r⟩ := hl.get e
      cases e2 : us[i]? with
      | none => exact ⟨vs, xs, ha, hb, .inr (by rw [← hm.length]; exact List.getElem?_eq_none_iff.mp e2)⟩
      | some u =>
        obtain ⟨z, e3, r2⟩ := hm.get e2
        refine ⟨⟨vs, xs, v, z, ha, hb, e1, e3⟩, fun x H' ⟨T, y, y2, h0, h1, h2, h3, h4⟩ => ?_⟩
        subst h0 h2
        have t1 := h3 vs ha
        have t2 := h4 xs hb
        rw [e1] at t1
        rw [e3] at t2
        cases t1
        cases t2
        exact ⟨post_out h1, hr.out h1, .tup (.of upd_same) (.cons (r.mono hr (post_out h1)) (.cons (r2.mono hr (post_out h1)) .nil))⟩
end

/-! ### iterables -/
abbrev EvI := Sl → Ch → R Src
abbrev tJ (K : PySem.W.Frag) (e : EvI) : TI := tG K (SrcAt K) e
noncomputable def in62 (j : Int) : Bool := Nat.blt j.natAbs 4611686018427387904
noncomputable def iR1 (a : EvA) : EvI := fun ω c => (a ω c).bind fun ws c1 => match ws with
  | [.int j] => match in62 j with
    | true => .ok (.rng 0 j.toNat) c1
    | false => .no
  | _ => .no
noncomputable def iR2 (a : EvA) : EvI := fun ω c => (a ω c).bind fun ws c1 => match ws with
  | [.int i, .int j] => match in62 i && in62 j with
    | true => .ok (.rng i (j - i).toNat) c1
    | false => .no
  | _ => .no
/-- range(i, j, -1) -/
noncomputable def iR3 (a : EvA) : EvI := fun ω c => (a ω c).bind fun ws c1 => match ws with
  | [.int i, .int j, .int d] => match in62 i && in62 j && ieq d (-1) with
    | true => .ok (.rngC i (-1) (i - j).toNat) c1
    | false => .no
  | _ => .no
noncomputable def iSq (a : Ev) : EvI := fun ω c => (a ω c).bind fun w c1 => match w with
  | .tup ws => .ok (.tupl ws) c1
  | .ref k => .ok (.lst k) c1
  | .lv ws => .ok (.lvl ws) c1
  | _ => .no
noncomputable def iEn (a : Ev) : EvI := fun ω c => (a ω c).bind fun w c1 => match w with
  | .ref k => .ok (.enu k) c1
  | .lv ws => .ok (.enuV ws) c1
  | .tup ws => .ok (.enuT ws) c1
  | _ => .no
noncomputable def iZp (a b : Ev) : EvI := fun ω c => (a ω c).bind fun x c1 => (b ω c1).bind fun y c2 => match x, y with
  | .tup ws, .tup us => .ok (.zipT ws us) c2
  | _, _ => .no
theorem in62_ok {j : Int} (h : in62 j = true) : -(2 ^ 62) ≤ j ∧ j < 2 ^ 62 := by
  unfold in62 at h
  rw [Nat.blt_eq] at h
  omega
section
variable {X : Cx} {tg a b d e : Expr} {p pos : Pos} {ra : EvA} {ea : Ev}
theorem pi_or {t t' : TI} (h : PI X tg e t) (h' : PI X tg e t') : PI X tg e (fun σ H R => t σ H R ∨ t' σ H R) := ⟨fun pins s σ H R I q => by
  rcases q with q | q
  · exact h.run pins s σ H R I q
  · exact h'.run pins s σ H R I q⟩
theorem i_rng1 (hm : X.mg "range" = none) (ha : PA X [a] (tU X.K ra)) (hg : Gl X "range" := by rfl) (hs : starEach [a] X.env = [(false, eval a X.env)] := by rfl) : PI X tg (.Call (.Name "range" p) [a] [] pos) (tJ X.K (iR1 ra)) := pi_imp (pi_range1 hg hm ha hs) fun σ H Q h => by
  obtain ⟨ρ, ω, c, hr, hs, g⟩ := h
  obtain ⟨ws, c1, e1, g⟩ := Got.bind g
  refine tG_in hr hs e1 fun vs H1 ρ1 p1 hr1 hs1 rx => ?_
  match ws, rx, g with
  | [.int j], .cons (.int _) .nil, g =>
    have g : Got X.K (SrcAt X.K) (match in62 j with | true => R.ok (.rng 0 j.toNat) c1 | false => .no) ρ H Q := g
    cases e2 : in62 j with
    | false => rw [e2] at g; exact g.elim
    | true =>
      rw [e2] at g
      obtain ⟨h1, h2⟩ := in62_ok e2
      exact ⟨j, rfl, h1, h2, g _ H1 ρ1 p1 hr1 .rng⟩
theorem i_rng2 (hm : X.mg "range" = none) (ha : PA X [a, b] (tU X.K ra)) (hg : Gl X "range" := by rfl) (hs : starEach [a, b] X.env = [(false, eval a X.env), (false, eval b X.env)] := by rfl) (hs2 : starEach [b] X.env = [(false, eval b X.env)] := by rfl) :
    PI X tg (.Call (.Name "range" p) [a, b] [] pos) (tJ X.K (iR2 ra)) := pi_imp (pi_range2 hg hm ha hs hs2) fun σ H Q h => by
  obtain ⟨ρ, ω, c, hr, hs, g⟩ := h
  obtain ⟨ws, c1, e1, g⟩ := Got.bind g
  refine tG_in hr hs e1 fun vs H1 ρ1 p1 hr1 hs1 rx => ?_
  match ws, rx, g with
  | [.int i, .int j], .cons (.int _) (.cons (.int _) .nil), g =>
    have g : Got X.K (SrcAt X.K) (match in62 i && in62 j with | true => R.ok (.rng i (j - i).toNat) c1 | false => .no) ρ H Q := g
    cases e2 : in62 i && in62 j with
    | false => rw [e2] at g; exact g.elim
    | true =>
      rw [e2] at g
      obtain ⟨h1, h2⟩ := Bool.and_eq_true_iff.mp e2
      obtain ⟨h1, h3⟩ := in62_ok h1
      obtain ⟨h2, h4⟩ := in62_ok h2
      exact ⟨i, j, rfl, ⟨h1, h3, h2, h4⟩, g _ H1 ρ1 p1 hr1 .rng⟩
theorem i_rng3 (hm : X.mg "range" = none) (ha : PA X [a, b, d] (tU X.K ra)) (hg : Gl X "range" := by rfl) (hs : starEach [a, b, d] X.env = (false, eval a X.env) :: starEach [b, d] X.env := by rfl) (hpl : (backTo pos (starEach [b, d] X.env)).any (·.1) = false := by rfl) :
    PI X tg (.Call (.Name "range" p) [a, b, d] [] pos) (tJ X.K (iR3 ra)) := pi_imp (pi_range3 hg hm ha hs hpl) fun σ H Q h => by
  obtain ⟨ρ, ω, c, hr, hs, g⟩ := h
  obtain ⟨ws, c1, e1, g⟩ := Got.bind g
  refine tG_in hr hs e1 fun vs H1 ρ1 p1 hr1 hs1 rx => ?_
  match ws, rx, g with
  | [.int i, .int j, .int k], .cons (.int _) (.cons (.int _) (.cons (.int _) .nil)), g =>
    have g : Got X.K (SrcAt X.K) (match in62 i && in62 j && ieq k (-1) with | true => R.ok (.rngC i (-1) (i - j).toNat) c1 | false => .no) ρ H Q := g
    cases e2 : in62 i && in62 j && ieq k (-1) with
    | false => rw [e2] at g; exact g.elim
    | true =>
      rw [e2] at g
      obtain ⟨h12, h5⟩ := Bool.and_eq_true_iff.mp e2
      obtain ⟨h1, h2⟩ := Bool.and_eq_true_iff.mp h12
      obtain ⟨h1, h3⟩ := in62_ok h1
      obtain ⟨h2, h4⟩ := in62_ok h2
      rw [ieq_eq] at h5
      have h5 := of_decide_eq_true h5
      exact ⟨i, j, -1, _, by rw [h5], RgC.neg h1 h3 h2 h4, g _ H1 ρ1 p1 hr1 .rngC⟩
theorem i_seq (he : PE X e (tV X.K ea)) : PI X tg e (tJ X.K (iSq ea)) := pi_imp (pi_or (pi_list he) (pi_tup he)) fun σ H Q h => by
  obtain ⟨ρ, ω, c, hr, hs, g⟩ := h
  obtain ⟨w, c1, e1, g⟩ := Got.bind g
  cases w with
  | tup ws =>
    refine .inr (tG_in hr hs e1 fun vs H1 ρ1 p1 hr1 hs1 rx => ?_)
    cases rx with
    | tup s l => exact ⟨_, rfl, ⟨_, s⟩, g _ H1 ρ1 p1 hr1 (.tupl s l)⟩
  | ref k =>
    refine .inl (tG_in hr hs e1 fun vs H1 ρ1 p1 hr1 hs1 rx => ?_)
    cases rx with
    | ref hk =>
      obtain ⟨us, e2⟩ := hr1.mem _ (List.mem_of_getElem? hk)
      exact ⟨_, rfl, ⟨us, .of e2⟩, g _ H1 ρ1 p1 hr1 (.lst hk)⟩
  | lv ws =>
    refine .inl (tG_in hr hs e1 fun vs H1 ρ1 p1 hr1 hs1 rx => ?_)
    cases rx with
    | lv ha hn hl => exact ⟨_, rfl, ⟨_, .of ha⟩, g _ H1 ρ1 p1 hr1 (.lvl ha hn hl)⟩
  | _ => exact g.elim
theorem i_zip {tpos : Pos} {elts : List Expr} {kk : Nat} {ea eb : Ev} (hm : X.mg "zip" = none) (ha : PE X a (tV X.K ea)) (hb : PE X b (tV X.K eb)) (hg : Gl X "zip" := by rfl) (hs : starEach [a, b] X.env = (false, eval a X.env) :: starEach [b] X.env := by rfl)
    (hs1 : starEach [b] X.env = (false, eval b X.env) :: starEach [] X.env := by rfl) (hpl : (backTo pos (starEach [b] X.env)).any (·.1) = false := by rfl) :
    PI X (.Tuple elts kk tpos) (.Call (.Name "zip" p) [a, b] [] pos) (tJ X.K (iZp ea eb)) := pi_imp (RZ.pi_zipA hg hm (pa_cons ha (pa_cons hb pa_nil hs1) hs) hs hpl) fun σ H Q h => by
  obtain ⟨ρ, ω, c, hr, hs, g⟩ := h
  obtain ⟨x, c1, e1, g⟩ := Got.bind g
  refine tG_in hr hs e1 fun v H1 ρ1 p1 hr1 hs1 rx => ?_
  obtain ⟨y, c2, e2, g⟩ := Got.bind g
  refine tG_in hr1 hs1 e2 fun u H2 ρ2 p2 hr2 hs2 ry => ?_
  have rx := rx.mono hr1 p2
  cases rx with
  | tup s l =>
    cases ry with
    | tup s' l' => exact ⟨_, _, _, _, rfl, .inr ⟨s, s', g _ H2 ρ2 (p1.trans p2) hr2 (.zipT s s' l l')⟩⟩
    | _ => exact g.elim
  | _ => exact g.elim
theorem i_enum {tpos : Pos} {elts : List Expr} {kk : Nat} (hm : X.mg "enumerate" = none) (ha : PE X e (tV X.K ea)) (hg : Gl X "enumerate" := by rfl) (hs : starEach [e] X.env = [(false, eval e X.env)] := by rfl) (hs1 : starEach [e] X.env = (false, eval e X.env) :: starEach [] X.env := by rfl) :
    PI X (.Tuple elts kk tpos) (.Call (.Name "enumerate" p) [e] [] pos) (tJ X.K (iEn ea)) := pi_imp (pi_or (pi_enum hg hm (pa_cons ha pa_nil hs1) hs) (Rx.pi_enumT hg hm (pa_cons ha pa_nil hs1) hs)) fun σ H Q h => by
  obtain ⟨ρ, ω, c, hr, hs, g⟩ := h
  obtain ⟨w, c1, e1, g⟩ := Got.bind g
  cases w with
  | ref k =>
    refine .inl (tG_in hr hs e1 fun vs H1 ρ1 p1 hr1 hs1 rx => ?_)
    cases rx with
    | @ref _ a hk =>
      obtain ⟨us, e2⟩ := hr1.mem _ (List.mem_of_getElem? hk)
      exact ⟨a, us, rfl, .of e2, g _ H1 ρ1 p1 hr1 (.enu hk)⟩
  | lv ws =>
    refine .inl (tG_in hr hs e1 fun vs H1 ρ1 p1 hr1 hs1 rx => ?_)
    cases rx with
    | lv h1 h2 h3 => exact ⟨_, _, rfl, .of h1, g _ H1 ρ1 p1 hr1 (.enuV h1 h2 h3)⟩
  | tup ws =>
    refine .inr (tG_in hr hs e1 fun vs H1 ρ1 p1 hr1 hs1 rx => ?_)
    cases rx with
    | tup s l => exact ⟨_, _, rfl, s, g _ H1 ρ1 p1 hr1 (.enuT s l)⟩
  | _ => exact g.elim
end

/-! ### for -/
noncomputable def loopS (s : Src) (g : EvG) (body : EvS) (n : Nat) : Nat → Sl → Ch → RS := Nat.rec (motive := fun _ => Nat → Sl → Ch → RS) (fun _ _ _ => .no) (fun _ ih i ω c => match stepS s i c with
    | .stop => .nx ω c
    | .no => .no
    | .item w => match g w ω c with
      | .no => .no
      | .ok ω1 c1 => match body ω1 c1 with
        | .nx ω2 c2 => ih (i + 1) ω2 c2
        | .ct ω2 c2 => ih (i + 1) ω2 c2
        | .bk ω2 c2 => .nx ω2 c2
        | .rt w c2 => .rt w c2
        | .no => .no) n
theorem loopS_succ (s : Src) (g : EvG) (body : EvS) (n i : Nat) (ω : Sl) (c : Ch) : loopS s g body (n + 1) i ω c = (match stepS s i c with
    | .stop => .nx ω c
    | .no => .no
    | .item w => match g w ω c with
      | .no => .no
      | .ok ω1 c1 => match body ω1 c1 with
        | .nx ω2 c2 => loopS s g body n (i + 1) ω2 c2
        | .ct ω2 c2 => loopS s g body n (i + 1) ω2 c2
        | .bk ω2 c2 => .nx ω2 c2
        | .rt w c2 => .rt w c2
        | .no => .no) := rfl
noncomputable def sFor (fuel : Nat) (it : EvI) (g : EvG) (body : EvS) : EvS := fun ω c => (it ω c).run fun s c1 => loopS s g body fuel 0 ω c1
theorem x_for {X : Cx} {tg iter : Expr} {body : List Stmt} {it : EvI} {g : EvG} {bd : EvS} {pos : Pos} (fuel : Nat) (hp : PassesOwn (model X.prog X.w) X.A X.env X.xe) (hc : X.calm = true) (hi : PI X tg iter (tJ X.K it)) (hg : PG X tg (tGt X.K g)) (hb : PSs X body (tX X.K bd))
    (hs : ∀ x, foldedSetIterable iter X.env x = pure x := by intro _; rfl) : PS X (.For tg iter body [] pos) (tX X.K (sFor fuel it g bd)) := ps_imp (ps_for hp hc hi hg hb hs) fun D σ H h => by
  obtain ⟨ρ, ω, c, hr, hs, q⟩ := h
  obtain ⟨s, c1, e1, q⟩ := GotS.run q
  refine tG_in hr hs e1 fun J H1 ρ1 p1 hr1 hs1 sj => ?_
  refine ⟨fun i m σ' H' => ∃ ρ' ω' c', RelH X.K ρ' H' c' ∧ RelS X.K ρ' H' ω' σ' ∧ SrcAt X.K ρ' H' s J ∧ GotS X.K (loopS s g bd m i ω' c') ρ' H' D, ⟨fuel, ρ1, ω, c1, hr1, hs1, sj, q.after p1⟩, ?_⟩
  rintro i m σ' H' ⟨ρ', ω', c', hr', hs', sj', q'⟩
  cases m with
  | zero => exact q'.elim
  | succ n =>
    have st := src_step hr' sj' i
    have q' : GotS X.K (match stepS s i c' with
      | .stop => .nx ω' c'
      | .no => .no
      | .item w => match g w ω' c' with
        | .no => .no
        | .ok ω1 c1 => match bd ω1 c1 with
          | .nx ω2 c2 => loopS s g bd n (i + 1) ω2 c2
          | .ct ω2 c2 => loopS s g bd n (i + 1) ω2 c2
          | .bk ω2 c2 => .nx ω2 c2
          | .rt w c2 => .rt w c2
          | .no => .no) ρ' H' D := q'
    cases e2 : stepS s i c' with
    | no => rw [e2] at q'; exact q'.elim
    | stop =>
      rw [e2] at q' st
      exact .inl ⟨st, q' σ' H' ρ' Post.refl hr' hs'⟩
    | item w =>
      rw [e2] at q' st
      obtain ⟨go, st⟩ := st
      refine .inr ⟨go, fun σ2 H2 => ∃ ρ2 ω2 c2, RelH X.K ρ2 H2 c2 ∧ RelS X.K ρ2 H2 ω2 σ2 ∧ SrcAt X.K ρ2 H2 s J ∧ GotS X.K (loopS s g bd n (i + 1) ω2 c2) ρ2 H2 D, fun σ2 H2 z => ⟨n, Nat.lt_succ_self n, z⟩, fun x H2 y => ?_⟩
      obtain ⟨p2, hr2, rx⟩ := st x H2 y
      have q' : GotS X.K (match g w ω' c' with
        | .no => .no
        | .ok ω1 c1 => match bd ω1 c1 with
          | .nx ω2 c2 => loopS s g bd n (i + 1) ω2 c2
          | .ct ω2 c2 => loopS s g bd n (i + 1) ω2 c2
          | .bk ω2 c2 => .nx ω2 c2
          | .rt w c2 => .rt w c2
          | .no => .no) ρ' H' D := q'
      refine ⟨ρ', w, ω', c', hr2, rx, hs'.mono hr' p2, ?_⟩
      cases e3 : g w ω' c' with
      | no => rw [e3] at q'; exact q'.elim
      | ok ω3 c3 =>
        rw [e3] at q'
        intro σ3 H3 ρ3 p3 hr3 hs3
        have p13 := p2.trans p3
        have q' : GotS X.K (match bd ω3 c3 with
          | .nx ω2 c2 => loopS s g bd n (i + 1) ω2 c2
          | .ct ω2 c2 => loopS s g bd n (i + 1) ω2 c2
          | .bk ω2 c2 => .nx ω2 c2
          | .rt w c2 => .rt w c2
          | .no => .no) ρ' H' D := q'
        have sj3 := sj'.mono hr' p13
        refine ⟨ρ3, ω3, c3, hr3, hs3, ?_⟩
        cases e4 : bd ω3 c3 with
        | nx ω4 c4 =>
          rw [e4] at q'
          exact fun σ4 H4 ρ4 p4 hr4 hs4 => ⟨ρ4, ω4, c4, hr4, hs4, sj3.mono hr3 p4, GotS.after q' (p13.trans p4)⟩
        | ct ω4 c4 =>
          rw [e4] at q'
          exact fun σ4 H4 ρ4 p4 hr4 hs4 => ⟨ρ4, ω4, c4, hr4, hs4, sj3.mono hr3 p4, GotS.after q' (p13.trans p4)⟩
        | bk ω4 c4 =>
          rw [e4] at q'
          exact fun σ4 H4 ρ4 p4 hr4 hs4 => q' σ4 H4 ρ4 (p13.trans p4) hr4 hs4
        | rt w4 c4 =>
          rw [e4] at q'
          exact fun v4 H4 ρ4 p4 hr4 hs4 => q' v4 H4 ρ4 (p13.trans p4) hr4 hs4
        | no => rw [e4] at q'; exact q'.elim

/-! ### comprehensions -/
noncomputable def wipeW (ω : Sl) : List Nat → Sl
  | [] => ω
  | v :: vs => setK none (wipeW ω vs) v
theorem wipe_rel {K : PySem.W.Frag} {ρ : List Addr} {H : Hp} {ω : Sl} {σ : L2.St} (r : RelS K ρ H ω σ) : ∀ vs : List Nat, RelS K ρ H (wipeW ω vs) (wipe σ vs)
  | [] => r
  | v :: vs => (wipe_rel r vs).unsetK v none
/-- a comprehension's target: names of the block alone -/
noncomputable def Gc (K : PySem.W.Frag) (vs : List Nat) (g : TG) (ge : EvG) : Prop := ∀ (ρ : List Addr) (H : Hp) (c : Ch) (w : W) (v : V) (ω : Sl) (σ : L2.St) (Q : L2.St → Hp → Prop), RelH K ρ H c → Rp K ρ H w v → RelS K ρ H ω σ →
  Got K (fun ρ H ω1 σ1 => RelS K ρ H ω1 σ1 ∧ wipe σ1 vs = wipe σ vs) (ge w ω c) ρ H Q → g v σ H Q
noncomputable def Gcs (K : PySem.W.Frag) (vs : List Nat) (g : TGs) (ge : EvGs) : Prop := ∀ (ρ : List Addr) (H : Hp) (c : Ch) (ws : List W) (us : List V) (ω : Sl) (σ : L2.St) (Q : L2.St → Hp → Prop), RelH K ρ H c → RpL K ρ H ws us → RelS K ρ H ω σ →
  Got K (fun ρ H ω1 σ1 => RelS K ρ H ω1 σ1 ∧ wipe σ1 vs = wipe σ vs) (ge ws ω c) ρ H Q → g us σ H Q
theorem wipe_set_comm {σ : L2.St} {x : Option V} {j : Nat} : ∀ {vs : List Nat}, j ∈ vs → wipe (σ.set j x) vs = wipe σ vs
  | v :: vs, h => by
    have e1 : wipe (σ.set j x) (v :: vs) = (wipe (σ.set j x) vs).set v none := rfl
    have e2 : wipe σ (v :: vs) = (wipe σ vs).set v none := rfl
    rw [e1, e2]
    by_cases hm : j ∈ vs
    · rw [wipe_set_comm hm]
    · have hj : j = v := by
        rcases List.mem_cons.mp h with z | z
        · exact z
        · exact absurd z hm
      subst hj
      rw [wipe_set_out hm, List.set_set]
where
  wipe_set_out {σ : L2.St} {x : Option V} {j : Nat} : ∀ {vs : List Nat}, j ∉ vs → wipe (σ.set j x) vs = (wipe σ vs).set j x
    | [], _ => rfl
    | v :: vs, h => by
      have e1 : wipe (σ.set j x) (v :: vs) = (wipe (σ.set j x) vs).set v none := rfl
      have e2 : wipe σ (v :: vs) = (wipe σ vs).set v none := rfl
      rw [e1, e2, wipe_set_out (fun z => h (List.mem_cons_of_mem _ z)), List.set_comm _ _ (fun z => h (by rw [z]; exact List.mem_cons_self))]
section
variable {K : PySem.W.Frag} {vs : List Nat}
theorem gc_name {i : Nat} (h : i ∈ vs) : Gc K vs (gName i) (gN i) := fun ρ H c w v ω σ Q hr rx hs g => g _ H ρ Post.refl hr ⟨hs.setK rx i, wipe_set_comm h⟩
theorem gcs_nil : Gcs K vs gNil gsNil := fun ρ H c ws us ω σ Q hr rx hs g => by
  cases rx with
  | nil => exact ⟨rfl, g σ H ρ Post.refl hr ⟨hs, rfl⟩⟩
  | cons _ _ => exact g.elim
theorem gcs_cons {g1 : TG} {g2 : TGs} {e1 : EvG} {e2 : EvGs} (h1 : Gc K vs g1 e1) (h2 : Gcs K vs g2 e2) : Gcs K vs (gCons g1 g2) (gsCons e1 e2) := fun ρ H c ws us ω σ Q hr rx hs g => by
  cases rx with
  | nil => exact g.elim
  | @cons w ws v us r1 r2 =>
    obtain ⟨ω1, c1, e, g⟩ := Got.bind g
    refine ⟨v, us, rfl, h1 ρ H c w v ω σ _ hr r1 hs ?_⟩
    rw [e]
    intro σ1 H1 ρ1 p1 hr1 ⟨hs1, hw⟩
    have g := g.after p1
    rw [← hw] at g
    exact h2 ρ1 H1 c1 ws us ω1 σ1 Q hr1 (r2.mono hr p1) hs1 g
theorem gc_tup {g : TGs} {e : EvGs} {n : Nat} (h : Gcs K vs g e) : Gc K vs (gTup K n g) (gT n e) := fun ρ H c w v ω σ Q hr rx hs q => by
  cases rx with
  | @tup ws us a s l =>
    have q : Got K (fun ρ H ω1 σ1 => RelS K ρ H ω1 σ1 ∧ wipe σ1 vs = wipe σ vs) (match Nat.beq ws.length n with | true => e ws ω c | false => .no) ρ H Q := q
    cases e2 : Nat.beq ws.length n with
    | false => rw [e2] at q; exact q.elim
    | true =>
      rw [e2] at q
      exact ⟨a, us, rfl, s, by rw [← l.length]; exact Nat.eq_of_beq_eq_true e2, h ρ H c ws us ω σ Q hr l hs q⟩
  | _ => exact q.elim
end
noncomputable def loopC (s : Src) (g : EvG) (t : EvB) (e : Ev) (ω : Sl) (k : Nat) (n : Nat) : Nat → Ch → R W := Nat.rec (motive := fun _ => Nat → Ch → R W) (fun _ _ => .no) (fun _ ih i c => match stepS s i c with
    | .stop => .ok (.ref k) c
    | .no => .no
    | .item w => match g w ω c with
      | .no => .no
      | .ok ω1 c1 => match t ω1 c1 with
        | .no => .no
        | .ok false c2 => ih (i + 1) c2
        | .ok true c2 => match e ω1 c2 with
          | .no => .no
          | .ok y c3 => match (c3.get k) with
            | none => .no
            | some acc => match Nat.blt (lenK acc) 100000 with
              | true => ih (i + 1) (c3.set k (appK acc [y]))
              | false => .no) n
noncomputable def eLc (fuel : Nat) (vs : List Nat) (it : EvI) (g : EvG) (t : EvB) (e : Ev) : Ev := fun ω c => (it ω c).bind fun s c1 => loopC s g t e (wipeW ω vs) c1.length fuel 0 (c1.push [])
noncomputable def bYes : EvB := fun _ c => .ok true c
theorem tV_lc {K : PySem.W.Frag} {fuel : Nat} {vs : List Nat} {it : EvI} {gt : TG} {g : EvG} {t : EvB} {e : Ev} (hg : Gc K vs gt g) {σ : L2.St} {H : Hp} {Q : VK} (h : tV K (eLc fuel vs it g t e) σ H Q) : tLc (tJ K it) gt (tW K t) (tV K e) vs σ H Q := by
  obtain ⟨ρ, ω, c, hr, hs, q⟩ := h
  obtain ⟨s, c1, e1, q⟩ := Got.bind q
  refine tG_in hr hs e1 fun J H1 ρ1 p1 hr1 hs1 sj => fun D hD => ?_
  have po : Post ρ1 H1 (ρ1 ++ [D]) (upd H1 D (.lst [])) := post_new hD
  have hk : (ρ1 ++ [D])[c1.length]? = some D := by
    rw [← hr1.len, List.getElem?_append_right (Nat.le_refl _)]
    simp
  refine ⟨fun i m H' => ∃ ρ' c', RelH K ρ' H' c' ∧ RelS K ρ' H' (wipeW ω vs) (wipe σ vs) ∧ SrcAt K ρ' H' s J ∧ ρ'[c1.length]? = some D ∧ Got K (Rp K) (loopC s g t e (wipeW ω vs) c1.length m i c') ρ' H' Q,
    ⟨fuel, _, _, hr1.new hD .nil, (wipe_rel hs1 vs).mono hr1 po, sj.mono hr1 po, hk, q.after (p1.trans po)⟩, ?_⟩
  rintro i m H' ⟨ρ', c', hr', hs', sj', hk', q'⟩
  cases m with
  | zero => exact q'.elim
  | succ n =>
    have st := src_step hr' sj' i
    have q' : Got K (Rp K) (match stepS s i c' with
      | .stop => .ok (.ref c1.length) c'
      | .no => .no
      | .item w => match g w (wipeW ω vs) c' with
        | .no => .no
        | .ok ω1 c2 => match t ω1 c2 with
          | .no => .no
          | .ok false c2 => loopC s g t e (wipeW ω vs) c1.length n (i + 1) c2
          | .ok true c2 => match e ω1 c2 with
            | .no => .no
            | .ok y c3 => match (c3.get (c1.length)) with
              | none => .no
              | some acc => match Nat.blt (lenK acc) 100000 with
                | true => loopC s g t e (wipeW ω vs) c1.length n (i + 1) (c3.set c1.length (appK acc [y]))
                | false => .no) ρ' H' Q := q'
    cases e2 : stepS s i c' with
    | no => rw [e2] at q'; exact q'.elim
    | stop =>
      rw [e2] at q' st
      exact .inl ⟨st, q' (.ref D) H' ρ' Post.refl hr' (.ref hk')⟩
    | item w =>
      rw [e2] at q' st
      obtain ⟨go, st⟩ := st
      refine .inr ⟨go, fun H2 => ∃ ρ2 c2, RelH K ρ2 H2 c2 ∧ RelS K ρ2 H2 (wipeW ω vs) (wipe σ vs) ∧ SrcAt K ρ2 H2 s J ∧ ρ2[c1.length]? = some D ∧ Got K (Rp K) (loopC s g t e (wipeW ω vs) c1.length n (i + 1) c2) ρ2 H2 Q, fun H2 z => ⟨n, Nat.lt_succ_self n, z⟩, fun x H2 y => ?_⟩
      obtain ⟨p2, hr2, rx⟩ := st x H2 y
      refine hg ρ' H2 c' w x (wipeW ω vs) (wipe σ vs) _ hr2 rx (hs'.mono hr' p2) ?_
      have q' : Got K (Rp K) (match g w (wipeW ω vs) c' with
        | .no => .no
        | .ok ω1 c2 => match t ω1 c2 with
          | .no => .no
          | .ok false c2 => loopC s g t e (wipeW ω vs) c1.length n (i + 1) c2
          | .ok true c2 => match e ω1 c2 with
            | .no => .no
            | .ok y c3 => match (c3.get (c1.length)) with
              | none => .no
              | some acc => match Nat.blt (lenK acc) 100000 with
                | true => loopC s g t e (wipeW ω vs) c1.length n (i + 1) (c3.set c1.length (appK acc [y]))
                | false => .no) ρ' H' Q := q'
      cases e3 : g w (wipeW ω vs) c' with
      | no => rw [e3] at q'; exact q'.elim
      | ok ω3 c3 =>
        rw [e3] at q'
        intro σ3 H3 ρ3 p3 hr3 ⟨hs3, hw3⟩
        have p13 := p2.trans p3
        have wipe2 : ∀ us : List Nat, wipe (wipe σ vs) us = wipe (wipe σ vs) us := fun _ => rfl
        refine ⟨hw3.trans (wipe_wipe σ vs), ?_⟩
        have q' : Got K (Rp K) (match t ω3 c3 with
          | .no => .no
          | .ok false c2 => loopC s g t e (wipeW ω vs) c1.length n (i + 1) c2
          | .ok true c2 => match e ω3 c2 with
            | .no => .no
            | .ok y c3 => match (c3.get (c1.length)) with
              | none => .no
              | some acc => match Nat.blt (lenK acc) 100000 with
                | true => loopC s g t e (wipeW ω vs) c1.length n (i + 1) (c3.set c1.length (appK acc [y]))
                | false => .no) ρ' H' Q := q'
        have hs0 := hs'.mono hr' p13
        have sj3 := sj'.mono hr' p13
        have hk3 := p13.get hk'
        cases e4 : t ω3 c3 with
        | no => rw [e4] at q'; exact q'.elim
        | ok b c4 =>
          rw [e4] at q'
          refine tG_in hr3 hs3 e4 fun b' H4 ρ4 p4 hr4 hs4 rb => ?_
          have rb : b = b' := rb
          subst rb
          have p14 := p13.trans p4
          cases b with
          | false => exact ⟨ρ4, c4, hr4, hs0.mono hr3 p4, sj3.mono hr3 p4, p4.get hk3, Got.after q' p14⟩
          | true =>
            rw [if_pos rfl]
            have q' : Got K (Rp K) (match e ω3 c4 with
              | .no => .no
              | .ok y c3 => match (c3.get (c1.length)) with
                | none => .no
                | some acc => match Nat.blt (lenK acc) 100000 with
                  | true => loopC s g t e (wipeW ω vs) c1.length n (i + 1) (c3.set c1.length (appK acc [y]))
                  | false => .no) ρ' H' Q := q'
            cases e5 : e ω3 c4 with
            | no => rw [e5] at q'; exact q'.elim
            | ok yw c5 =>
              rw [e5] at q'
              refine tG_in hr4 hs4 e5 fun yv H5 ρ5 p5 hr5 hs5 ry => ?_
              have q' : Got K (Rp K) (match (c5.get (c1.length)) with
                | none => .no
                | some acc => match Nat.blt (lenK acc) 100000 with
                  | true => loopC s g t e (wipeW ω vs) c1.length n (i + 1) (c5.set c1.length (appK acc [yw]))
                  | false => .no) ρ' H' Q := q'
              have hk5 := p5.get (p4.get hk3)
              cases e6 : (c5.get (c1.length)) with
              | none => rw [e6] at q'; exact q'.elim
              | some acc =>
                rw [e6] at q'
                have q' : Got K (Rp K) (match Nat.blt (lenK acc) 100000 with
                  | true => loopC s g t e (wipeW ω vs) c1.length n (i + 1) (c5.set c1.length (appK acc [yw]))
                  | false => .no) ρ' H' Q := q'
                cases e7 : Nat.blt (lenK acc) 100000 with
                | false => rw [e7] at q'; exact q'.elim
                | true =>
                  rw [e7] at q'
                  obtain ⟨_, us, z, _, hA, rv⟩ := hr5.lst (.ref hk5) e6
                  cases z
                  rw [appK_eq] at q'
                  have hl : acc.length < 100000 := by rw [Nat.blt_eq, lenK_eq] at e7; exact e7
                  rw [rv.length] at hl
                  have p6 : Post ρ5 H5 ρ5 (upd H5 D (.lst (us ++ [yv]))) := post_set hA (List.mem_of_getElem? hk5)
                  exact ⟨us, hA, Nat.lt_of_lt_of_le hl (by decide), ρ5, _, hr5.put hk5 (rv.append (.cons ry .nil)), ((hs0.mono hr3 p4).mono hr4 p5).mono hr5 p6, ((sj3.mono hr3 p4).mono hr4 p5).mono hr5 p6, hk5, Got.after q' ((p14.trans p5).trans p6)⟩
where
  wipe_wipe (σ : L2.St) (vs : List Nat) : wipe (wipe σ vs) vs = wipe σ vs := by
    have key : ∀ (us : List Nat), (∀ u ∈ us, u ∈ vs) → wipe (wipe σ us) vs = wipe σ vs := by
      intro us
      induction us with
      | nil => intro _; rfl
      | cons u us ih =>
        intro h
        have e : wipe σ (u :: us) = (wipe σ us).set u none := rfl
        rw [e, wipe_set_comm (h u List.mem_cons_self)]
        exact ih fun z hz => h z (List.mem_cons_of_mem _ hz)
    exact key vs fun _ h => h
theorem q_lc {X : Cx} {elt tg iter : Expr} {ifs : List Expr} {scope : Scope} {pos : Pos} {it : EvI} {gt : TG} {g : EvG} {t : EvB} {e : Ev} (fuel : Nat) (own : List (Str × Nat)) (hc : X.calm = true) (hN : X.N.Nodup) (hi : PI X tg iter (tJ X.K it)) (ok : BlkOk X.N X.env.scope scope own) (hgc : Gc X.K (own.map (·.2)) gt g)
    (hg : ∀ (s : Shared) (H : Hp) (C : Addr) (cl : List (Str × Addr)) (fp : List Addr), PG (X.blk s H scope (compEnvC scope cl C X.env) fp) tg gt)
    (ht : ∀ (s : Shared) (H : Hp) (C : Addr) (cl : List (Str × Addr)) (fp : List Addr), PTs (X.blk s H scope (compEnvC scope cl C X.env) fp) ifs (tW X.K t))
    (he : ∀ (s : Shared) (H : Hp) (C : Addr) (cl : List (Str × Addr)) (fp : List Addr), PE (X.blk s H scope (compEnvC scope cl C X.env) fp) elt (tV X.K e)) (hs : ∀ x, foldedSetIterable iter X.env x = pure x := by intro _; rfl) :
    PE X (.ListComp elt [⟨tg, iter, ifs, 0⟩] scope pos) (tV X.K (eLc fuel (own.map (·.2)) it g t e)) := pe_imp (pe_lc hc hN hi ok hg ht he hs) fun σ H Q h => tV_lc hgc h
theorem ts_nil {X : Cx} : PTs X [] (tW X.K bYes) := ⟨fun pins s σ H Q I h => by
  obtain ⟨ρ, ω, c, hr, hs, g⟩ := h
  exact pts_nil.run pins s σ H Q I (g true H ρ Post.refl hr rfl)⟩
end Sm
/-! Sm7: statements run on a small heap of their own; calls by keywords -/
namespace Sm
open PySem PySem.Spec PyProof.Rows L2

noncomputable def keepF (ω : Sl) : Sl := ω.map fun o => match o with
  | some w => match flatA 9 w with
    | true => some w
    | false => none
  | none => none
noncomputable def backF (n : Nat) (ω : Sl) : Sl := ω.map fun o => match o with
  | some (.ref 0) => some (.ref n)
  | some w => match flat 9 w with
    | true => some w
    | false => none
  | none => none
noncomputable def subEnd (n : Nat) (c : Ch) (r : RS) : RS := match r with
  | .nx ω' c' => match c'.get 0 with
    | some us => match us.all (flat 9) with
      | true => .nx (backF n ω') (c.set n us)
      | false => .no
    | none => .no
  | .rt w c' => match c'.get 0 with
    | some us => match us.all (flat 9) && flat 9 w with
      | true => .rt w (c.set n us)
      | false => .no
    | none => .no
  | _ => .no
/-- the list in slot i alone goes along -/
noncomputable def sSub (i : Nat) (b : EvS) : EvS := fun ω c => match ω[i]? with
  | some (some (.ref n)) => match c.get n with
    | some ws => match ws.all (flat 9) with
      | true => subEnd n c (b ((keepF ω).set i (some (.ref 0))) (Ch.nil.push ws))
      | false => .no
    | none => .no
  | _ => .no
section
variable {K : PySem.W.Frag} {ρ ρ' : List Addr} {H H' : Hp}
theorem keepF_rel (hs : ∀ a, a ∈ ρ' → a ∈ ρ) : ∀ {ω : Sl} {σ : L2.St}, RelS K ρ H ω σ → RelS K ρ' H (keepF ω) σ
  | _, _, .nil => .nil
  | _, _, .free t => .free (keepF_rel hs t)
  | _, _, .cons (w := w) r t => by
    show RelS K ρ' H ((match flatA 9 w with | true => some w | false => none) :: keepF _) _
    cases e : flatA 9 w with
    | true => exact .cons (flatA_rp hs 9 w _ e r) (keepF_rel hs t)
    | false => exact .free (keepF_rel hs t)
theorem backF_rel {n : Nat} {a : Addr} (h0 : ρ'[0]? = some a) (hn : ρ[n]? = some a) : ∀ {ω : Sl} {σ : L2.St}, RelS K ρ' H ω σ → RelS K ρ H (backF n ω) σ
  | _, _, .nil => .nil
  | _, _, .free t => .free (backF_rel h0 hn t)
  | _, _, .cons (w := w) r t => by
    have go : ∀ w v, Rp K ρ' H w v → ∀ {x : Option W}, (x = match flat 9 w with | true => some w | false => none) → ∀ {ω : Sl} {σ : L2.St}, RelS K ρ H ω σ → RelS K ρ H (x :: ω) (some v :: σ) := by
      intro w v r x hx ω σ t
      cases e : flat 9 w with
      | true =>
        rw [e] at hx
        subst hx
        exact .cons (flat_rp 9 w _ e r) t
      | false =>
        rw [e] at hx
        subst hx
        exact .free t
    cases r with
    | @ref m b hb =>
      cases m with
      | zero =>
        rw [h0] at hb
        cases hb
        exact .cons (.ref hn) (backF_rel h0 hn t)
      | succ m => exact .free (backF_rel h0 hn t)
    | non => exact go _ _ .non rfl (backF_rel h0 hn t)
    | bl b => exact go _ _ (.bl b) rfl (backF_rel h0 hn t)
    | int b => exact go _ _ (.int b) rfl (backF_rel h0 hn t)
    | str b => exact go _ _ (.str b) rfl (backF_rel h0 hn t)
    | tup s l => exact go _ _ (.tup s l) rfl (backF_rel h0 hn t)
    | emp h => exact go _ _ (.emp h) rfl (backF_rel h0 hn t)
    | mt h1 h2 => exact .free (backF_rel h0 hn t)
    | frz h => exact .free (backF_rel h0 hn t)
    | lv h1 h2 h3 => exact .free (backF_rel h0 hn t)
    | obj s hl l => exact go _ _ (.obj s hl l) rfl (backF_rel h0 hn t)
    | any => exact go _ _ .any rfl (backF_rel h0 hn t)
theorem one_rel {ws : List W} {vs : List V} {a : Addr} (hf : ws.all (flat 9) = true) (ha : H a = some (.lst vs)) (r : RpL K ρ H ws vs) : RelH K [a] H (Ch.nil.push ws) := by
  refine ⟨rfl, by simp, fun b hb => ?_, fun m us e => ?_⟩
  · rw [List.mem_singleton.mp hb]
    exact ⟨vs, ha⟩
  · rw [Ch.get_push] at e
    by_cases hm : m = Ch.nil.length
    · rw [if_pos hm] at e
      cases e
      exact ⟨a, vs, by rw [hm]; rfl, ha, flatL_rp (fun w v => flat_rp 9 w v) hf r⟩
    · rw [if_neg hm] at e
      cases e
theorem sub_back {c c' : Ch} {ρ0 : List Addr} {n : Nat} {a : Addr} {us : List W} (hr : RelH K ρ H c) (hn : ρ[n]? = some a) (po : Post [a] H ρ0 H') (h0 : RelH K ρ0 H' c') (e : c'.get 0 = some us) (hf : us.all (flat 9) = true) :
    Post ρ H ρ H' ∧ RelH K ρ H' (c.set n us) := by
  have ha : a ∈ ρ := List.mem_of_getElem? hn
  have po2 : Post ρ H ρ H' := ⟨⟨[], by simp, by simp⟩, fun b o hb hnb => po.keep b o hb fun z => hnb (by rw [List.mem_singleton.mp z]; exact ha), po.dom⟩
  obtain ⟨a', vs', e1, e2, e3⟩ := h0.at_ 0 us e
  have e4 : ρ0[0]? = some a := po.get (n := 0) rfl
  rw [e4] at e1
  cases e1
  refine ⟨po2, hr.len, hr.nd, fun b hb => ?_, fun m zs ez => ?_⟩
  · by_cases z : b = a
    · rw [z]
      exact ⟨vs', e2⟩
    · obtain ⟨zs, ez⟩ := hr.mem b hb
      exact ⟨zs, po.keep b _ ez fun y => z (List.mem_singleton.mp y)⟩
  · rw [Ch.get_set] at ez
    by_cases hm : m = n
    · rw [if_pos hm] at ez
      cases ez
      exact ⟨a, vs', by rw [hm]; exact hn, e2, flatL_rp (fun w v => flat_rp 9 w v) hf e3⟩
    · rw [if_neg hm] at ez
      obtain ⟨b, xs, e5, e6, e7⟩ := hr.at_ m zs ez
      exact ⟨b, xs, e5, po.keep b _ e6 (fun y => hm (hr.inj (by rw [e5, List.mem_singleton.mp y]) hn)), e7.mono hr po2⟩
end
theorem set_self {α : Type} : ∀ {l : List α} {i : Nat} {x : α}, l[i]? = some x → l.set i x = l
  | [], _, _, h => by simp at h
  | y :: l, 0, x, h => by
    simp at h
    rw [h]
    rfl
  | y :: l, i + 1, x, h => by
    rw [List.set_cons_succ, set_self (by simpa using h)]
theorem x_sub {X : Cx} {ss : List Stmt} {b : EvS} (i : Nat) (h : PSs X ss (tX X.K b)) : PSs X ss (tX X.K (sSub i b)) := pss_imp h fun D σ H h => by
  obtain ⟨ρ, ω, c, hr, hs, g⟩ := h
  unfold sSub at g
  cases e0 : ω[i]? with
  | none => rw [e0] at g; exact g.elim
  | some o =>
    cases o with
    | none => rw [e0] at g; exact g.elim
    | some w =>
      rw [e0] at g
      cases w with
      | ref n =>
        have g : GotS X.K (match c.get n with
          | some ws => match ws.all (flat 9) with
            | true => subEnd n c (b ((keepF ω).set i (some (.ref 0))) (Ch.nil.push ws))
            | false => .no
          | none => .no) ρ H D := g
        cases e1 : c.get n with
        | none => rw [e1] at g; exact g.elim
        | some ws =>
          rw [e1] at g
          have g : GotS X.K (match ws.all (flat 9) with
            | true => subEnd n c (b ((keepF ω).set i (some (.ref 0))) (Ch.nil.push ws))
            | false => .no) ρ H D := g
          cases e2 : ws.all (flat 9) with
          | false => rw [e2] at g; exact g.elim
          | true =>
            rw [e2] at g
            have g : GotS X.K (subEnd n c (b ((keepF ω).set i (some (.ref 0))) (Ch.nil.push ws))) ρ H D := g
            obtain ⟨v, ev, rv⟩ := hs.get e0
            obtain ⟨a, vs, z, hn, ha, rl⟩ := hr.lst rv e1
            subst z
            have ha0 : ∀ x, x ∈ [a] → x ∈ ρ := fun x hx => by
              rw [List.mem_singleton.mp hx]
              exact List.mem_of_getElem? hn
            have hs0 : RelS X.K [a] H ((keepF ω).set i (some (.ref 0))) σ := by
              have q := (keepF_rel ha0 hs).set (w := .ref 0) (v := .ref a) (.ref rfl) i
              rwa [set_self ev] at q
            refine ⟨[a], _, _, one_rel e2 ha rl, hs0, ?_⟩
            cases e3 : b ((keepF ω).set i (some (.ref 0))) (Ch.nil.push ws) with
            | nx ω' c' =>
              rw [e3] at g
              intro σ' H' ρ0 po hr0 hs1
              have g : GotS X.K (match c'.get 0 with
                | some us => match us.all (flat 9) with
                  | true => .nx (backF n ω') (c.set n us)
                  | false => .no
                | none => .no) ρ H D := g
              cases e4 : c'.get 0 with
              | none => rw [e4] at g; exact g.elim
              | some us =>
                rw [e4] at g
                have g : GotS X.K (match us.all (flat 9) with
                  | true => .nx (backF n ω') (c.set n us)
                  | false => .no) ρ H D := g
                cases e5 : us.all (flat 9) with
                | false => rw [e5] at g; exact g.elim
                | true =>
                  rw [e5] at g
                  obtain ⟨po2, hr2⟩ := sub_back hr hn po hr0 e4 e5
                  exact g σ' H' ρ po2 hr2 (backF_rel (po.get (n := 0) rfl) hn hs1)
            | rt w c' =>
              rw [e3] at g
              intro v' H' ρ0 po hr0 rw0
              have g : GotS X.K (match c'.get 0 with
                | some us => match us.all (flat 9) && flat 9 w with
                  | true => .rt w (c.set n us)
                  | false => .no
                | none => .no) ρ H D := g
              cases e4 : c'.get 0 with
              | none => rw [e4] at g; exact g.elim
              | some us =>
                rw [e4] at g
                have g : GotS X.K (match us.all (flat 9) && flat 9 w with
                  | true => .rt w (c.set n us)
                  | false => .no) ρ H D := g
                cases e5 : us.all (flat 9) && flat 9 w with
                | false => rw [e5] at g; exact g.elim
                | true =>
                  rw [e5] at g
                  obtain ⟨e6, e7⟩ := Bool.and_eq_true_iff.mp e5
                  obtain ⟨po2, hr2⟩ := sub_back hr hn po hr0 e4 e6
                  exact g v' H' ρ po2 hr2 (flat_rp 9 w v' e7 rw0)
            | bk ω' c' => rw [e3] at g; exact g.elim
            | ct ω' c' => rw [e3] at g; exact g.elim
            | no => rw [e3] at g; exact g.elim
      | _ => exact g.elim

theorem q_gint {X : Cx} {x : Str} {i : Int} {pos : Pos} (h : ∃ t, X.mg x = some (.int i t)) (hg : Gl X x := by rfl) (hd : (x == ("__debug__" : Str)) = false := by decide) : PE X (.Name x pos) (tV X.K (eC (.int i))) := by
  obtain ⟨t, h⟩ := h
  exact q_glob (v := .int i) hg h ⟨t, rfl⟩ (fun _ _ => .int i) hd
/-! ### f(k = v, ..), all by name -/
def gK {α : Type} (us ws : List α) : List α := match us with
  | [] => ws
  | _ :: _ => []
theorem gK_rel {vs : List V} {us : List Value} {zs : List V} {ws : List Value} (h : Vals vs us) (h' : Vals zs ws) : Vals (gK vs zs) (gK us ws) := by
  cases h with
  | nil => exact h'
  | cons _ _ => exact .nil
structure HasK (P : Program) (w : World) (K : PySem.W.Frag) (mg : Str → Option Value) (base : Heap) (k : Nat) (x : Str) (ks : List Str) (f : FC) : Prop where
  ex : ∃ (CX : CXT) (fa : Addr) (fd : FuncData), FnOk P w K mg base CX k fa fd ks (spR K ks.length f) ∧ mg x = some (.ref fa) ∧ PySem.W.keepIn K (.ref fa) = true ∧ KBinds K fd ks ks gK gK ∧ ∀ X : Cx, X.prog = P → X.w = w → Passes CX X E0
theorem HasK.alone {P : Program} {w : World} {K : PySem.W.Frag} {mg : Str → Option Value} {base : Heap} {k : Nat} {x : Str} {ks : List Str} {f : FC} (h : HasK P w K mg base k x ks f) : HasK P w K mg base k x ks (Sm.alone f) := by
  obtain ⟨CX, fa, fd, F, r⟩ := h.ex
  exact ⟨CX, fa, fd, F.imp fun vs H Q E q => spR_alone q, r⟩
section
variable {X : Cx} {x : Str} {p pos : Pos} {ra : EvA} {k : Nat} {f : FC} {ks : List Str} {kws : List Keyword} {e : Expr} {ea : Ev} {nm : Option Str} {kpos : Pos}
theorem k_nil : PK X [] (tU X.K aNil) := ⟨fun pos pins s σ H Q I h => by
  obtain ⟨ρ, ω, c, hr, hs, g⟩ := h
  exact pk_nil.run pos pins s σ H Q I (g [] H ρ Post.refl hr .nil)⟩
theorem k_cons (ha : PE X e (tV X.K ea)) (hr : PK X kws (tU X.K ra)) : PK X (⟨nm, e, kpos⟩ :: kws) (tU X.K (aCons ea ra)) := ⟨fun pos pins s σ H Q I h => by
  refine (pk_cons (nm := nm) (kpos := kpos) ha hr).run pos pins s σ H Q I ?_
  obtain ⟨ρ, ω, c, hr, hs, g⟩ := h
  obtain ⟨x, c1, e1, g⟩ := Got.bind g
  refine tG_in hr hs e1 fun v H1 ρ1 p1 hr1 hs1 rx => ?_
  obtain ⟨xs, c2, e2, g⟩ := Got.bind g
  exact tG_in hr1 hs1 e2 fun vs H2 ρ2 p2 hr2 hs2 rxs => g (v :: vs) H2 ρ2 (p1.trans p2) hr2 (.cons (rx.mono hr1 p2) rxs)⟩
theorem q_callk (G : HasK X.prog X.w X.K X.mg X.base k x ks f) (hr : Room k X.A) (hkw : PK X kws (tU X.K ra)) (hg : Gl X x := by rfl) (hdb : (x == ("__debug__" : Str)) = false := by decide)
    (hall : (backToKw pos (keywordEach kws X.env)).all (·.1.isSome) = true := by rfl) (hks : (backToKw pos (keywordEach kws X.env)).filterMap (·.1) = ks := by rfl)
    (hpl : ((backTo pos (starEach [] X.env)).any (·.1) || (backToKw pos (keywordEach kws X.env)).any (·.1.isNone)) = false := by rfl) : PE X (.Call (.Name x p) [] kws pos) (tV X.K (eCall ks.length f ra)) := by
  obtain ⟨CX, fa, fd, F, hm, hk, hb, hx⟩ := G.ex
  refine ⟨fun pins s σ H Q I h => ?_⟩
  refine wpAny_Call_Name_kw (ld_glob I hg hm ?_ hdb)
  obtain ⟨ρ, ω, c, hr', hs', g⟩ := h
  obtain ⟨ws, c1, e1, g⟩ := Got.bind g
  refine PySem.W.callWith_KW0 (h₀ := X.base) I.ok.mod.kin hk hall (thn (hkw.run pos pins s σ H (fun vs H1 => spR X.K ks.length f vs H1 Q E0) I ?_) fun us s2 ⟨zs, H2, I2, rz, q2⟩ => ⟨I2.kIn, ?_⟩) hpl
  · refine tG_in hr' hs' e1 fun vs H1 ρ1 p1 hr1 hs1 rx => ?_
    cases e2 : Nat.beq ws.length ks.length with
    | false => rw [e2] at g; exact g.elim
    | true =>
      rw [e2] at g
      exact ⟨ρ1, ws, c1, hr1, rx, Nat.eq_of_beq_eq_true e2, g.after p1⟩
  · rw [hks]
    exact run_fnk (us := []) (vs := []) F hr hb (hx X rfl rfl) I2 .nil rz q2
end
section
variable {P : Program} {w : World} {K : PySem.W.Frag} {mg : Str → Option Value} {base : Heap}
theorem hask_of {x : Str} {params : Arguments} {body : List Stmt} {scope : Scope} {f : Addr} {fd : FuncData} {ks : List Str} {k : Nat} {r : FC} (F : FunD K x x params body scope [] [] f fd) (G : FnOk P w K mg base CX0 k f fd ks (spR K ks.length r)) (hm : mg x = some (.ref f))
    (hn : ks ≠ []) (hb : ∀ (kV doc pm : Value) (an : Option Addr) (cdv ct : Value) (ws : List Value), ws.length = ks.length → bindArgs (PySem.W.fnOf x x params body scope .none kV doc pm an cdv ct) ⟨[], ks.zip ws⟩ = pure (ks.zip ws)) : HasK P w K mg base k x ks r := by
  refine ⟨CX0, f, fd, G, hm, F.kp, ⟨fun s us ws _ hl => ?_, gK_rel⟩, fun _ _ _ => pass0⟩
  cases us with
  | cons u us => exact absurd (List.length_eq_zero_iff.mp hl.symm) hn
  | nil =>
    obtain ⟨oc, od, dV, kV, doc, pm, an, cdv, ct, osl, rfl, lk, hcd, hD, hK⟩ := F.ex
    rcases hD with ⟨_, rfl⟩ | ⟨e, _⟩
    · exact .of_eq (hb kV doc pm an cdv ct ws hl)
    · exact absurd rfl e
end
end Sm
/-! Sm8: objects of own classes, runs apart, while, gcd, t[::p], a, b, *c = list, f(*t) -/
namespace Sm
open PySem PySem.Spec PyProof.Rows L2
/-! ### fields -/
theorem zip_get : ∀ {ks : List Str} {vs : List V} {i : Nat} {f : Str} {v : V}, ks.Nodup → ks[i]? = some f → vs[i]? = some v → (ks.zip vs).lookup f = some v
  | [], _, _, _, _, _, h, _ => by simp at h
  | _ :: _, [], _, _, _, _, _, h => by simp at h
  | k :: ks, u :: vs, 0, f, v, nd, h1, h2 => by
    simp at h1 h2
    subst h1 h2
    rw [List.zip_cons_cons, List.lookup_cons]
    simp
  | k :: ks, u :: vs, i + 1, f, v, nd, h1, h2 => by
    obtain ⟨n1, n2⟩ := List.nodup_cons.mp nd
    have h1 : ks[i]? = some f := by simpa using h1
    have h2 : vs[i]? = some v := by simpa using h2
    rw [List.zip_cons_cons, List.lookup_cons]
    have e : (f == k) = false := by
      refine beq_eq_false_iff_ne.mpr fun z => n1 ?_
      rw [← z]
      exact List.mem_of_getElem? h1
    rw [e]
    exact zip_get n2 h1 h2
theorem zip_none : ∀ {ks : List Str} {vs : List V} {f : Str}, f ∉ ks → (ks.zip vs).lookup f = none
  | [], _, _, _ => rfl
  | _ :: _, [], _, _ => rfl
  | k :: ks, u :: vs, f, h => by
    rw [List.zip_cons_cons, List.lookup_cons]
    have e : (f == k) = false := beq_eq_false_iff_ne.mpr fun z => h (by rw [z]; exact List.mem_cons_self)
    rw [e]
    exact zip_none fun z => h (List.mem_cons_of_mem _ z)
noncomputable def eFld (n i : Nat) (a : Ev) : Ev := fun ω c => (a ω c).bind fun x c1 => match x with
  | .obj m ws => match Nat.beq m n with
    | true => match getK ws i with
      | some w => .ok w c1
      | none => .no
    | false => .no
  | _ => .no
section
variable {X : Cx} {pos : Pos} {e : Expr} {ea : Ev} {f : Str}
theorem q_fld (n i : Nat) (hc : Cls X.K (He.ga X.K (clsN n)) ∧ NoAttr X.K (He.ga X.K (clsN n)) f) (ha : PE X e (tV X.K ea)) (hi : (clsF n)[i]? = some f := by rfl) (hnd : (clsF n).Nodup := by decide +kernel) (hb : attributeBase e f X.env (eval e X.env) = eval e X.env := by rfl) :
    PE X (.Attribute e f pos) (tV X.K (eFld n i ea)) := pe_imp (pe_fld ha hb) fun σ H Q h => by
  obtain ⟨ρ, ω, c, hr, hs, g0⟩ := h
  obtain ⟨x, c1, e1, g⟩ := Got.bind g0
  clear g0
  refine tG_in hr hs e1 fun v H1 ρ1 p1 hr1 hs1 rx => ?_
  cases rx with
  | @obj a dx m ws vs ho hl hw =>
    replace g : Got X.K (Rp X.K) (match Nat.beq m n with | true => (match getK ws i with | some w => R.ok w c1 | none => .no) | false => .no) ρ H Q := g
    cases e2 : Nat.beq m n with
    | false => rw [e2] at g; exact g.elim
    | true =>
      rw [e2] at g
      have em := Nat.eq_of_beq_eq_true e2
      subst em
      have g : Got X.K (Rp X.K) (match getK ws i with | some w => R.ok w c1 | none => .no) ρ H Q := g
      rw [getK_eq] at g
      cases e3 : ws[i]? with
      | none => rw [e3] at g; exact g.elim
      | some w =>
        rw [e3] at g
        obtain ⟨v, e4, rv⟩ := hw.get e3
        exact ⟨a, _, dx, _, v, rfl, ho, hc.1, hc.2, zip_get hnd hi e4, g v H1 ρ1 p1 hr1 rv⟩
  | _ => exact g.elim
end
/-! ### methods -/
/-- what is known of the method m (of n parameters behind self) of the class t -/
structure HasM (P : Program) (w : World) (K : PySem.W.Frag) (mg : Str → Option Value) (base : Heap) (k : Nat) (t : Nat) (m : Str) (n : Nat) (f : FC) : Prop where
  ex : ∃ (CX : CXT) (fa : Addr) (fd : FuncData) (ps : List Str), FnOk P w K mg base CX k fa fd ps (spR K (n + 1) f) ∧ Meth K (He.ga K (clsN t)) m fa ∧ Cls K (He.ga K (clsN t)) ∧ Binds K fd ps [] ∧ ∀ X : Cx, X.prog = P → X.w = w → Passes CX X E0
noncomputable def eMeth (t n : Nat) (f : FC) (o : Ev) (ra : EvA) : Ev := fun ω c => (o ω c).bind fun x c1 => match x with
  | .obj m us => match Nat.beq m t with
    | true => (ra ω c1).bind fun ws c2 => match Nat.beq ws.length n with
      | true => f (.obj m us :: ws) c2
      | false => .no
    | false => .no
  | _ => .no
section
variable {X : Cx} {m : Str} {apos pos : Pos} {o e : Expr} {es : List Expr} {eo : Ev} {ra : EvA} {k t n : Nat} {f : FC}
theorem tV_meth {σ : L2.St} {H : Hp} {Q : VK} (hm : m ∉ clsF t) (h : tV X.K (eMeth t n f eo ra) σ H Q) : tMeth (He.ga X.K (clsN t)) m (spR X.K (n + 1) f) [] E0 (tV X.K eo) (tU X.K ra) σ H Q := by
  obtain ⟨ρ, ω, c, hr, hs, g0⟩ := h
  obtain ⟨x, c1, e1, g⟩ := Got.bind g0
  clear g0
  refine tG_in hr hs e1 fun v H1 ρ1 p1 hr1 hs1 rx => ?_
  cases rx with
  | @obj a dx u us vs ho hl hw =>
    replace g : Got X.K (Rp X.K) (match Nat.beq u t with | true => (ra ω c1).bind fun ws c2 => (match Nat.beq ws.length n with | true => f (.obj u us :: ws) c2 | false => .no) | false => .no) ρ H Q := g
    cases e2 : Nat.beq u t with
    | false => rw [e2] at g; exact g.elim
    | true =>
      rw [e2] at g
      have em := Nat.eq_of_beq_eq_true e2
      subst em
      have g : Got X.K (Rp X.K) ((ra ω c1).bind fun ws c2 => (match Nat.beq ws.length n with | true => f (.obj u us :: ws) c2 | false => .no)) ρ H Q := g
      obtain ⟨ws, c2, e3, g⟩ := Got.bind g
      refine ⟨a, dx, _, rfl, ho, zip_none hm, tG_in hr1 hs1 e3 fun xs H2 ρ2 p2 hr2 hs2 rxs => ?_⟩
      cases e4 : Nat.beq ws.length n with
      | false => rw [e4] at g; exact g.elim
      | true =>
        rw [e4] at g
        rw [List.append_nil]
        refine ⟨ρ2, .obj u us :: ws, c2, hr2, .cons (Rp.mono hr1 p2 (.obj ho hl hw)) rxs, ?_, g.after (p1.trans p2)⟩
        rw [List.length_cons, Nat.eq_of_beq_eq_true e4]
  | _ => exact g.elim
theorem q_meth {pl : Sem Bool} (G : HasM X.prog X.w X.K X.mg X.base k t m n f) (hr : Room k X.A) (ho : PE X o (tV X.K eo)) (ha : PA X (e :: es) (tU X.K ra)) (hm : m ∉ clsF t := by decide +kernel)
    (hst : starEach (e :: es) X.env = (false, eval e X.env) :: starEach es X.env := by rfl) (hpl : (backTo pos (starEach es X.env)).any (·.1) = false := by rfl)
    (ht : eval (.Call (.Attribute o m apos) (e :: es) [] pos) X.env = (do
      let ov ← eval o X.env
      standAt apos.atName
      let (f, first) ← holding [ov] (getMethod ov m pl)
      callWith pos f first (backTo pos (starEach (e :: es) X.env)) (backToKw pos (keywordEach [] X.env))) := by rfl) :
    PE X (.Call (.Attribute o m apos) (e :: es) [] pos) (tV X.K (eMeth t n f eo ra)) := by
  obtain ⟨CX, fa, fd, ps, F, M, C, B, hx⟩ := G.ex
  exact pe_imp (pe_meth ho C M F hr B .nil (hx X rfl rfl) ha hst hpl ht) fun _ _ _ h => tV_meth hm h
end
/-! ### making -/
/-- what is known of a class's call -/
structure HasC (P : Program) (w : World) (K : PySem.W.Frag) (mg : Str → Option Value) (base : Heap) (k : Nat) (t : Nat) (n : Nat) (f : FC) : Prop where
  ex : ∃ (CX : CXT) (fa : Addr) (fd : FuncData) (ps : List Str) (sp : Sp), FnOk P w K mg base CX k fa fd ps sp ∧ Mk K (He.ga K (clsN t)) fa ∧ mg (clsN t) = some (.ref (He.ga K (clsN t))) ∧ Binds K fd ps [] ∧ (∀ X : Cx, X.prog = P → X.w = w → Passes CX X E0) ∧
    ∀ (ρ : List Addr) (H : Hp) (c : Ch) (ws : List W) (vs : List V) (Q : VK), RelH K ρ H c → RpL K ρ H ws vs → ws.length = n → Got K (Rp K) (f ws c) ρ H Q → ∀ x dx, H x = none → H dx = none → dx ≠ x →
      sp (.ref x :: vs) (upd (upd H dx (.own x)) x (.ins (He.ga K (clsN t)) dx [])) (fun v H2 => v = .non ∧ Q (.ref x) H2) E0
section
variable {X : Cx} {p pos : Pos} {e : Expr} {es : List Expr} {ra : EvA} {k j t n : Nat} {f : FC}
theorem q_make {x : Str} (G : HasC X.prog X.w X.K X.mg X.base k t n f) (hr : Room j X.A) (hj : k + 1 ≤ j) (ha : PA X (e :: es) (tU X.K ra)) (hx : x = clsN t := by rfl) (hg : Gl X x := by rfl) (hdb : (x == ("__debug__" : Str)) = false := by decide)
    (he : starEach (e :: es) X.env = (false, eval e X.env) :: starEach es X.env := by rfl) (hpl : (backTo pos (starEach es X.env)).any (·.1) = false := by rfl) : PE X (.Call (.Name x p) (e :: es) [] pos) (tV X.K (eCall n f ra)) := by
  subst hx
  obtain ⟨CX, fa, fd, ps, sp, F, M, hm, B, hx, hsp⟩ := G.ex
  refine pe_imp (pe_make M F (hr.mono hj) hg hm B .nil (hx X rfl rfl) ha hdb he hpl) fun σ H Q h => ?_
  obtain ⟨ρ, ω, c, hr', hs, g⟩ := h
  obtain ⟨ws, c1, e1, g⟩ := Got.bind g
  refine tG_in hr' hs e1 fun vs H1 ρ1 p1 hr1 hs1 rx => ?_
  cases e2 : Nat.beq ws.length n with
  | false => rw [e2] at g; exact g.elim
  | true =>
    rw [e2] at g
    intro x dx h1 h2 h3
    rw [List.append_nil]
    exact hsp ρ1 H1 c1 ws vs Q hr1 rx (Nat.eq_of_beq_eq_true e2) (g.after p1) x dx h1 h2 h3
end
/-! ### while -/
noncomputable def sWhile (fuel : Nat) (t : EvB) (b : EvS) : EvS := Nat.rec (motive := fun _ => EvS) (fun _ _ => .no) (fun _ ih ω c => (t ω c).run fun k c1 => match k with
    | true => match b ω c1 with
      | .nx ω2 c2 => ih ω2 c2
      | .ct ω2 c2 => ih ω2 c2
      | .bk ω2 c2 => .nx ω2 c2
      | .rt w c2 => .rt w c2
      | .no => .no
    | false => .nx ω c1) fuel
theorem sWhile_succ (fuel : Nat) (t : EvB) (b : EvS) (ω : Sl) (c : Ch) : sWhile (fuel + 1) t b ω c = ((t ω c).run fun k c1 => match k with
    | true => match b ω c1 with
      | .nx ω2 c2 => sWhile fuel t b ω2 c2
      | .ct ω2 c2 => sWhile fuel t b ω2 c2
      | .bk ω2 c2 => .nx ω2 c2
      | .rt w c2 => .rt w c2
      | .no => .no
    | false => .nx ω c1) := rfl
theorem x_while {X : Cx} {cnd : Expr} {body : List Stmt} {t : EvB} {bd : EvS} {pos : Pos} (fuel : Nat) (hp : PassesOwn (model X.prog X.w) X.A X.env X.xe) (hc : PT X cnd (tW X.K t)) (hb : PSs X body (tX X.K bd)) : PS X (.While cnd body [] pos) (tX X.K (sWhile fuel t bd)) := ps_imp (ps_while hp hc hb) fun D σ H h => by
  obtain ⟨ρ, ω, c, hr, hs, q⟩ := h
  refine ⟨fun m σ' H' => ∃ ρ' ω' c', RelH X.K ρ' H' c' ∧ RelS X.K ρ' H' ω' σ' ∧ GotS X.K (sWhile m t bd ω' c') ρ' H' D, ⟨fuel, ρ, ω, c, hr, hs, q⟩, ?_⟩
  rintro m σ' H' ⟨ρ', ω', c', hr', hs', q'⟩
  cases m with
  | zero => exact q'.elim
  | succ m =>
    rw [sWhile_succ] at q'
    obtain ⟨k, c1, e1, q'⟩ := GotS.run q'
    refine tG_in hr' hs' e1 fun b H1 ρ1 p1 hr1 hs1 rb => ?_
    have rb : k = b := rb
    subst rb
    cases k with
    | false => exact q' σ' H1 ρ1 p1 hr1 hs1
    | true =>
      rw [if_pos rfl]
      refine ⟨fun σ2 H2 => ∃ ρ2 ω2 c2, RelH X.K ρ2 H2 c2 ∧ RelS X.K ρ2 H2 ω2 σ2 ∧ GotS X.K (sWhile m t bd ω2 c2) ρ2 H2 D, fun σ2 H2 z => ⟨m, Nat.lt_succ_self m, z⟩, ρ1, ω', c1, hr1, hs1, ?_⟩
      have q' : GotS X.K (match bd ω' c1 with
        | .nx ω2 c2 => sWhile m t bd ω2 c2
        | .ct ω2 c2 => sWhile m t bd ω2 c2
        | .bk ω2 c2 => .nx ω2 c2
        | .rt w c2 => .rt w c2
        | .no => .no) ρ' H' D := q'
      cases e2 : bd ω' c1 with
      | nx ω4 c4 =>
        rw [e2] at q'
        exact fun σ4 H4 ρ4 p4 hr4 hs4 => ⟨ρ4, ω4, c4, hr4, hs4, GotS.after q' (p1.trans p4)⟩
      | ct ω4 c4 =>
        rw [e2] at q'
        exact fun σ4 H4 ρ4 p4 hr4 hs4 => ⟨ρ4, ω4, c4, hr4, hs4, GotS.after q' (p1.trans p4)⟩
      | bk ω4 c4 =>
        rw [e2] at q'
        exact fun σ4 H4 ρ4 p4 hr4 hs4 => q' σ4 H4 ρ4 (p1.trans p4) hr4 hs4
      | rt w4 c4 =>
        rw [e2] at q'
        exact fun v4 H4 ρ4 p4 hr4 hs4 => q' v4 H4 ρ4 (p1.trans p4) hr4 hs4
      | no => rw [e2] at q'; exact q'.elim
/-! ### gcd -/
noncomputable def cGcd : FC := fun xs c => match xs with
  | [.int i, .int j] => .ok (.int (Nat.gcd i.natAbs j.natAbs : Nat)) c
  | _ => .no
theorem ok_gcd {K : PySem.W.Frag} : OkC K rGcd cGcd := by
  intro ρ H c xs vs Q hr rx h
  match xs, rx, h with
  | [.int i, .int j], .cons (.int _) (.cons (.int _) .nil), h => exact ⟨i, j, rfl, h _ H ρ Post.refl hr (.int _)⟩
theorem q_gcd {X : Cx} {p pos : Pos} {e e2 : Expr} {ra : EvA} (hm : X.mg "gcd" = some (.builtin "math.gcd")) (ha : PA X [e, e2] (tU X.K ra)) (hg : Gl X "gcd" := by rfl) (he : starEach [e, e2] X.env = (false, eval e X.env) :: starEach [e2] X.env := by rfl)
    (hpl : (backTo pos (starEach [e2] X.env)).any (·.1) = false := by rfl) : PE X (.Call (.Name "gcd" p) [e, e2] [] pos) (tV X.K (eCB cGcd ra)) := pe_imp (pe_callBfun cr_gcd hg hm ha (by decide) he hpl) fun _ _ _ h => tV_cb ok_gcd h
/-! ### t[::p] -/
noncomputable def stepW (ws : List W) (p : Int) : List W := Rx.stepL ws p
noncomputable def eStp (a s : Ev) : Ev := fun ω c => (a ω c).bind fun x c1 => (s ω c1).bind fun y c2 => match x, y with
  | .tup ws, .int p => match ile 2 p with
    | true => .ok (.tup (stepW ws p)) c2
    | false => .no
  | _, _ => .no
theorem RpL.pick {K : PySem.W.Frag} {ρ : List Addr} {H : Hp} {ws : List W} {vs : List V} (r : RpL K ρ H ws vs) : ∀ (ms : List Nat) (f : Nat → Nat), RpL K ρ H (ms.filterMap fun m => ws[f m]?) (ms.filterMap fun m => vs[f m]?)
  | [], _ => .nil
  | m :: ms, f => by
    have ih := RpL.pick r ms f
    cases hx : ws[f m]? with
    | some x =>
      obtain ⟨u, hu, ru⟩ := r.get hx
      rw [List.filterMap_cons, List.filterMap_cons, hx, hu]
      exact .cons ru ih
    | none =>
      have hu : vs[f m]? = none := by
        rw [List.getElem?_eq_none_iff] at hx ⊢
        rw [← r.length]
        exact hx
      rw [List.filterMap_cons, List.filterMap_cons, hx, hu]
      exact ih
theorem q_stp {X : Cx} {e st : Expr} {ea es : Ev} {p2 pos : Pos} (ha : PE X e (tV X.K ea)) (hs : PE X st (tV X.K es)) : PE X (.Subscript e (.Slice none none (some st) p2) pos) (tV X.K (eStp ea es)) := pe_imp (Rx.pe_step ha hs) fun σ H Q h => by
  obtain ⟨ρ, ω, c, hr, hs, g⟩ := h
  obtain ⟨x, c1, e1, g⟩ := Got.bind g
  refine tG_in hr hs e1 fun v H1 ρ1 p1 hr1 hs1 rx => ?_
  obtain ⟨y, c2, e2, g⟩ := Got.bind g
  refine tG_in hr1 hs1 e2 fun u H2 ρ2 p2 hr2 hs2 ry => ?_
  have rx := rx.mono hr1 p2
  cases rx with
  | @tup ws vs a s l =>
    cases ry with
    | int p =>
      have g : Got X.K (Rp X.K) (match ile 2 p with | true => R.ok (.tup (stepW ws p)) c2 | false => .no) ρ H Q := g
      cases e3 : ile 2 p with
      | false => rw [e3] at g; exact g.elim
      | true =>
        rw [e3] at g
        rw [ile_eq] at e3
        refine ⟨a, vs, p, rfl, rfl, s, of_decide_eq_true e3, fun q hq => g (.ref q) _ ρ2 ((p1.trans p2).trans (post_out hq)) (hr2.out hq) (.tup (.of upd_same) ?_)⟩
        have := l.pick (List.range (Rx.stepN ws.length p)) fun m => ((0 : Int) + (m : Int) * p).toNat
        unfold stepW Rx.stepL
        rw [← l.length]
        exact this.mono hr2 (post_out hq)
    | _ => exact g.elim
  | _ => exact g.elim
/-! ### a, b, *c = a list -/
noncomputable def gStr (gs : EvGs) : EvG := fun w ω c => match w with
  | .ref n => match c.get n with
    | some (x :: y :: zs) => match few zs with
      | true => gs [x, y, .ref c.length] ω (c.push zs)
      | false => .no
    | _ => .no
  | _ => .no
theorem g_str {X : Cx} {e1 e2 e3 : Expr} {ps pos : Pos} {kk : Nat} {gs : EvGs} (hc : X.calm = true) (h : PGs X [e1, e2, .Starred e3 ps] (tGs X.K gs)) (hn : (assignEach [e1, e2, .Starred e3 ps] X.env).length = 3 := by rfl) (hst : (assignEach [e1, e2, .Starred e3 ps] X.env).findIdx? (·.1) = some 2 := by rfl) :
    PG X (.Tuple [e1, e2, .Starred e3 ps] kk pos) (tGt X.K (gStr gs)) := pg_imp (Rx.pg_star2 hc h hn hst) fun v σ H Q h => by
  obtain ⟨ρ, w, ω, c, hr, rw', hs, g⟩ := h
  cases rw' with
  | @ref n a hn =>
    have g : Got X.K (relS X.K) (match c.get n with | some (x :: y :: zs) => (match few zs with | true => gs [x, y, .ref c.length] ω (c.push zs) | false => .no) | _ => .no) ρ H Q := g
    cases e0 : c.get n with
    | none => rw [e0] at g; exact g.elim
    | some l =>
      rw [e0] at g
      match l, e0, g with
      | x :: y :: zs, e0, g =>
        have g : Got X.K (relS X.K) (match few zs with | true => gs [x, y, .ref c.length] ω (c.push zs) | false => .no) ρ H Q := g
        cases ef : few zs with
        | false => rw [ef] at g; exact g.elim
        | true =>
          rw [ef] at g
          obtain ⟨_, vs, z, _, hA, rv⟩ := hr.lst (.ref hn) e0
          cases z
          match vs, hA, rv with
          | vx :: vy :: vz, hA, .cons rx (.cons ry rz) =>
            refine ⟨a, vx, vy, vz, rfl, hA, fun p hp => ⟨ρ ++ [p], [x, y, .ref c.length], ω, c.push zs, hr.new hp rz, .cons (rx.mono hr (post_new hp)) (.cons (ry.mono hr (post_new hp)) (.cons (.ref ?_) .nil)), hs.mono hr (post_new hp), g.after (post_new hp)⟩⟩
            rw [← hr.len, List.getElem?_append_right (Nat.le_refl _)]
            simp
  | _ => exact g.elim
end Sm
/-! Sm9: runs apart from the caller's heap, f(*t) -/
namespace Sm
open PySem PySem.Spec PyProof.Rows L2
noncomputable def optL {α β : Type} (f : α → Option β) : List α → Option (List β)
  | [] => some []
  | a :: r => match f a with
    | some b => match optL f r with
      | some bs => some (b :: bs)
      | none => none
    | none => none
/-- an argument, as a callee on a heap of its own has it -/
noncomputable def inA (c : Ch) (w : W) : Option W := match w with
  | .ref n => match c.get n with
    | some ws => match ws.all (flat 9) with
      | true => some (.lv ws)
      | false => none
    | none => none
  | w => match flatA 9 w with
    | true => some w
    | false => none
/-- what comes back: lists of the callee's heap are told by what they hold -/
noncomputable def outW : Nat → Ch → W → Option W
  | 0, _, _ => none
  | _ + 1, c, .ref m => match c.get m with
    | some ws => match ws.all (flat 9) with
      | true => some (.lv ws)
      | false => none
    | none => none
  | n + 1, c, .tup ws => match optL (outW n c) ws with
    | some us => some (.tup us)
    | none => none
  | n + 1, c, w => match flat 9 w with
    | true => some w
    | false => some .any
section
variable {K : PySem.W.Frag} {ρ ρ' : List Addr} {H H' : Hp} {c : Ch}
theorem nil_relH : RelH K [] H Ch.nil := ⟨rfl, List.nodup_nil, fun a ha => absurd ha List.not_mem_nil, fun n ws e => by cases e⟩
theorem optL_rp {f : W → Option W} (hf : ∀ w u v, f w = some u → Rp K ρ H w v → Rp K ρ' H u v) : ∀ {ws us : List W} {vs : List V}, optL f ws = some us → RpL K ρ H ws vs → RpL K ρ' H us vs
  | [], _, _, h, .nil => by
    cases h
    exact .nil
  | w :: ws, us0, _, h, .cons r t => by
    cases e1 : f w with
    | none => simp only [optL, e1] at h; cases h
    | some u =>
      cases e2 : optL f ws with
      | none => simp only [optL, e1, e2] at h; cases h
      | some us =>
        simp only [optL, e1, e2] at h
        cases h
        exact .cons (hf w u _ e1 r) (optL_rp hf e2 t)
theorem flatA_in {w u : W} {v : V} (e : (match flatA 9 w with | true => some w | false => none) = some u) (r : Rp K ρ H w v) : Rp K [] H u v := by
  cases e1 : flatA 9 w with
  | false => rw [e1] at e; cases e
  | true =>
    rw [e1] at e
    cases e
    exact flatA_rp (fun a z => absurd z List.not_mem_nil) 9 w v e1 r
theorem inA_rp (hr : RelH K ρ H c) (w u : W) (v : V) (h : inA c w = some u) (r : Rp K ρ H w v) : Rp K [] H u v := by
  cases w with
  | ref n =>
    have h : (match c.get n with | some ws => (match ws.all (flat 9) with | true => some (W.lv ws) | false => none) | none => none) = some u := h
    cases e : c.get n with
    | none => rw [e] at h; cases h
    | some ws =>
      rw [e] at h
      have h : (match ws.all (flat 9) with | true => some (W.lv ws) | false => none) = some u := h
      cases e2 : ws.all (flat 9) with
      | false => rw [e2] at h; cases h
      | true =>
        rw [e2] at h
        cases h
        obtain ⟨a, vs, rfl, _, hA, rv⟩ := hr.lst r e
        exact .lv hA List.not_mem_nil (flatL_rp (fun w v => flat_rp 9 w v) e2 rv)
  | _ =>
    refine flatA_in ?_ r
    exact h
theorem flat_out {w u : W} {v : V} (e : (match flat 9 w with | true => some w | false => some .any) = some u) (r : Rp K ρ' H w v) : Rp K ρ H u v := by
  cases e1 : flat 9 w with
  | false =>
    rw [e1] at e
    cases e
    exact .any
  | true =>
    rw [e1] at e
    cases e
    exact flat_rp 9 w v e1 r
theorem outW_rp (hr : RelH K ρ' H c) (hn : ∀ a, a ∈ ρ' → a ∉ ρ) : ∀ (n : Nat) (w u : W) (v : V), outW n c w = some u → Rp K ρ' H w v → Rp K ρ H u v
  | 0, _, _, _, h, _ => by cases h
  | n + 1, w, u, v, h, r => by
    cases w with
    | ref m =>
      have h : (match c.get m with | some ws => (match ws.all (flat 9) with | true => some (W.lv ws) | false => none) | none => none) = some u := h
      cases e : c.get m with
      | none => rw [e] at h; cases h
      | some ws =>
        rw [e] at h
        have h : (match ws.all (flat 9) with | true => some (W.lv ws) | false => none) = some u := h
        cases e2 : ws.all (flat 9) with
        | false => rw [e2] at h; cases h
        | true =>
          rw [e2] at h
          cases h
          obtain ⟨a, vs, rfl, ha, hA, rv⟩ := hr.lst r e
          exact .lv hA (hn _ (List.mem_of_getElem? ha)) (flatL_rp (fun w v => flat_rp 9 w v) e2 rv)
    | tup ws =>
      have h : (match optL (outW n c) ws with | some us => some (W.tup us) | none => none) = some u := h
      cases e : optL (outW n c) ws with
      | none => rw [e] at h; cases h
      | some us =>
        rw [e] at h
        cases h
        cases r with
        | tup s l => exact .tup s (optL_rp (fun w u v => outW_rp hr hn n w u v) e l)
    | _ =>
      refine flat_out ?_ r
      exact h
end
noncomputable def apart (f : FC) : FC := fun ws c => match optL (inA c) ws with
  | some us => match f us Ch.nil with
    | .ok w c2 => match outW 9 c2 w with
      | some r => .ok r c
      | none => .no
    | .no => .no
  | none => .no
/-- the callee's list comes back as one that may be changed -/
noncomputable def apartR (f : FC) : FC := fun ws c => match optL (inA c) ws with
  | some us => match f us Ch.nil with
    | .ok (.ref m) c2 => match c2.get m with
      | some xs => match xs.all (flat 9) with
        | true => .ok (.ref c.length) (c.push xs)
        | false => .no
      | none => .no
    | _ => .no
  | none => .no
section
variable {K : PySem.W.Frag} {n : Nat} {f : FC} {vs : List V} {H : Hp} {Q : VK} {E : XK}
theorem spR_apart (h : spR K n (apart f) vs H Q E) : spR K n f vs H Q E := by
  obtain ⟨ρ, ws, c, hr, rx, hn, g⟩ := h
  unfold apart at g
  cases e1 : optL (inA c) ws with
  | none => rw [e1] at g; exact g.elim
  | some us =>
    rw [e1] at g
    have g : Got K (Rp K) (match f us Ch.nil with | .ok w c2 => (match outW 9 c2 w with | some r => R.ok r c | none => .no) | .no => .no) ρ H Q := g
    have ru := optL_rp (inA_rp hr) e1 rx
    refine ⟨[], us, Ch.nil, nil_relH, ru, by rw [ru.length, ← rx.length, hn], ?_⟩
    cases e2 : f us Ch.nil with
    | no => rw [e2] at g; exact g.elim
    | ok w c2 =>
      rw [e2] at g
      have g : Got K (Rp K) (match outW 9 c2 w with | some r => R.ok r c | none => .no) ρ H Q := g
      cases e3 : outW 9 c2 w with
      | none => rw [e3] at g; exact g.elim
      | some r =>
        rw [e3] at g
        intro v H' ρ' po hr' rv
        have po2 : Post ρ H ρ H' := ⟨⟨[], by simp, by simp⟩, fun a o e _ => po.keep a o e (by simp), po.dom⟩
        have new : ∀ a, a ∈ ρ' → a ∉ ρ := fun a ha z => by
          obtain ⟨m, em, hm⟩ := po.more
          rw [em] at ha
          obtain ⟨zs, ez⟩ := hr.mem a z
          rw [hm a (by simpa using ha)] at ez
          cases ez
        refine g v H' ρ po2 ⟨hr.len, hr.nd, fun a ha => ?_, fun k us e => ?_⟩ (outW_rp hr' new 9 w r v e3 rv)
        · obtain ⟨zs, e4⟩ := hr.mem a ha
          exact ⟨zs, po.keep a _ e4 (by simp)⟩
        · obtain ⟨a, zs, e4, e5, e6⟩ := hr.at_ k us e
          exact ⟨a, zs, e4, po.keep a _ e5 (by simp), e6.mono hr po2⟩
theorem spR_apartR (h : spR K n (apartR f) vs H Q E) : spR K n f vs H Q E := by
  obtain ⟨ρ, ws, c, hr, rx, hn, g⟩ := h
  unfold apartR at g
  cases e1 : optL (inA c) ws with
  | none => rw [e1] at g; exact g.elim
  | some us =>
    rw [e1] at g
    have g : Got K (Rp K) (match f us Ch.nil with | .ok (.ref m) c2 => (match c2.get m with | some xs => (match xs.all (flat 9) with | true => R.ok (.ref c.length) (c.push xs) | false => .no) | none => .no) | _ => .no) ρ H Q := g
    have ru := optL_rp (inA_rp hr) e1 rx
    refine ⟨[], us, Ch.nil, nil_relH, ru, by rw [ru.length, ← rx.length, hn], ?_⟩
    cases e2 : f us Ch.nil with
    | no => rw [e2] at g; exact g.elim
    | ok w c2 =>
      rw [e2] at g
      cases w with
      | ref m =>
        have g : Got K (Rp K) (match c2.get m with | some xs => (match xs.all (flat 9) with | true => R.ok (.ref c.length) (c.push xs) | false => .no) | none => .no) ρ H Q := g
        cases e3 : c2.get m with
        | none => rw [e3] at g; exact g.elim
        | some xs =>
          rw [e3] at g
          have g : Got K (Rp K) (match xs.all (flat 9) with | true => R.ok (.ref c.length) (c.push xs) | false => .no) ρ H Q := g
          cases e4 : xs.all (flat 9) with
          | false => rw [e4] at g; exact g.elim
          | true =>
            rw [e4] at g
            intro v H' ρ' po hr' rv
            obtain ⟨a, zs, rfl, ha, hA, rz⟩ := hr'.lst rv e3
            have ham := List.mem_of_getElem? ha
            obtain ⟨mm, em, hm⟩ := po.more
            have fr : H a = none := hm a (by rw [em] at ham; simpa using ham)
            have na : a ∉ ρ := fun z => by
              obtain ⟨ys, ez⟩ := hr.mem a z
              rw [fr] at ez
              cases ez
            have po2 : Post ρ H (ρ ++ [a]) H' := ⟨⟨[a], rfl, fun b hb => by rw [List.mem_singleton.mp hb]; exact fr⟩, fun b o e _ => po.keep b o e (by simp), po.dom⟩
            have ix : (ρ ++ [a])[c.length]? = some a := by
              rw [← hr.len, List.getElem?_append_right (Nat.le_refl _)]
              simp
            refine g (.ref a) H' (ρ ++ [a]) po2 ⟨by simp [hr.len, Ch.push], ?_, fun b hb => ?_, fun k us e => ?_⟩ (.ref ix)
            · refine List.nodup_append.mpr ⟨hr.nd, by simp, fun b hb d hd => ?_⟩
              rw [List.mem_singleton.mp hd]
              exact fun z => na (by rw [← z]; exact hb)
            · rcases List.mem_append.mp hb with z | z
              · obtain ⟨ys, e5⟩ := hr.mem b z
                exact ⟨ys, po.keep b _ e5 (by simp)⟩
              · rw [List.mem_singleton.mp z]
                exact ⟨zs, hA⟩
            · rw [Ch.get_push] at e
              by_cases hk : k = c.length
              · rw [if_pos hk] at e
                cases e
                exact ⟨a, zs, by rw [hk]; exact ix, hA, flatL_rp (fun w v => flat_rp 9 w v) e4 rz⟩
              · rw [if_neg hk] at e
                obtain ⟨b, ys, e5, e6, e7⟩ := hr.at_ k us e
                exact ⟨b, ys, po2.get e5, po.keep b _ e6 (by simp), e7.mono hr po2⟩
      | _ => exact g.elim
end
section
variable {P : Program} {w : World} {K : PySem.W.Frag} {mg : Str → Option Value} {base : Heap} {j k : Nat} {x m : Str} {t n : Nat} {f g : FC}
theorem Has.apart (h : Has P w K mg base k x n f) : Has P w K mg base k x n (Sm.apart f) := by
  obtain ⟨CX, fa, fd, ps, F, r⟩ := h.ex
  exact ⟨⟨CX, fa, fd, ps, F.imp fun vs H Q E => spR_apart, r⟩⟩
theorem Has.apartR (h : Has P w K mg base k x n f) : Has P w K mg base k x n (Sm.apartR f) := by
  obtain ⟨CX, fa, fd, ps, F, r⟩ := h.ex
  exact ⟨⟨CX, fa, fd, ps, F.imp fun vs H Q E => spR_apartR, r⟩⟩
theorem HasM.apart (h : HasM P w K mg base k t m n f) : HasM P w K mg base k t m n (Sm.apart f) := by
  obtain ⟨CX, fa, fd, ps, F, r⟩ := h.ex
  exact ⟨⟨CX, fa, fd, ps, F.imp fun vs H Q E => spR_apart, r⟩⟩
theorem HasM.mono (h : HasM P w K mg base j t m n f) (hk : j ≤ k) : HasM P w K mg base k t m n f := by
  obtain ⟨CX, fa, fd, ps, F, r⟩ := h.ex
  exact ⟨⟨CX, fa, fd, ps, F.mono hk, r⟩⟩
theorem spR_imp (i : ∀ ws c a c', g ws c = .ok a c' → f ws c = .ok a c') {vs : List V} {H : Hp} {Q : VK} {E : XK} (h : spR K n g vs H Q E) : spR K n f vs H Q E := by
  obtain ⟨ρ, ws, c, hr, rx, hn, q⟩ := h
  refine ⟨ρ, ws, c, hr, rx, hn, ?_⟩
  cases e : g ws c with
  | no => rw [e] at q; exact q.elim
  | ok a c' =>
    rw [i ws c a c' e]
    rw [e] at q
    exact q
theorem HasM.imp (h : HasM P w K mg base k t m n f) (i : ∀ ws c a c', g ws c = .ok a c' → f ws c = .ok a c') : HasM P w K mg base k t m n g := by
  obtain ⟨CX, fa, fd, ps, F, r⟩ := h.ex
  exact ⟨⟨CX, fa, fd, ps, F.imp fun vs H Q E => spR_imp i, r⟩⟩
end
/-! ### f(*t) -/
noncomputable def eCallS (n : Nat) (f : FC) (a : Ev) : Ev := fun ω c => (a ω c).bind fun x c1 => match itemsW x c1 with
  | some ws => match Nat.beq ws.length n with
    | true => f ws c1
    | false => .no
  | none => .no
theorem q_calls {X : Cx} {x : Str} {p sp_ pos : Pos} {e : Expr} {ea : Ev} {k n : Nat} {f : FC} (G : Has X.prog X.w X.K X.mg X.base k x n f) (hr : Room k X.A) (he : PE X e (tV X.K ea)) (hg : Gl X x := by rfl) (hd : (x == ("__debug__" : Str)) = false := by decide)
    (hst : starEach [.Starred e sp_] X.env = [(true, eval e X.env)] := by rfl) : PE X (.Call (.Name x p) [.Starred e sp_] [] pos) (tV X.K (eCallS n f ea)) := by
  obtain ⟨CX, fa, fd, ps, F, hm, hk, hb, hx⟩ := G.ex
  refine pe_imp (StX.pe_callS1 (F.raw hb .nil) hr hk hg hm (hx X rfl rfl) he hd hst) fun σ H Q h => ?_
  obtain ⟨ρ, ω, c, hr', hs, g⟩ := h
  obtain ⟨y, c1, e1, g⟩ := Got.bind g
  refine tG_in hr' hs e1 fun v H1 ρ1 p1 hr1 hs1 rx => ?_
  cases e2 : itemsW y c1 with
  | none => rw [e2] at g; exact g.elim
  | some ws =>
    rw [e2] at g
    have g : Got X.K (Rp X.K) (match Nat.beq ws.length n with | true => f ws c1 | false => .no) ρ H Q := g
    obtain ⟨a, vs, rfl, hq, rys⟩ := itemsW_ok hr1 rx e2
    cases e3 : Nat.beq ws.length n with
    | false => rw [e3] at g; exact g.elim
    | true =>
      rw [e3] at g
      refine ⟨a, vs, rfl, hq, ?_⟩
      rw [List.append_nil]
      exact ⟨ρ1, ws, c1, hr1, rys, Nat.eq_of_beq_eq_true e3, g.after p1⟩
end Sm
/-! Sm10: name = comprehension, *c as a target, methods of a class by their bodies -/
namespace Sm
open PySem PySem.Spec PyProof.Rows L2
theorem x_setlc {X : Cx} {y : Str} {py : Pos} {elt tg iter : Expr} {ifs : List Expr} {scope : Scope} {pos spos : Pos} {it : EvI} {gt : TG} {g : EvG} {t : EvB} {e : Ev} (i fuel : Nat) (own : List (Str × Nat)) (hc : X.calm = true) (hN : X.N.Nodup) (hi : PI X tg iter (tJ X.K it)) (ok : BlkOk X.N X.env.scope scope own) (hgc : Gc X.K (own.map (·.2)) gt g)
    (hg : ∀ (s : Shared) (H : Hp) (C : Addr) (cl : List (Str × Addr)) (fp : List Addr), PG (X.blk s H scope (compEnvC scope cl C X.env) fp) tg gt)
    (ht : ∀ (s : Shared) (H : Hp) (C : Addr) (cl : List (Str × Addr)) (fp : List Addr), PTs (X.blk s H scope (compEnvC scope cl C X.env) fp) ifs (tW X.K t))
    (he : ∀ (s : Shared) (H : Hp) (C : Addr) (cl : List (Str × Addr)) (fp : List Addr), PE (X.blk s H scope (compEnvC scope cl C X.env) fp) elt (tV X.K e)) (hy : X.N[i]? = some y := by rfl) (hyl : X.env.scope.names.lookup y = some .local := by rfl)
    (hsw : swapsWith (.ListComp elt [⟨tg, iter, ifs, 0⟩] scope pos) (some (.Name y py)) spos.line X.env = pure true := by rfl) (hs : ∀ x, foldedSetIterable iter X.env x = pure x := by intro _; rfl) :
    PS X (.Assign [.Name y py] (.ListComp elt [⟨tg, iter, ifs, 0⟩] scope pos) spos) (tX X.K (sSet i (eLc fuel (own.map (·.2)) it g t e))) := ps_imp (ps_setLc hc hN hy hyl hsw hi ok hg ht he hs) fun D σ H h => by
  obtain ⟨ρ, ω, c, hr, hs, g⟩ := h
  obtain ⟨w, c1, e1, g⟩ := GotS.run g
  refine tV_lc hgc (tG_in hr hs e1 fun v H1 ρ1 p1 hr1 hs1 rx => ?_)
  exact g _ H1 ρ1 p1 hr1 (hs1.setK rx i)
theorem pgs_star {X : Cx} {e : Expr} {p : Pos} {es : List Expr} {t : TG} {u : TGs} (h1 : PG X e t) (h2 : PGs X es u) (hs : (assignEach (.Starred e p :: es) X.env).map (·.2) = assign e X.env :: (assignEach es X.env).map (·.2) := by rfl) : PGs X (.Starred e p :: es) (gCons t u) := by
  refine ⟨fun pins s σ H vs us Q I r h => ?_⟩
  obtain ⟨v, vr, e1, h⟩ := h
  subst e1
  cases r with
  | cons r rr =>
    rw [hs]
    exact assignInOrder_cons (thn (h1.run pins s σ H _ _ _ I r h) fun _ s1 ⟨σ1, H1, I1, q1⟩ => h2.run pins s1 σ1 H1 _ _ Q I1 rr q1)
theorem gs_star {X : Cx} {e : Expr} {p : Pos} {es : List Expr} {g1 : EvG} {g2 : EvGs} (h1 : PG X e (tGt X.K g1)) (h2 : PGs X es (tGs X.K g2)) (hs : (assignEach (.Starred e p :: es) X.env).map (·.2) = assign e X.env :: (assignEach es X.env).map (·.2) := by rfl) :
    PGs X (.Starred e p :: es) (tGs X.K (gsCons g1 g2)) := gs_imp (pgs_star h1 h2 hs) fun vs σ H Q h => by
  obtain ⟨ρ, ws, ω, c, hr, rw', hs, g⟩ := h
  cases rw' with
  | nil => exact g.elim
  | @cons w ws v vs r1 r2 =>
    obtain ⟨ω1, c1, e1, g⟩ := Got.bind g
    refine ⟨v, vs, rfl, ρ, w, ω, c, hr, r1, hs, ?_⟩
    rw [e1]
    exact fun σ1 H1 ρ1 p1 hr1 hs1 => ⟨ρ1, ws, ω1, c1, hr1, r2.mono hr p1, hs1, g.after p1⟩
section
variable {P : Program} {w : World} {K : PySem.W.Frag} {mg : Str → Option Value} {base : Heap}
theorem hasM_of {m qual : Str} {params : Arguments} {body : List Stmt} {scope : Scope} {f : Addr} {fd : FuncData} {ps : List Str} {k t n : Nat} {r : FC} (F : FunD K m qual params body scope [] [] f fd) (G : FnOk P w K mg base CX0 k f fd ps (spR K (n + 1) r)) (hm : Meth K (He.ga K (clsN t)) m f) (hc : Cls K (He.ga K (clsN t)))
    (hb : ∀ (kV doc pm : Value) (an : Option Addr) (cdv ct : Value) (us : List Value), us.length = ps.length → bindArgs (PySem.W.fnOf m qual params body scope .none kV doc pm an cdv ct) ⟨us, []⟩ = pure (ps.zip us)) : HasM P w K mg base k t m n r :=
  ⟨⟨CX0, f, fd, ps, G, hm, hc, F.bindsN hb, fun _ _ _ => pass0⟩⟩
end
end Sm
/-! Lp: loops by the state behind each turn; ints in lists -/
namespace Sm
open PySem PySem.Spec PyProof.Rows L2
/-- a loop: γ i is the state ahead of turn i -/
theorem loop_by {s : Src} {g : EvG} {body : EvS} (n : Nat) (γ : Nat → Sl) (χ : Nat → Ch) (item : Nat → W) (hstop : stepS s n (χ n) = .stop) (hitem : ∀ i, i < n → stepS s i (χ i) = .item (item i))
    (hturn : ∀ i, i < n → ∃ ω1 c1, g (item i) (γ i) (χ i) = .ok ω1 c1 ∧ body ω1 c1 = .nx (γ (i + 1)) (χ (i + 1))) : ∀ (k i fuel : Nat), n - i = k → i ≤ n → k < fuel → loopS s g body fuel i (γ i) (χ i) = .nx (γ n) (χ n)
  | 0, i, 0, _, _, hf => absurd hf (Nat.lt_irrefl _)
  | 0, i, fuel + 1, hk, hi, _ => by
    have e : i = n := by omega
    subst e
    rw [loopS_succ, hstop]
  | k + 1, i, 0, _, _, hf => absurd hf (Nat.not_lt_zero _)
  | k + 1, i, fuel + 1, hk, hi, hf => by
    have hl : i < n := by omega
    obtain ⟨ω1, c1, e1, e2⟩ := hturn i hl
    rw [loopS_succ, hitem i hl]
    simp only [e1, e2]
    exact loop_by n γ χ item hstop hitem hturn k (i + 1) fuel (by omega) hl (by omega)
theorem for_by {fuel : Nat} {it : EvI} {s : Src} {g : EvG} {body : EvS} {ω : Sl} {c : Ch} (n : Nat) (γ : Nat → Sl) (χ : Nat → Ch) (item : Nat → W) (hit : it ω c = .ok s c) (h1 : γ 0 = ω) (h2 : χ 0 = c) (hstop : stepS s n (χ n) = .stop) (hitem : ∀ i, i < n → stepS s i (χ i) = .item (item i))
    (hturn : ∀ i, i < n → ∃ ω1 c1, g (item i) (γ i) (χ i) = .ok ω1 c1 ∧ body ω1 c1 = .nx (γ (i + 1)) (χ (i + 1))) (hf : n < fuel) : sFor fuel it g body ω c = .nx (γ n) (χ n) := by
  unfold sFor
  rw [hit]
  show loopS s g body fuel 0 ω c = _
  rw [← h1, ← h2]
  exact loop_by n γ χ item hstop hitem hturn n 0 fuel (by omega) (by omega) hf
/-- ints -/
noncomputable def intsW : List W → Option (List Int)
  | [] => some []
  | .int i :: r => match intsW r with
    | some is => some (i :: is)
    | none => none
  | _ :: _ => none
theorem intsW_eq : ∀ {ws : List W} {is : List Int}, intsW ws = some is → ws = is.map W.int
  | [], _, h => by
    cases h
    rfl
  | .int i :: r, is0, h => by
    cases e : intsW r with
    | none => simp only [intsW, e] at h; cases h
    | some is =>
      simp only [intsW, e] at h
      cases h
      rw [intsW_eq e]
      rfl
  | .non :: _, _, h => by cases h
  | .bl _ :: _, _, h => by cases h
  | .str _ :: _, _, h => by cases h
  | .tup _ :: _, _, h => by cases h
  | .ref _ :: _, _, h => by cases h
  | .emp :: _, _, h => by cases h
  | .mt :: _, _, h => by cases h
  | .frz _ :: _, _, h => by cases h
  | .lv _ :: _, _, h => by cases h
  | .obj _ _ :: _, _, h => by cases h
  | .any :: _, _, h => by cases h
theorem flat_ints (n : Nat) (is : List Int) : (is.map W.int).all (flat (n + 1)) = true := by
  rw [List.all_eq_true]
  intro w hw
  obtain ⟨i, _, rfl⟩ := List.mem_map.mp hw
  rfl
theorem flatA_ints (n : Nat) (is : List Int) : (is.map W.int).all (flatA (n + 1)) = true := by
  rw [List.all_eq_true]
  intro w hw
  obtain ⟨i, _, rfl⟩ := List.mem_map.mp hw
  rfl
theorem outL_flat {f : W → Option W} {p : W → Bool} (h : ∀ w, p w = true → f w = some w) : ∀ {ws : List W}, ws.all p = true → optL f ws = some ws
  | [], _ => rfl
  | w :: ws, e => by
    rw [List.all_cons] at e
    obtain ⟨e1, e2⟩ := Bool.and_eq_true_iff.mp e
    simp only [optL, h w e1, outL_flat h e2]
theorem flat_mono : ∀ (n : Nat) (w : W), flat n w = true → flat (n + 1) w = true
  | 0, _, h => by cases h
  | n + 1, .tup ws, h => by
    have h : ws.all (flat n) = true := h
    show ws.all (flat (n + 1)) = true
    rw [List.all_eq_true] at h ⊢
    exact fun w hw => flat_mono n w (h w hw)
  | n + 1, .obj _ ws, h => by
    have h : ws.all (flat n) = true := h
    show ws.all (flat (n + 1)) = true
    rw [List.all_eq_true] at h ⊢
    exact fun w hw => flat_mono n w (h w hw)
  | n + 1, .ref _, h => by cases h
  | n + 1, .mt, h => by cases h
  | n + 1, .frz _, h => by cases h
  | n + 1, .lv _, h => by cases h
  | n + 1, .emp, _ => rfl
  | n + 1, .non, _ => rfl
  | n + 1, .bl _, _ => rfl
  | n + 1, .int _, _ => rfl
  | n + 1, .str _, _ => rfl
  | n + 1, .any, _ => rfl
theorem flat_le {n m : Nat} (h : n ≤ m) (w : W) (e : flat n w = true) : flat m w = true := by
  induction h with
  | refl => exact e
  | step _ ih => exact flat_mono _ w ih
theorem outW_flat (c : Ch) : ∀ (n : Nat) (w : W), n ≤ 9 → flat n w = true → outW n c w = some w
  | 0, _, _, h => by cases h
  | n + 1, .tup ws, hn, h => by
    have h : ws.all (flat n) = true := h
    show (match optL (outW n c) ws with | some us => some (W.tup us) | none => none) = _
    rw [outL_flat (fun w e => outW_flat c n w (by omega) e) h]
  | n + 1, .obj k ws, hn, h => by
    show (match flat 9 (.obj k ws) with | true => some (W.obj k ws) | false => some .any) = _
    rw [flat_le hn _ h]
  | n + 1, .ref _, _, h => by cases h
  | n + 1, .mt, _, h => by cases h
  | n + 1, .frz _, _, h => by cases h
  | n + 1, .lv _, _, h => by cases h
  | n + 1, .emp, _, _ => rfl
  | n + 1, .non, _, _ => rfl
  | n + 1, .bl _, _, _ => rfl
  | n + 1, .int _, _, _ => rfl
  | n + 1, .str _, _, _ => rfl
  | n + 1, .any, _, _ => rfl
theorem flatA_of : ∀ (n : Nat) (w : W), flat n w = true → flatA n w = true
  | 0, _, h => by cases h
  | n + 1, .tup ws, h => by
    have h : ws.all (flat n) = true := h
    show ws.all (flatA n) = true
    rw [List.all_eq_true] at h ⊢
    exact fun w hw => flatA_of n w (h w hw)
  | n + 1, .obj _ ws, h => by
    have h : ws.all (flat n) = true := h
    show ws.all (flatA n) = true
    rw [List.all_eq_true] at h ⊢
    exact fun w hw => flatA_of n w (h w hw)
  | n + 1, .ref _, h => by cases h
  | n + 1, .mt, h => by cases h
  | n + 1, .frz _, h => by cases h
  | n + 1, .lv _, h => by cases h
  | n + 1, .emp, _ => rfl
  | n + 1, .non, _ => rfl
  | n + 1, .bl _, _ => rfl
  | n + 1, .int _, _ => rfl
  | n + 1, .str _, _ => rfl
  | n + 1, .any, _ => rfl
/-- apart, said in two steps -/
theorem apart_eq {f : FC} {ws us : List W} {c c2 : Ch} {w r : W} (h1 : optL (inA c) ws = some us) (h2 : f us Ch.nil = .ok w c2) (h3 : outW 9 c2 w = some r) : apart f ws c = .ok r c := by
  unfold apart
  rw [h1]
  simp only [h2, h3]
theorem apart_inv {f : FC} {ws : List W} {c c' : Ch} {r : W} (h : apart f ws c = .ok r c') : c' = c ∧ ∃ us w c2, optL (inA c) ws = some us ∧ f us Ch.nil = .ok w c2 ∧ outW 9 c2 w = some r := by
  unfold apart at h
  cases e1 : optL (inA c) ws with
  | none => rw [e1] at h; cases h
  | some us =>
    rw [e1] at h
    simp only at h
    cases e2 : f us Ch.nil with
    | no => rw [e2] at h; cases h
    | ok w c2 =>
      rw [e2] at h
      simp only at h
      cases e3 : outW 9 c2 w with
      | none => rw [e3] at h; cases h
      | some r' =>
        rw [e3] at h
        cases h
        exact ⟨rfl, us, w, c2, rfl, e2, e3⟩
end Sm
/-! Rx4: a dict comprehension whose keys are tuples, sorted -/
namespace Rx
open PySem PySem.Spec PyProof.Rows L2
abbrev TK (P : Program) (w : World) := tupleKind (mixKind P w)
abbrev Ent := List Key × Addr × Value
/-- what the object at D is: a dict with these keys -/
def DicAt (P : Program) (w : World) (D : Addr) (xs : List Ent) (h : Heap) : Prop := (D == sysModules) = false ∧ ∃ o es ep, h.get? D = some o ∧ o.ExactDict ∧ o.data = .dict es ep ∧ es.toList = xs.map (entryOfKey (TK P w)) ∧ (xs.map (·.1)).Nodup
def DX (P : Program) (w : World) (D : Addr) (xs : List Ent) : HO := .ext (DicAt P w D xs)
theorem DicAt.there {P : Program} {w : World} {D : Addr} {xs : List Ent} {h : Heap} (q : DicAt P w D xs h) : ∃ o, h.get? D = some o := let ⟨_, o, _, _, e, _⟩ := q; ⟨o, e⟩
theorem dx_ok {P : Program} {w : World} {D : Addr} {xs : List Ent} {H : Hp} {h : Heap} (q : DicAt P w D xs h) : ObjOk P w H h D (DX P w D xs) := ⟨q, q.there, fun h1 h2 ⟨l, o, es, ep, e, r⟩ k => ⟨l, o, es, ep, k o e, r⟩⟩
theorem dx_at {P : Program} {w : World} {D : Addr} {xs : List Ent} {H : Hp} {h : Heap} (ok : HOk P w H h) (e : H D = some (DX P w D xs)) : DicAt P w D xs h := (show ObjOk P w H h D (DX P w D xs) from ok D _ e).1
section
variable {X : Cx} {pins : List (Addr × Obj)} {σ : L2.St} {H : Hp} {s : Shared}
/-- a tuple of ints is a key -/
theorem sq_key {b : Addr} {k : List Key} (I : Inv X pins σ H s) (q : SqT X.K H b (k.map kV)) : (TK X.prog X.w).is s.heap k b := by
  obtain ⟨its, rv, ⟨o, ho, hc, n, hd⟩, _⟩ := I.tuple q
  exact ⟨o, its.toArray, n, ho, hc, hd, by simpa using items_are rv⟩
/-- the keys that a dict has -/
def Keyed (K : PySem.W.Frag) (H : Hp) (xs : List Ent) : Prop := ∀ x ∈ xs, SqT K H x.2.1 (x.1.map kV)
theorem dx_dict {D : Addr} {xs : List Ent} (I : Inv X pins σ H s) (e : H D = some (DX X.prog X.w D xs)) (q : Keyed X.K H xs) : s.heap.DictOfH (TK X.prog X.w) D xs := by
  obtain ⟨_, o, es, ep, h1, h2, h3, h4, h5⟩ := dx_at I.hok e
  exact ⟨o, es, ep, h1, h2, h3, h4, fun x hx => sq_key I (q x hx), h5⟩
theorem dx_store {D b : Addr} {xs : List Ent} {k : List Key} {v : Value} {Q : Unit → Shared → Prop} {E : Value → Shared → Prop} (hu : X.A.units < cLine) (I : Inv X pins σ H s) (e : H D = some (DX X.prog X.w D xs)) (q : Keyed X.K H xs) (qb : SqT X.K H b (k.map kV)) (hl : xs.length ≤ sizeLine)
    (h : ∀ s', Inv X pins σ (upd H D (DX X.prog X.w D (storedH xs k b v))) s' → Q () s') : wpAny (model X.prog X.w) X.A (dictSet D (.ref b) v) Q E s := by
  refine wpAny_dictSet_heap (knd := TK X.prog X.w) (hsz := hl) hu (sq_key I qb) (dx_dict I e q) fun h' ⟨o, es, ep, h1, h2, h3, h4, _, h5⟩ hs => h _ ?_
  exact d_write I (by rw [e]; exact True.intro) hs ⟨o, h1⟩ (dx_ok ⟨(dx_at I.hok e).1, o, es, ep, h1, h2, h3, h4, h5⟩)
end
theorem dx_new {P : Program} {w : World} {H : Hp} (h : Heap) (hb : sysModules < h.objs.size) : ObjOk P w H (h.push { cls := .type "dict", data := .dict #[] }) h.objs.size (DX P w h.objs.size []) :=
  dx_ok ⟨beq_eq_false_iff_ne.mpr (Nat.ne_of_gt hb), _, #[], 0, Heap.get?_push_size _ rfl, ⟨rfl, by first | rfl | decide⟩, rfl, rfl, List.nodup_nil⟩
section
variable {X : Cx}
/-- what the block asks of a turn's end -/
def dEnd (X : Cx) (D : Addr) (y : V) (H5 : Hp) (Nx : Hp → Prop) : Prop := ∃ (xs : List Ent) (k : List Key) (b : Addr), y = .ref b ∧ H5 D = some (DX X.prog X.w D xs) ∧ Keyed X.K H5 xs ∧ SqT X.K H5 b (k.map kV) ∧ xs.length < sizeLine ∧ ∀ v, Nx (upd H5 D (DX X.prog X.w D (storedH xs k b v)))
def dTurn (X : Cx) (D : Addr) (J : It) (Qd : Hp → Prop) (g : TG) (tt : TT) (tk tv : TE) (τ : L2.St) (vs : List Nat) (W : Nat → Nat → Hp → Prop) : Prop := ∀ i m H, W i m H → (J.stop i H ∧ Qd H) ∨ (J.go i H ∧ ∃ Nx : Hp → Prop, (∀ H', Nx H' → ∃ m', m' < m ∧ W (i + 1) m' H') ∧
  ∀ x H', J.yld i H x H' → g x τ H' fun σ2 H2 => wipe σ2 vs = τ ∧ tt σ2 H2 fun b H3 => if b = true then tk σ2 H3 fun y H4 => tv σ2 H4 fun _ H5 => dEnd X D y H5 Nx else Nx H3)
def tDx (X : Cx) (wi : TI) (g : TG) (tt : TT) (tk tv : TE) (vs : List Nat) : TE := fun σ H Q => wi σ H fun J H1 => ∀ D, H1 D = none → ∃ W, (∃ m, W 0 m (upd H1 D (DX X.prog X.w D []))) ∧ dTurn X D J (fun H => Q (.ref D) H) g tt tk tv (wipe σ vs) vs W
theorem pe_dx {kx vx tg iter : Expr} {ifs : List Expr} {scope : Scope} {own : List (Str × Nat)} {pos : Pos} {wi : TI} {g : TG} {tt : TT} {tk tv : TE} (hu : X.A.units < cLine) (hc : X.calm = true) (hN : X.N.Nodup) (hi : PI X tg iter wi) (ok : BlkOk X.N X.env.scope scope own)
    (hg : ∀ (s : Shared) (H : Hp) (C : Addr) (cl : List (Str × Addr)) (fp : List Addr), PG (X.blk s H scope (compEnvC scope cl C X.env) fp) tg g)
    (ht : ∀ (s : Shared) (H : Hp) (C : Addr) (cl : List (Str × Addr)) (fp : List Addr), PTs (X.blk s H scope (compEnvC scope cl C X.env) fp) ifs tt)
    (hk : ∀ (s : Shared) (H : Hp) (C : Addr) (cl : List (Str × Addr)) (fp : List Addr), PE (X.blk s H scope (compEnvC scope cl C X.env) fp) kx tk)
    (he : ∀ (s : Shared) (H : Hp) (C : Addr) (cl : List (Str × Addr)) (fp : List Addr), PE (X.blk s H scope (compEnvC scope cl C X.env) fp) vx tv) (hs : ∀ x, foldedSetIterable iter X.env x = pure x := by intro _; rfl) :
    PE X (.DictComp kx vx [⟨tg, iter, ifs, 0⟩] scope pos) (tDx X wi g tt tk tv (own.map (·.2))) := by
  refine ⟨fun pins s σ H Q I h => ?_⟩
  rw [arm_eval_DictComp]
  have cells : ∀ y ∈ scope.names, y.2 = .free → ∃ c, X.env.cells.lookup y.1 = some c := fun y hy e => I.ok.has _ ((ok.free y hy e).elim Or.inl Or.inr)
  refine wpAny_comprehension_free (use := none) rfl hs (closure_ok cells) ok.kind (fun y hy e => by rw [ok.uniq y hy, e]) (thn (hi.run pins s σ H _ I h) fun _ _ hx => thn hx fun _ s2 z => ?_)
  obtain ⟨it, fp, tn, J, H2, rfl, I2, T, st2, f2, q⟩ := z
  refine wpAny_newObj_type (newEnv_comp ?_)
  obtain ⟨W, ⟨m0, w0⟩, turn⟩ := q s2.heap.objs.size (I2.hok.fresh (Nat.le_refl _))
  have I3 : Inv X pins σ (upd H2 s2.heap.objs.size (DX X.prog X.w s2.heap.objs.size [])) { s2 with heap := s2.heap.push { cls := .type "dict", data := .dict #[] } } := I2.laid (t' := s2.toks) (fun _ _ e => Heap.get?_push_of_some _ e) (Nat.le_refl _) (dx_new s2.heap I2.big)
  have f3 : ∀ b ∈ fp, FpOk X pins (upd H2 s2.heap.objs.size (DX X.prog X.w s2.heap.objs.size [])) b ∧ b < (s2.heap.push { cls := .type "dict", data := .dict #[] }).objs.size := fun b hb => by
    obtain ⟨o, e, _⟩ := T.obj _ _ st2 b hb
    have lt := Heap.lt_size e
    exact ⟨⟨(upd_ne (Nat.ne_of_lt lt)).trans (f2 b hb).1, (f2 b hb).2⟩, by rw [Heap.size_push]; exact Nat.lt_succ_of_lt lt⟩
  have st3 : tn 0 (s2.heap.push { cls := .type "dict", data := .dict #[] }) := T.keep _ _ _ st2 fun _ _ _ e => Heap.get?_push_of_some _ e
  generalize s2.heap.objs.size = D at *
  generalize upd H2 D (DX X.prog X.w D []) = H3 at *
  generalize hs3 : ({ s2 with heap := s2.heap.push { cls := .type "dict", data := .dict #[] } } : Shared) = s3 at *
  have e3 : s2.heap.push { cls := .type "dict", data := .dict #[] } = s3.heap := by rw [← hs3]
  rw [e3] at f3 st3
  have I4 := block_start I3 ok hN f3
  generalize hcl : cellsFrom (s3.heap.objs.size + 1) scope.names (cloFrom X.env.cells scope.names []) = cl at *
  have Pg := hg s3 H3 s3.heap.objs.size cl fp
  have Pt := ht s3 H3 s3.heap.objs.size cl fp
  have Pk := hk s3 H3 s3.heap.objs.size cl fp
  have Pv := he s3 H3 s3.heap.objs.size cl fp
  show codeAny _ _ (.compStart (.DictComp kx vx [⟨tg, iter, ifs, 0⟩] scope pos) 0 (.ref it) (.ref D) (compEnvC scope cl s3.heap.objs.size X.env)) (compPost (model X.prog X.w) X.A X.xe none (EP X pins σ Q) (.ref D) s3.heap.objs.size)
    { s3 with heap := pushCells (s3.heap.push { cls := .type "dict", data := .dict #[] }) scope.names }
  have free3 : ∀ b ∈ fp, H3 b = none := fun b hb => (f3 b hb).1.1
  have eL : (compEnvC scope cl s3.heap.objs.size X.env).locals = s3.heap.objs.size := rfl
  generalize compEnvC scope cl s3.heap.objs.size X.env = ce at *
  generalize hs4 : ({ s3 with heap := pushCells (s3.heap.push { cls := .type "dict", data := .dict #[] }) scope.names } : Shared) = s4 at *
  have st4 : tn 0 s4.heap := T.keep _ _ _ st3 fun b _ o e => by rw [← hs4]; exact pushCells_keeps _ _ _ _ (Heap.get?_push_of_some _ e)
  -- what a turn starts from
  have fpOk : ∀ {τ : L2.St} {Hx : Hp} {sx : Shared}, Inv (X.blk s3 H3 scope ce fp) [] τ Hx sx → (∀ b ∈ fp, Hx b = none) → ∀ b ∈ fp, FpOk (X.blk s3 H3 scope ce fp) [] Hx b := fun Ix nx b hb =>
    ⟨nx b hb, (Ix.ok.exf b hb).1, Ix.ok.exfs b hb, .inl hb, fun x c e => (Ix.ok.exf b hb).2 x c e, fun p z => absurd (show p ∈ ([] : List (Addr × Obj)) ++ [] from z) (by simp)⟩
  let P0 : Nat → Shared → Prop := fun n sx => ∃ i Hx, Inv (X.blk s3 H3 scope ce fp) [] (wipe σ (own.map (·.2))) Hx sx ∧ tn i sx.heap ∧ (∀ b ∈ fp, Hx b = none) ∧ W i n Hx
  have loop : codeAny (model X.prog X.w) X.A (.compLoop (.DictComp kx vx [⟨tg, iter, ifs, 0⟩] scope pos) 0 (.ref it) (.ref D) ce) (compPost (model X.prog X.w) X.A X.xe none (EP X pins σ Q) (.ref D) s3.heap.objs.size) s4 := by
    refine compLoop_anyD P0 (fun n s5 z5 => ?_) m0 ⟨0, H3, I4, st4, free3, w0⟩
    obtain ⟨i, H5, I5, st5, n5, w5⟩ := z5
    rcases turn i n H5 w5 with ⟨halt, q5⟩ | ⟨go, Nx, hNx, step⟩
    · refine thnF (T.done (X.blk s3 H3 scope ce fp) rfl rfl rfl hc i [] s5 _ H5 (fun _ _ => False) I5 (fpOk I5 n5) st5 halt) fun r s6 z6 => ?_
      obtain ⟨rfl, I6⟩ := z6
      have I7 : Inv X pins σ H5 s6 := I3.call' (ch := fp) I6.os I6.base I6.hok I6.bare fun b hb => let ⟨_, a1, a2, a3, a4, a5⟩ := (f3 b hb).1; ⟨a3, a1, a4, a5⟩
      obtain ⟨m, hm, _⟩ := I6.loc
      have noC : H5 ce.locals = none := I6.free
      rw [eL] at hm noC
      obtain ⟨g0, g1, _, g3, g4, g5⟩ := I3.fpOk (Nat.le_refl _) noC
      exact ⟨m, hm, fun h'' sb => ⟨.ref D, H5, I7.turned (t' := s6.toks) (fun b o ne e => (sb.2 b ne).trans e) g0 g1 g3 g4 g5, rfl, q5⟩⟩
    · refine thnF (T.item (X.blk s3 H3 scope ce fp) rfl rfl rfl hc i [] s5 _ H5 (fun _ _ => False) I5 (fpOk I5 n5) st5 go) fun r s6 z6 => ?_
      obtain ⟨u, rfl, z6⟩ := z6
      refine thnF z6 fun _ s7 z7 => ?_
      obtain ⟨x, H7, I7, r7, y7, st7, n7⟩ := z7
      refine thnF (Pg.run _ s7 _ H7 x u _ (I7.pinned (fpOk I7 n7) (T.obj _ _ st7)) r7 (step x H7 y7)) fun _ s8 z8 => ?_
      obtain ⟨σ8, H8, I8, w8, q8⟩ := z8
      have back : ∀ {sx : Shared} {Hx : Hp}, Inv (X.blk s3 H3 scope ce fp) ([] ++ pinsAt fp s7.heap) σ8 Hx sx → Nx Hx → ∃ m, m < n ∧ P0 m sx := fun {sx Hx} Ix nx => by
        obtain ⟨m', lt, wm⟩ := hNx Hx nx
        have pin : ∀ b ∈ fp, ∀ o, s7.heap.get? b = some o → sx.heap.get? b = some o ∧ Hx b = none := fun b hb o e => let ⟨a1, a2, _⟩ := Ix.pin (b, o) (List.mem_append_right _ (List.mem_append_right _ (mem_pinsAt hb e))); ⟨a1, a2⟩
        refine ⟨m', lt, i + 1, Hx, (Ix.unpinned (pins := [])).weak (by rw [← w8, wipe_length]) (fun j v e => (wipe_some (by rw [w8]; exact e)).1), T.keep _ _ _ st7 fun b hb o e => (pin b hb o e).1, fun b hb => ?_, wm⟩
        obtain ⟨o, e, _⟩ := T.obj _ _ st7 b hb
        exact (pin b hb o e).2
      refine thnF (Pt.run _ s8 σ8 H8 _ I8 q8) fun b s9 z9 => ?_
      obtain ⟨H9, I9, q9⟩ := z9
      by_cases hb : b = true
      · rw [if_pos hb] at q9 ⊢
        refine thnF (Pk.run _ s9 σ8 H9 _ I9 q9) fun _ s10 z10 => ?_
        obtain ⟨yk, H10, I10, r10, q10⟩ := z10
        refine thnF (Pv.run _ s10 σ8 H10 _ I10 q10) fun vv s11 z11 => ?_
        obtain ⟨_, H11, I11, r11, xs, k, bk, rfl, eD, ky, kb, lx, nx⟩ := z11
        obtain rfl := (show _ = Value.ref bk from r10)
        exact dx_store (X := X.blk s3 H3 scope ce fp) hu I11 eD ky kb (Nat.le_of_lt lx) fun s12 I12 => back I12 (nx vv)
      · rw [if_neg hb] at q9 ⊢
        exact back I9 q9
  exact codeAny_compStart_dict loop (T.self X.A 0 _ _ _ st4 loop)
end
end Rx
/-! Rx5: sorted(d), the keys of d tuples of ints of one length, of any sign -/
namespace Rx
open PySem PySem.Spec PyProof.Rows L2
abbrev sh (S : Int) (ns : List Int) : List Int := ns.map (· + S)
def rkS (B S : Int) (ns : List Int) : Int := TS.code B (sh S ns)
section
variable {prog : Program} {w : World} {A : Around} {E : Value → Shared → Prop} {s : Shared}
theorem lexS {B S : Int} {b : Bool} {Q : Bool → Shared → Prop} : ∀ {xs ys : List Value} {ns ms : List Int} (i : Nat), IntsAre xs ns → IntsAre ys ms → ns.length = ms.length → TS.Bd B (sh S ns) → TS.Bd B (sh S ms) → Q (decide (rkS B S ns < rkS B S ms)) s → PySem.W.KatLex prog w A b false Q (xs.zip ys) i s
  | _, _, _, _, i, .nil, .nil, _, _, _, h => PySem.W.kat_nil (by rwa [decide_eq_false (Int.lt_irrefl _)] at h)
  | _, _, _, _, i, .nil, .cons _ _ _, hl, _, _, _ => by simp at hl
  | _, _, _, _, i, .cons _ _ _, .nil, hl, _, _, _ => by simp at hl
  | _, _, _, _, i, .cons (ns := ns) p t hx, .cons (ns := ms) q u hy, hl, b1, b2, h => by
    have hl : ns.length = ms.length := by simpa using hl
    have hl2 : (sh S ns).length = (sh S ms).length := by rw [List.length_map, List.length_map, hl]
    refine PySem.W.kat_cons (wpAny_eqBool_int ?_)
    have key : decide (rkS B S (p :: ns) < rkS B S (q :: ms)) = if p = q then decide (rkS B S ns < rkS B S ms) else decide (p < q) := by
      by_cases e : p = q
      · rw [if_pos e, e]
        exact decide_eq_decide.mpr (TS.code_same hl2)
      · rw [if_neg e]
        refine decide_eq_decide.mpr ⟨fun z => ?_, fun z => TS.code_lt hl2 b1.tail b2.tail (show p + S < q + S by omega)⟩
        by_cases g : q < p
        · have := TS.code_lt hl2.symm b2.tail b1.tail (show q + S < p + S by omega)
          exact absurd (Int.lt_trans z this) (Int.lt_irrefl _)
        · omega
    rw [key] at h
    by_cases e : p = q
    · rw [if_pos e] at h
      rw [show (p == q) = true from beq_iff_eq.mpr e]
      exact PySem.W.kat_yes (lexS (i + 1) hx hy hl b1.tail b2.tail h)
    · rw [if_neg e] at h
      rw [show (p == q) = false from beq_eq_false_iff_ne.mpr e]
      exact PySem.W.kat_no (TS.oneLt_ints _ h)
/-- rows of one length -/
def RowsS (h : Heap) (d : Nat) (B S : Int) (vs : List Value) : Prop := ∀ v ∈ vs, ∃ ns, TS.TupInts h v ns ∧ ns.length = d ∧ TS.Bd B (sh S ns)
theorem RowsS.keeps {h h' : Heap} {d : Nat} {B S : Int} {vs : List Value} (x : RowsS h d B S vs) (k : ∀ b o, h.get? b = some o → o.cls = .type "tuple" → h'.get? b = some o) : RowsS h' d B S vs := fun v hv =>
  let ⟨ns, t, r⟩ := x v hv
  ⟨ns, t.keeps k, r⟩
theorem headsS {h : Heap} {d : Nat} {B S : Int} (hd : 1 ≤ d) : ∀ vs : List Value, RowsS h d B S vs → ∃ fs, PySem.W.KatTups h vs fs ∧ fs.length = vs.length ∧ ∀ f ∈ fs, ∃ n t, f = Value.int n t
  | [], _ => ⟨[], .nil, rfl, fun f hf => absurd hf List.not_mem_nil⟩
  | v :: vs, x => by
    obtain ⟨fs, k, hl, hi⟩ := headsS hd vs fun u hu => x u (List.mem_cons_of_mem _ hu)
    obtain ⟨ns, ⟨a, xs, rfl, ⟨o, ho, hc, n, hdt⟩, i⟩, hn, _⟩ := x v List.mem_cons_self
    cases q : xs.toList with
    | nil =>
      have l := i.length
      rw [q, hn] at l
      exact absurd l (by simp; omega)
    | cons y ys =>
      obtain ⟨m, t, hy⟩ := i.all y (by rw [q]; exact List.mem_cons_self)
      exact ⟨y :: fs, .cons ho hc hdt (by rw [← Array.getElem?_toList, q]; rfl) k, congrArg Nat.succ hl, fun f hf => (List.mem_cons.mp hf).elim (fun e => ⟨m, t, e.trans hy⟩) (hi f)⟩
theorem kindS {d : Nat} {B S : Int} {vs : List Value} (hd : 1 ≤ d) (h2 : 2 ≤ vs.length) (x : RowsS s.heap d B S vs) (r : Value → Int) (hr : ∀ v ∈ vs, ∀ ns, TS.TupInts s.heap v ns → r v = rkS B S ns) (Q : SortKind → Shared → Prop)
    (h : ∀ κ, TS.Cmp prog w A s κ (pairsOf vs) r → Q κ s) : wpAny (model prog w) A (keyKind' vs.toArray) Q E s := by
  obtain ⟨fs, k, hl, hi⟩ := headsS hd vs x
  refine PySem.W.kat_kind (T := Value.type "int") k (by omega) (fun f hf => let ⟨n, t, e⟩ := hi f hf; e ▸ PySem.W.Looks.of_pure rfl) rfl (h _ fun p q hp hq Q' E' hQ => ?_)
  rw [pairsOf_toList] at hp hq
  obtain ⟨ns, tp, lp, bp⟩ := x _ (mem_zip_self hp).2
  obtain ⟨ms, tq, lq, bq⟩ := x _ (mem_zip_self hq).2
  rw [hr _ (mem_zip_self hp).2 _ tp, hr _ (mem_zip_self hq).2 _ tq] at hQ
  obtain ⟨a, xs, e1, ⟨o, ho, hc, n, hdt⟩, i⟩ := tp
  obtain ⟨a', ys, e2, ⟨o', ho', hc', n', hdt'⟩, i'⟩ := tq
  rw [e1, e2]
  refine PySem.W.kat_lt ho hdt ho' hdt' ?_
  have l1 := i.length
  have l2 := i'.length
  rw [Array.length_toList] at l1 l2
  rw [decide_eq_false (show ¬ xs.size < ys.size by omega)]
  exact lexS 0 i i' (by omega) bp bq hQ
end
section
variable {X : Cx}
def rSortDx (X : Cx) : List V → Hp → VK → Prop := fun vs H Q => ∃ (D : Addr) (xs : List Ent) (rows : List (List Int)) (d : Nat) (B S : Int), vs = [.ref D] ∧ H D = some (DX X.prog X.w D xs) ∧ Keyed X.K H xs ∧ xs.map (·.1) = rows.map (·.map Sum.inl) ∧ 1 ≤ d ∧ rows.length < 64 ∧
  (∀ r ∈ rows, r.length = d ∧ TS.Bd B (sh S r)) ∧ ∀ (out : List (Addr × List Int)) (p : Addr), (out.map (·.2)).Perm rows → out.Pairwise (fun a b => rkS B S a.2 ≤ rkS B S b.2) → (∀ x ∈ out, SqT X.K H x.1 (x.2.map V.int)) → H p = none → Q (.ref p) (upd H p (.lst (out.map fun x => V.ref x.1)))
theorem pair_rows : ∀ {xs : List Ent} {rows : List (List Int)}, xs.map (·.1) = rows.map (·.map Sum.inl) → ∃ L : List (Addr × List Int), L.map (·.1) = xs.map (·.2.1) ∧ L.map (·.2) = rows ∧ ∀ x ∈ L, ∃ v, (x.2.map Sum.inl, x.1, v) ∈ xs
  | [], [], _ => ⟨[], rfl, rfl, fun _ h => absurd h List.not_mem_nil⟩
  | [], _ :: _, e => by simp at e
  | _ :: _, [], e => by simp at e
  | x :: xs, r :: rows, e => by
    rw [List.map_cons, List.map_cons, List.cons.injEq] at e
    obtain ⟨L, h1, h2, h3⟩ := pair_rows e.2
    refine ⟨(x.2.1, r) :: L, by rw [List.map_cons, List.map_cons, h1], by rw [List.map_cons, h2], fun y hy => ?_⟩
    rcases List.mem_cons.mp hy with z | z
    · subst z
      exact ⟨x.2.2, by rw [← e.1]; exact List.mem_cons_self⟩
    · obtain ⟨v, q⟩ := h3 y z
      exact ⟨v, List.mem_cons_of_mem _ q⟩
theorem kv_ints (r : List Int) : (r.map (Sum.inl : Int → Key)).map kV = r.map V.int := by rw [List.map_map]; rfl
theorem refs_vals : ∀ as : List Addr, Vals (as.map V.ref) (as.map Value.ref)
  | [] => .nil
  | _ :: as => .cons rfl (refs_vals as)
/-- sorted(d) -/
theorem cr_sortDx (hc : X.calm = true) : CallR X (.builtin "sorted") (rSortDx X) := by
  intro pins s σ H vs us Q I r h
  obtain ⟨D, xs, rows, d, B, S, rfl, eD, ky, er, hd, h64, ok, q⟩ := h
  obtain ⟨u, rfl, ru⟩ := vals1 r
  obtain rfl := (show u = Value.ref D from ru)
  obtain ⟨L, l1, l2, l3⟩ := pair_rows er
  have lL : L.length = rows.length := by rw [← l2, List.length_map]
  have lx : xs.length = rows.length := by rw [← lL, ← List.length_map (f := (·.2.1)), ← l1, List.length_map]
  obtain ⟨lo, o, es, ep, ho, hx, hdt, he, _⟩ := dx_at I.hok eD
  have sz : es.size = rows.length := by rw [size_of_entries he, lx]
  have rowAt : ∀ x ∈ L, SqT X.K H x.1 (x.2.map V.int) := fun x hx => by
    obtain ⟨v, m⟩ := l3 x hx
    have := ky _ m
    rwa [kv_ints] at this
  refine Calls.call_function_entry PyProof.Rows.kind_sorted PyProof.Rows.plain_sorted PyProof.Rows.entry_sorted (PyProof.Rows.args_sorted1 _) ?_
  unfold Builtin.«sorted»
  refine wpAny_bind (m := checkCount "sorted" 1 1 _) (wpAny_pure (wpAny_bind (PySem.W.kdu_collect (A := X.A.in1) (kdl_raw lo hx hdt) (I.ok.hd hc) ho (by rw [sz, sizeLine_eq]; omega) fun h1 tk acc keep items => ?_)))
  have ea : acc.toList = (L.map (·.1)).map Value.ref := by
    refine List.ext_getElem? fun j => ?_
    have la : acc.toList.length = L.length := by rw [Array.length_toList, items.1, sz, lL]
    rw [l1, List.map_map, List.getElem?_map]
    cases e : acc.toList[j]? with
    | none => rw [List.getElem?_eq_none (by rw [lx, ← lL, ← la]; exact List.getElem?_eq_none_iff.mp e)]; rfl
    | some v =>
      obtain ⟨en, e1, rfl⟩ := items.2 j v (by rw [← Array.getElem?_toList]; exact e)
      have e2 := entry_at he j
      rw [e1] at e2
      cases e3 : xs[j]? with
      | none => rw [e3] at e2; cases e2
      | some x =>
        rw [e3] at e2
        cases e2
        rfl
  have I1 : Inv X pins σ H { s with heap := h1, toks := tk } := I.kept keep
  generalize hvs : acc.toList = vs at *
  have lv : vs.length = rows.length := by rw [ea, List.length_map, List.length_map, lL]
  refine wpAny_bind (wpAny_newList ?_ (by rw [lv, sizeLine_eq]; omega))
  have eL : (h1.push (seqObj "list" vs.toArray 0)).get? h1.objs.size = some (seqObj "list" vs.toArray 0) := Heap.get?_push_size _ rfl
  have tupAt : ∀ x ∈ L, TS.TupInts h1 (.ref x.1) x.2 := fun x hx => by
    obtain ⟨its, rv, tp, _⟩ := I1.tuple (rowAt x hx)
    exact ⟨x.1, its.toArray, rfl, tp, by simpa using rv.ints⟩
  have ofV : ∀ v ∈ vs, ∃ x ∈ L, v = .ref x.1 := fun v hv => by
    rw [ea, List.map_map] at hv
    obtain ⟨x, hx, e⟩ := List.mem_map.mp hv
    exact ⟨x, hx, e.symm⟩
  have good : RowsS h1 d B S vs := fun v hv => by
    obtain ⟨x, hx, rfl⟩ := ofV v hv
    exact ⟨x.2, tupAt x hx, ok x.2 (by rw [← l2]; exact List.mem_map.mpr ⟨x, hx, rfl⟩)⟩
  have kt : ∀ b u, h1.get? b = some u → u.cls = .type "tuple" → (TS.midHeap (h1.push (seqObj "list" vs.toArray 0)) h1.objs.size vs).get? b = some u := fun b u e _ => TS.midHeap_old (Nat.ne_of_lt (Heap.lt_size e)) (Heap.get?_push_of_some _ e)
  show wpAny _ _ _ _ _ { s with heap := h1.push (seqObj "list" vs.toArray 0), toks := tk }
  refine wpAny_bind (wpAny_holding (wpAny_call_entry PyProof.Rows.slot_list_sort ⟨_, eL, rfl⟩ PyProof.Rows.entry_list_sort (SK.plain_sort (r := fun v => rkS B S (TS.intsOf h1 v)) eL (by omega)
    (fun h2 Q' hQ => kindS (s := { s with heap := TS.midHeap (h1.push (seqObj "list" vs.toArray 0)) h1.objs.size vs, toks := tk }) hd h2 (good.keeps kt) _ (fun v hv ns t => ?_) Q' hQ) fun ps out o1 o2 o3 => ⟨_, rfl, ?_⟩) (PyProof.Rows.args_list_sort _)))
  · obtain ⟨ns0, t0, _⟩ := good v hv
    show rkS B S (TS.intsOf h1 v) = rkS B S ns
    rw [t0.ints, ← t.ints, (t0.keeps kt).ints]
  · obtain ⟨pm, pw⟩ := TS.out_rank (r := fun v => rkS B S (TS.intsOf h1 v)) o1 o2 o3
    rw [ea, List.map_map] at pm
    obtain ⟨L', pL, eL'⟩ := perm_lift _ pm L rfl
    have inL : ∀ x ∈ L', x ∈ L := fun x hx => pL.mem_iff.mp hx
    have rvO : Vals (L'.map fun x => V.ref x.1) out.toList := by
      rw [← eL', show (L'.map fun x => V.ref x.1) = (L'.map (·.1)).map V.ref by rw [List.map_map]; rfl, show L'.map (Value.ref ∘ fun x => x.1) = (L'.map (·.1)).map Value.ref by rw [List.map_map]]
      exact refs_vals _
    have pw2 : L'.Pairwise fun a b => rkS B S a.2 ≤ rkS B S b.2 := by
      rw [← eL', List.pairwise_map] at pw
      refine List.Pairwise.imp_of_mem (fun {x y} hx hy z => ?_) pw
      have z : rkS B S (TS.intsOf h1 (.ref x.1)) ≤ rkS B S (TS.intsOf h1 (.ref y.1)) := z
      rwa [(tupAt x (inL x hx)).ints, (tupAt y (inL y hy)).ints] at z
    obtain ⟨e', he'⟩ := PyProof.Rows.sortedHeap_at (vs := vs) (out := out) eL
    have len : (L'.map fun x => V.ref x.1).length ≤ sizeLine := by
      rw [List.length_map, pL.length_eq, lL, sizeLine_eq]
      omega
    refine wpAny_pure ⟨_, rfl, .ref h1.objs.size, upd H h1.objs.size (.lst (L'.map fun x => V.ref x.1)), I1.laid (t' := tk) (fun b u e => ?_) (Nat.le_refl _) (show ObjOk X.prog X.w _ _ _ (.lst _) from ⟨len, out.toList, e', rvO, by rw [Array.toArray_toList]; exact he'⟩), rfl,
      q L' _ (by rw [← l2]; exact pL.map _) pw2 (fun x hx => rowAt x (inL x hx)) (I1.hok.fresh (Nat.le_refl _))⟩
    have lt : b < h1.objs.size := Heap.lt_size e
    rw [PyProof.Rows.sortedHeap_old (Nat.ne_of_lt lt) (by rw [PyProof.Rows.size_push']; exact Nat.lt_succ_of_lt lt)]
    exact Heap.get?_push_of_some _ e
end
end Rx
/-! Sm11: sorted({row: .. for ..}), the rows tuples of ints -/
namespace Sm
open PySem PySem.Spec PyProof.Rows L2
/-! ### rows -/
noncomputable def lenI {α : Type} (l : List α) : Nat := List.rec (motive := fun _ => Nat) 0 (fun _ _ ih => Nat.succ ih) l
theorem lenI_eq {α : Type} : ∀ l : List α, lenI l = l.length
  | [] => rfl
  | _ :: l => congrArg Nat.succ (lenI_eq l)
noncomputable def allR {α : Type} (p : α → Bool) (l : List α) : Bool := List.rec (motive := fun _ => Bool) true (fun a _ ih => match p a with | true => ih | false => false) l
theorem allR_eq {α : Type} {p : α → Bool} : ∀ {l : List α}, allR p l = true → ∀ x ∈ l, p x = true
  | [], _, x, h => absurd h List.not_mem_nil
  | a :: l, e, x, h => by
    have e : (match p a with | true => allR p l | false => false) = true := e
    cases e1 : p a with
    | false => rw [e1] at e; cases e
    | true =>
      rw [e1] at e
      rcases List.mem_cons.mp h with z | z
      · rw [z]; exact e1
      · exact allR_eq e x z
noncomputable def eqR (a : List Int) : List Int → Bool := List.rec (motive := fun _ => List Int → Bool) (fun b => List.rec (motive := fun _ => Bool) true (fun _ _ _ => false) b) (fun x _ ih b => List.rec (motive := fun _ => Bool) false (fun y ys _ => match ieq x y with | true => ih ys | false => false) b) a
theorem eqR_cons (x y : Int) (xs ys : List Int) : eqR (x :: xs) (y :: ys) = match ieq x y with | true => eqR xs ys | false => false := rfl
theorem eqR_eq : ∀ a b : List Int, eqR a b = true ↔ a = b
  | [], [] => ⟨fun _ => rfl, fun _ => rfl⟩
  | [], _ :: _ => ⟨fun h => (by cases h), fun h => (by cases h)⟩
  | _ :: _, [] => ⟨fun h => (by cases h), fun h => (by cases h)⟩
  | x :: xs, y :: ys => by
    rw [eqR_cons]
    cases e : ieq x y with
    | false =>
      rw [ieq_eq] at e
      exact ⟨fun h => (by cases h), fun h => absurd (List.cons.inj h).1 (of_decide_eq_false e)⟩
    | true =>
      rw [ieq_eq] at e
      have := of_decide_eq_true e
      subst this
      exact ⟨fun h => by rw [(eqR_eq xs ys).mp h], fun h => (eqR_eq xs ys).mpr (List.cons.inj h).2⟩
noncomputable def hasR (r : List Int) (ks : List (List Int)) : Bool := List.rec (motive := fun _ => Bool) false (fun k _ ih => match eqR r k with | true => true | false => ih) ks
theorem hasR_eq (r : List Int) : ∀ ks, hasR r ks = true ↔ r ∈ ks
  | [] => ⟨fun h => (by cases h), fun h => absurd h List.not_mem_nil⟩
  | k :: ks => by
    show (match eqR r k with | true => true | false => hasR r ks) = true ↔ _
    cases e : eqR r k with
    | true => exact ⟨fun _ => by rw [(eqR_eq r k).mp e]; exact List.mem_cons_self, fun _ => rfl⟩
    | false =>
      have ne : r ≠ k := fun z => by rw [(eqR_eq r k).mpr z] at e; cases e
      refine (hasR_eq r ks).trans ⟨fun h => List.mem_cons_of_mem _ h, fun h => ?_⟩
      rcases List.mem_cons.mp h with z | z
      · exact absurd z ne
      · exact z
noncomputable def addR (r : List Int) (ks : List (List Int)) : List (List Int) := match hasR r ks with
  | true => ks
  | false => ks ++ [r]
theorem stored_keys {xs : List Rx.Ent} {ks : List (List Int)} {r : List Int} {b : Addr} {v : Value} (e : xs.map (·.1) = ks.map (·.map Sum.inl)) : (storedH xs (r.map Sum.inl) b v).map (·.1) = (addR r ks).map (·.map Sum.inl) := by
  have at_ : (atKey xs (r.map (Sum.inl : Int → Key))).isSome = hasR r ks := by
    rw [Bool.eq_iff_iff, hasR_eq]
    have m : r ∈ ks ↔ r.map (Sum.inl : Int → Key) ∈ xs.map (·.1) := by
      rw [e]
      refine ⟨fun h => List.mem_map.mpr ⟨r, h, rfl⟩, fun h => ?_⟩
      obtain ⟨k, hk, z⟩ := List.mem_map.mp h
      rw [← (List.map_inj_right fun _ _ => Sum.inl.inj).mp z]
      exact hk
    rw [m]
    unfold atKey
    rw [Option.isSome_map, List.find?_isSome]
    refine ⟨fun ⟨x, hx, z⟩ => List.mem_map.mpr ⟨x, hx, of_decide_eq_true z⟩, fun h => ?_⟩
    obtain ⟨x, hx, z⟩ := List.mem_map.mp h
    exact ⟨x, hx, decide_eq_true z⟩
  unfold storedH addR
  rw [at_]
  cases hasR r ks with
  | false =>
    rw [if_neg (by decide), List.map_append, List.map_append, e]
    rfl
  | true =>
    rw [if_pos rfl, ← e, List.map_map]
    refine List.map_congr_left fun x _ => ?_
    show (putAt _ v x).1 = x.1
    unfold putAt
    split <;> rfl
theorem stored_keyed {K : PySem.W.Frag} {H : Hp} {xs : List Rx.Ent} {k : List Key} {b : Addr} {v : Value} (h : Rx.Keyed K H xs) (hb : SqT K H b (k.map kV)) : Rx.Keyed K H (storedH xs k b v) := by
  unfold storedH
  split
  · intro x hx
    obtain ⟨y, hy, e⟩ := List.mem_map.mp hx
    have := h y hy
    subst e
    unfold putAt
    split <;> exact this
  · intro x hx
    rcases List.mem_append.mp hx with z | z
    · exact h x z
    · rw [List.mem_singleton.mp z]; exact hb
/-- ranks -/
abbrev bgS : Int := 2 ^ 62
noncomputable def rkI (r : List Int) : Int := Rx.rkS (2 * bgS) bgS r
noncomputable def insR (r : List Int) (ks : List (List Int)) : List (List Int) := List.rec (motive := fun _ => List (List Int)) [r] (fun k tl ih => match ilt (rkI r) (rkI k) with | true => r :: k :: tl | false => k :: ih) ks
theorem insR_perm (r : List Int) : ∀ ks, (insR r ks).Perm (r :: ks)
  | [] => .refl _
  | k :: ks => by
    show (match ilt (rkI r) (rkI k) with | true => r :: k :: ks | false => k :: insR r ks).Perm _
    cases ilt (rkI r) (rkI k) with
    | true => exact .refl _
    | false => exact ((insR_perm r ks).cons k).trans (.swap r k ks)
noncomputable def sortR (ks : List (List Int)) : List (List Int) := List.rec (motive := fun _ => List (List Int)) [] (fun k _ ih => insR k ih) ks
theorem sortR_perm : ∀ ks, (sortR ks).Perm ks
  | [] => .refl _
  | k :: ks => (insR_perm k (sortR ks)).trans ((sortR_perm ks).cons k)
noncomputable def ascR (ks : List (List Int)) : Bool := List.rec (motive := fun _ => Bool) true (fun k tl ih => match allR (fun x => ilt (rkI k) (rkI x)) tl with | true => ih | false => false) ks
theorem ascR_eq : ∀ {ks : List (List Int)}, ascR ks = true → ks.Pairwise fun a b => rkI a < rkI b
  | [], _ => .nil
  | k :: ks, e => by
    have e : (match allR (fun x => ilt (rkI k) (rkI x)) ks with | true => ascR ks | false => false) = true := e
    cases e1 : allR (fun x => ilt (rkI k) (rkI x)) ks with
    | false => rw [e1] at e; cases e
    | true =>
      rw [e1] at e
      refine .cons (fun x hx => ?_) (ascR_eq e)
      have := allR_eq e1 x hx
      rw [ilt_eq] at this
      exact of_decide_eq_true this
theorem asc_unique {α : Type} {f : α → List Int} : ∀ {ys : List (List Int)} {xs : List α}, (xs.map f).Perm ys → xs.Pairwise (fun a b => rkI (f a) ≤ rkI (f b)) → ys.Pairwise (fun a b => rkI a < rkI b) → xs.map f = ys
  | [], xs, p, _, _ => List.perm_nil.mp p
  | y :: ys, [], p, _, _ => absurd p.length_eq (by simp)
  | y :: ys, x :: xs, p, h1, h2 => by
    obtain ⟨a1, a2⟩ := List.pairwise_cons.mp h1
    obtain ⟨b1, b2⟩ := List.pairwise_cons.mp h2
    rw [List.map_cons] at p
    have e : f x = y := by
      rcases List.mem_cons.mp (p.mem_iff.mp List.mem_cons_self) with z | z
      · exact z
      · rcases List.mem_cons.mp (p.mem_iff.mpr List.mem_cons_self) with t | t
        · exact t.symm
        · obtain ⟨u, hu, eu⟩ := List.mem_map.mp t
          have c1 := a1 u hu
          have c2 := b1 _ z
          rw [eu] at c1
          exact absurd (Int.lt_of_lt_of_le c2 c1) (Int.lt_irrefl _)
    subst e
    rw [List.map_cons, asc_unique (List.perm_cons _ |>.mp p) a2 b2]
noncomputable def fitR (d : Nat) (r : List Int) : Bool := match Nat.beq (lenI r) d with
  | true => allR (fun x => match ile (-bgS) x with | true => ilt x bgS | false => false) r
  | false => false
theorem fitR_eq {d : Nat} {r : List Int} (h : fitR d r = true) : r.length = d ∧ TS.Bd (2 * bgS) (Rx.sh bgS r) := by
  unfold fitR at h
  cases e : Nat.beq (lenI r) d with
  | false => rw [e] at h; cases h
  | true =>
    rw [e] at h
    refine ⟨by rw [← lenI_eq]; exact Nat.eq_of_beq_eq_true e, fun m hm => ?_⟩
    obtain ⟨x, hx, rfl⟩ := List.mem_map.mp hm
    have h := allR_eq h x hx
    cases e2 : ile (-bgS) x with
    | false => rw [e2] at h; cases h
    | true =>
      rw [e2] at h
      have h : ilt x bgS = true := h
      rw [ile_eq] at e2
      rw [ilt_eq] at h
      have h1 := of_decide_eq_true e2
      have h2 := of_decide_eq_true h
      constructor <;> omega
end Sm
/-! Sm12: sorted({row: .. for ..}): soundness of its run -/
namespace Sm
open PySem PySem.Spec PyProof.Rows L2
noncomputable def loopD (s : Src) (g : EvG) (t : EvB) (e : Ev) (ω : Sl) (n : Nat) : Nat → Ch → List (List Int) → R (List (List Int)) := Nat.rec (motive := fun _ => Nat → Ch → List (List Int) → R (List (List Int))) (fun _ _ _ => .no) (fun _ ih i c ks => match stepS s i c with
    | .stop => .ok ks c
    | .no => .no
    | .item w => match g w ω c with
      | .no => .no
      | .ok ω1 c1 => match t ω1 c1 with
        | .no => .no
        | .ok false c2 => ih (i + 1) c2 ks
        | .ok true c2 => match e ω1 c2 with
          | .ok (.tup ws) c3 => match intsW ws with
            | some r => match Nat.blt (lenI ks) 1000 with
              | true => ih (i + 1) c3 (addR r ks)
              | false => .no
            | none => .no
          | _ => .no) n
noncomputable def endD (ks : List (List Int)) (c : Ch) : R W := match ks with
  | [] => .no
  | k :: _ => match Nat.ble 1 (lenI k) with
    | false => .no
    | true => match Nat.blt (lenI ks) 64 with
      | false => .no
      | true => match allR (fitR (lenI k)) ks with
        | false => .no
        | true => match ascR (sortR ks) with
          | false => .no
          | true => .ok (.ref c.length) (c.push ((sortR ks).map fun r => .tup (r.map .int)))
noncomputable def eSdc (fuel : Nat) (vs : List Nat) (it : EvI) (g : EvG) (t : EvB) (e : Ev) : Ev := fun ω c => (it ω c).bind fun s c1 => (loopD s g t e (wipeW ω vs) fuel 0 c1 []).bind endD
theorem ext_keep {H : Hp} {D : Addr} {φ : Heap → Prop} {o : HO} (hD : H D = some (.ext φ)) : ∀ {a : Addr} {u : HO}, H a = some u → (∀ ψ, u ≠ .ext ψ) → upd H D o a = some u := fun {a u} e n => by
  rw [upd_ne fun z => ?_]
  · exact e
  · rw [z, hD] at e
    cases e
    exact n _ rfl
section
variable {K : PySem.W.Frag} {ρ : List Addr} {H : Hp} {c : Ch} {D : Addr} {φ : Heap → Prop} {o : HO}
theorem ext_sqT (hD : H D = some (.ext φ)) {a : Addr} {vs : List V} (h : SqT K H a vs) : SqT K (upd H D o) a vs := by
  rcases h with (h | ⟨o, h⟩) | h
  · exact .inl (.inl (ext_keep hD h nofun))
  · exact .inl (.inr ⟨o, ext_keep hD h nofun⟩)
  · exact .inr h
mutual
theorem ext_rp (hD : H D = some (.ext φ)) : ∀ {w : W} {v : V}, Rp K ρ H w v → Rp K ρ (upd H D o) w v
  | _, _, .non => .non
  | _, _, .bl b => .bl b
  | _, _, .int i => .int i
  | _, _, .str x => .str x
  | _, _, .tup s l => .tup (ext_sqT hD s) (ext_rpL hD l)
  | _, _, .ref h => .ref h
  | _, _, .emp h => .emp (ext_keep hD h nofun)
  | _, _, .mt h n => .mt (ext_keep hD h nofun) n
  | _, _, .frz (.inl h) => .frz (.inl ⟨ext_keep hD h.1 nofun, h.2⟩)
  | _, _, .frz (.inr (.inl ⟨o, h⟩)) => .frz (.inr (.inl ⟨o, ext_keep hD h nofun⟩))
  | _, _, .frz (.inr (.inr h)) => .frz (.inr (.inr h))
  | _, _, .lv h n l => .lv (ext_keep hD h nofun) n (ext_rpL hD l)
  | _, _, .obj h hl l => .obj (ext_keep hD h nofun) hl (ext_rpL hD l)
  | _, _, .any => .any
theorem ext_rpL (hD : H D = some (.ext φ)) : ∀ {ws : List W} {vs : List V}, RpL K ρ H ws vs → RpL K ρ (upd H D o) ws vs
  | _, _, .nil => .nil
  | _, _, .cons r t => .cons (ext_rp hD r) (ext_rpL hD t)
end
theorem ext_relH (hD : H D = some (.ext φ)) (hr : RelH K ρ H c) : RelH K ρ (upd H D o) c := ⟨hr.len, hr.nd, fun a ha => by
    obtain ⟨vs, e⟩ := hr.mem a ha
    exact ⟨vs, ext_keep hD e nofun⟩, fun n ws e => by
    obtain ⟨a, vs, e1, e2, e3⟩ := hr.at_ n ws e
    exact ⟨a, vs, e1, ext_keep hD e2 nofun, ext_rpL hD e3⟩⟩
/-- a dict's place, new since H1 -/
theorem post_ext {ρ1 ρ2 : List Addr} {H1 H2 : Hp} {D : Addr} {o : HO} (p : Post ρ1 H1 ρ2 H2) (hD : H1 D = none) : Post ρ1 H1 ρ2 (upd H2 D o) := ⟨p.more, fun a u e n => by rw [upd_ne (ne_of_none e hD)]; exact p.keep a u e n, fun a e => by
    by_cases z : a = D
    · rw [z, upd_same] at e; cases e
    · rw [upd_ne z] at e; exact p.dom a e⟩
theorem rows_rp {K : PySem.W.Frag} {ρ : List Addr} {H : Hp} : ∀ (out : List (Addr × List Int)), (∀ x ∈ out, SqT K H x.1 (x.2.map V.int)) → RpL K ρ H ((out.map (·.2)).map fun r => .tup (r.map .int)) (out.map fun x => V.ref x.1)
  | [], _ => .nil
  | x :: out, h => .cons (.tup (h x List.mem_cons_self) (intL x.2)) (rows_rp out fun y hy => h y (List.mem_cons_of_mem _ hy))
where
  intL {K : PySem.W.Frag} {ρ : List Addr} {H : Hp} : ∀ r : List Int, RpL K ρ H (r.map W.int) (r.map V.int)
    | [] => .nil
    | i :: r => .cons (.int i) (intL r)
theorem rp_ints {K : PySem.W.Frag} {ρ : List Addr} {H : Hp} : ∀ {r : List Int} {vs : List V}, RpL K ρ H (r.map W.int) vs → vs = r.map V.int
  | [], _, .nil => rfl
  | i :: r, _, .cons (.int _) t => by rw [rp_ints t]; rfl
noncomputable def relRows : Rel (List (List Int)) (List (List Int)) := fun _ _ a b => a = b
/-- what stands at D between the turns -/
def AtD (X : Cx) (D : Addr) (ks : List (List Int)) (H : Hp) : Prop := ∃ xs, H D = some (Rx.DX X.prog X.w D xs) ∧ Rx.Keyed X.K H xs ∧ xs.map (·.1) = ks.map (·.map Sum.inl)
theorem AtD.post {X : Cx} {D : Addr} {ks : List (List Int)} {ρ ρ' : List Addr} {H H' : Hp} {c : Ch} (h : AtD X D ks H) (hr : RelH X.K ρ H c) (p : Post ρ H ρ' H') : AtD X D ks H' := by
  obtain ⟨xs, e, k, m⟩ := h
  refine ⟨xs, p.keep _ _ e fun z => ?_, fun x hx => hr.sqT p (k x hx), m⟩
  obtain ⟨vs, e2⟩ := hr.mem _ z
  rw [e] at e2
  cases e2
theorem end_rows {X : Cx} {D : Addr} {ks : List (List Int)} {ρ : List Addr} {H : Hp} {c : Ch} {Q : VK} (hr : RelH X.K ρ H c) (h : AtD X D ks H) (g : Got X.K (Rp X.K) (endD ks c) ρ H Q) : Rx.rSortDx X [.ref D] H Q := by
  obtain ⟨xs, e, ky, m⟩ := h
  cases ks with
  | nil => exact g.elim
  | cons k tl =>
    have g : Got X.K (Rp X.K) (match Nat.ble 1 (lenI k) with
      | false => .no
      | true => match Nat.blt (lenI (k :: tl)) 64 with
        | false => .no
        | true => match allR (fitR (lenI k)) (k :: tl) with
          | false => .no
          | true => match ascR (sortR (k :: tl)) with
            | false => .no
            | true => .ok (.ref c.length) (c.push ((sortR (k :: tl)).map fun r => .tup (r.map .int)))) ρ H Q := g
    cases e1 : Nat.ble 1 (lenI k) with
    | false => rw [e1] at g; exact g.elim
    | true =>
      cases e2 : Nat.blt (lenI (k :: tl)) 64 with
      | false => simp only [e1, e2] at g; exact g.elim
      | true =>
        cases e3 : allR (fitR (lenI k)) (k :: tl) with
        | false => simp only [e1, e2, e3] at g; exact g.elim
        | true =>
          cases e4 : ascR (sortR (k :: tl)) with
          | false => simp only [e1, e2, e3, e4] at g; exact g.elim
          | true =>
            simp only [e1, e2, e3, e4] at g
            refine ⟨D, xs, k :: tl, lenI k, 2 * bgS, bgS, rfl, e, ky, m, Nat.le_of_ble_eq_true e1, by rw [Nat.blt_eq, lenI_eq] at e2; exact e2, fun r hr => fitR_eq (allR_eq e3 r hr), fun out p pm pw sq hp => ?_⟩
            have eo : out.map (·.2) = sortR (k :: tl) := asc_unique (pm.trans (sortR_perm _).symm) pw (ascR_eq e4)
            have rr : RpL X.K ρ H ((sortR (k :: tl)).map fun r => .tup (r.map .int)) (out.map fun x => V.ref x.1) := by
              rw [← eo]
              exact rows_rp out sq
            exact g (.ref p) _ (ρ ++ [p]) (post_new hp) (hr.new hp rr) (.ref (by rw [← hr.len, List.getElem?_append_right (Nat.le_refl _)]; simp))
end
theorem tV_sdc {X : Cx} {fuel : Nat} {vs : List Nat} {it : EvI} {gt : TG} {g : EvG} {t : EvB} {e : Ev} {tv : TE} (hg : Gc X.K vs gt g) (htv : ∀ σ H (Q : VK), (∀ v, Q v H) → tv σ H Q) {σ : L2.St} {H : Hp} {Q : VK} (h : tV X.K (eSdc fuel vs it g t e) σ H Q) :
    Rx.tDx X (tJ X.K it) gt (tW X.K t) (tV X.K e) tv vs σ H fun x H1 => Rx.rSortDx X [x] H1 Q := by
  obtain ⟨ρ, ω, c, hr, hs, q⟩ := h
  obtain ⟨s, c1, e1, q⟩ := Got.bind q
  refine tG_in hr hs e1 fun J H1 ρ1 p1 hr1 hs1 sj => fun D hD => ?_
  have q1 := q.after p1
  refine ⟨fun i m H' => ∃ ρ' c' ks, Post ρ1 H1 ρ' H' ∧ RelH X.K ρ' H' c' ∧ AtD X D ks H' ∧ Got X.K (Rp X.K) ((loopD s g t e (wipeW ω vs) m i c' ks).bind endD) ρ1 H1 Q,
    ⟨fuel, ρ1, c1, [], ⟨⟨[], by simp, by simp⟩, fun a u e n => by rw [upd_ne (ne_of_none e hD)]; exact e, fun a e => by
      by_cases z : a = D
      · rw [z, upd_same] at e; cases e
      · rw [upd_ne z] at e; exact e⟩, hr1.out hD, ⟨[], upd_same, fun _ h => absurd h List.not_mem_nil, rfl⟩, q1⟩, ?_⟩
  clear q q1
  rintro i m H' ⟨ρ', c', ks, po, hr', at', q'⟩
  cases m with
  | zero => exact q'.elim
  | succ n =>
    have sj' := sj.mono hr1 po
    have st := src_step hr' sj' i
    cases e2 : stepS s i c' with
    | no =>
      have z : loopD s g t e (wipeW ω vs) (n + 1) i c' ks = .no := by
        show (match stepS s i c' with | .stop => _ | .no => _ | .item w => _) = _
        rw [e2]
      rw [z] at q'
      exact q'.elim
    | stop =>
      have z : loopD s g t e (wipeW ω vs) (n + 1) i c' ks = .ok ks c' := by
        show (match stepS s i c' with | .stop => _ | .no => _ | .item w => _) = _
        rw [e2]
      rw [e2] at st
      rw [z] at q'
      have q' : Got X.K (Rp X.K) (endD ks c') ρ1 H1 Q := q'
      exact .inl ⟨st, end_rows hr' at' (q'.after po)⟩
    | item w =>
      rw [e2] at st
      obtain ⟨go, st⟩ := st
      have z : loopD s g t e (wipeW ω vs) (n + 1) i c' ks = (match g w (wipeW ω vs) c' with
        | .no => .no
        | .ok ω1 c1 => match t ω1 c1 with
          | .no => .no
          | .ok false c2 => loopD s g t e (wipeW ω vs) n (i + 1) c2 ks
          | .ok true c2 => match e ω1 c2 with
            | .ok (.tup ws) c3 => match intsW ws with
              | some r => match Nat.blt (lenI ks) 1000 with
                | true => loopD s g t e (wipeW ω vs) n (i + 1) c3 (addR r ks)
                | false => .no
              | none => .no
            | _ => .no) := by
        show (match stepS s i c' with | .stop => _ | .no => _ | .item w => _) = _
        rw [e2]
        rfl
      rw [z] at q'
      clear z
      refine .inr ⟨go, fun H2 => ∃ ρ2 c2 ks2, Post ρ1 H1 ρ2 H2 ∧ RelH X.K ρ2 H2 c2 ∧ AtD X D ks2 H2 ∧ Got X.K (Rp X.K) ((loopD s g t e (wipeW ω vs) n (i + 1) c2 ks2).bind endD) ρ1 H1 Q, fun H2 z => ⟨n, Nat.lt_succ_self n, z⟩, fun x H2 y => ?_⟩
      obtain ⟨p2, hr2, rx⟩ := st x H2 y
      have po2 := po.trans p2
      refine hg ρ' H2 c' w x (wipeW ω vs) (wipe σ vs) _ hr2 rx ((wipe_rel hs1 vs).mono hr1 po2) ?_
      cases e3 : g w (wipeW ω vs) c' with
      | no => rw [e3] at q'; exact q'.elim
      | ok ω3 c3 =>
        rw [e3] at q'
        intro σ3 H3 ρ3 p3 hr3 ⟨hs3, hw3⟩
        have po3 := po2.trans p3
        have at3 := (at'.post hr' p2).post hr2 p3
        refine ⟨hw3.trans (tV_lc.wipe_wipe σ vs), ?_⟩
        have q' : Got X.K (Rp X.K) ((match t ω3 c3 with
          | .no => .no
          | .ok false c2 => loopD s g t e (wipeW ω vs) n (i + 1) c2 ks
          | .ok true c2 => match e ω3 c2 with
            | .ok (.tup ws) c3 => match intsW ws with
              | some r => match Nat.blt (lenI ks) 1000 with
                | true => loopD s g t e (wipeW ω vs) n (i + 1) c3 (addR r ks)
                | false => .no
              | none => .no
            | _ => .no : R (List (List Int))).bind endD) ρ1 H1 Q := q'
        cases e4 : t ω3 c3 with
        | no => rw [e4] at q'; exact q'.elim
        | ok b c4 =>
          rw [e4] at q'
          refine tG_in hr3 hs3 e4 fun b' H4 ρ4 p4 hr4 hs4 rb => ?_
          obtain rfl := (show b = b' from rb)
          have po4 := po3.trans p4
          have at4 := at3.post hr3 p4
          cases b with
          | false => exact ⟨ρ4, c4, ks, po4, hr4, at4, q'⟩
          | true =>
            rw [if_pos rfl]
            have q' : Got X.K (Rp X.K) ((match e ω3 c4 with
              | .ok (.tup ws) c3 => match intsW ws with
                | some r => match Nat.blt (lenI ks) 1000 with
                  | true => loopD s g t e (wipeW ω vs) n (i + 1) c3 (addR r ks)
                  | false => .no
                | none => .no
              | _ => .no : R (List (List Int))).bind endD) ρ1 H1 Q := q'
            cases e5 : e ω3 c4 with
            | no => rw [e5] at q'; exact q'.elim
            | ok yw c5 =>
              rw [e5] at q'
              refine tG_in hr4 hs4 e5 fun yv H5 ρ5 p5 hr5 hs5 ry => ?_
              cases ry with
              | @tup ws us a sq l =>
                have q' : Got X.K (Rp X.K) ((match intsW ws with
                  | some r => match Nat.blt (lenI ks) 1000 with
                    | true => loopD s g t e (wipeW ω vs) n (i + 1) c5 (addR r ks)
                    | false => .no
                  | none => .no : R (List (List Int))).bind endD) ρ1 H1 Q := q'
                cases e6 : intsW ws with
                | none => rw [e6] at q'; exact q'.elim
                | some r =>
                  rw [e6] at q'
                  have q' : Got X.K (Rp X.K) ((match Nat.blt (lenI ks) 1000 with
                    | true => loopD s g t e (wipeW ω vs) n (i + 1) c5 (addR r ks)
                    | false => .no : R (List (List Int))).bind endD) ρ1 H1 Q := q'
                  cases e7 : Nat.blt (lenI ks) 1000 with
                  | false => rw [e7] at q'; exact q'.elim
                  | true =>
                    rw [e7] at q'
                    rw [intsW_eq e6] at l
                    obtain rfl := rp_ints l
                    obtain ⟨xs, eD, ky, m⟩ := at4.post hr4 p5
                    have kk : ((r.map (Sum.inl : Int → Key)).map kV) = r.map V.int := Rx.kv_ints r
                    have lx : xs.length < sizeLine := by
                      have a1 := congrArg List.length m
                      rw [List.length_map, List.length_map] at a1
                      rw [Nat.blt_eq, lenI_eq] at e7
                      rw [a1, sizeLine_eq]
                      omega
                    refine htv _ _ _ fun _ => ⟨xs, r.map Sum.inl, a, rfl, eD, ky, by rw [kk]; exact sq, lx, fun v => ⟨ρ5, c5, addR r ks, post_ext (po4.trans p5) hD, ext_relH eD hr5, ⟨_, upd_same, fun x hx => ?_, stored_keys m⟩, q'⟩⟩
                    exact ext_sqT eD (stored_keyed ky (by rw [kk]; exact sq) x hx)
              | _ => exact q'.elim
/-- sorted({key: value for target in iter if ..}) -/
theorem q_sdc {X : Cx} {p cpos : Pos} {kx vx tg iter : Expr} {ifs : List Expr} {scope : Scope} {pos : Pos} {it : EvI} {gt : TG} {g : EvG} {t : EvB} {e : Ev} {v : V} (fuel : Nat) (own : List (Str × Nat)) (hu : X.A.units < cLine) (hc : X.calm = true) (hN : X.N.Nodup) (hm : X.mg "sorted" = none) (hi : PI X tg iter (tJ X.K it)) (ok : BlkOk X.N X.env.scope scope own) (hgc : Gc X.K (own.map (·.2)) gt g)
    (hg : ∀ (s : Shared) (H : Hp) (C : Addr) (cl : List (Str × Addr)) (fp : List Addr), PG (X.blk s H scope (compEnvC scope cl C X.env) fp) tg gt)
    (ht : ∀ (s : Shared) (H : Hp) (C : Addr) (cl : List (Str × Addr)) (fp : List Addr), PTs (X.blk s H scope (compEnvC scope cl C X.env) fp) ifs (tW X.K t))
    (he : ∀ (s : Shared) (H : Hp) (C : Addr) (cl : List (Str × Addr)) (fp : List Addr), PE (X.blk s H scope (compEnvC scope cl C X.env) fp) kx (tV X.K e))
    (hv : ∀ (s : Shared) (H : Hp) (C : Addr) (cl : List (Str × Addr)) (fp : List Addr), PE (X.blk s H scope (compEnvC scope cl C X.env) fp) vx (tC v)) (hg2 : Gl X "sorted" := by rfl) (hs : ∀ x, foldedSetIterable iter X.env x = pure x := by intro _; rfl)
    (hst : starEach [.DictComp kx vx [⟨tg, iter, ifs, 0⟩] scope pos] X.env = (false, eval (.DictComp kx vx [⟨tg, iter, ifs, 0⟩] scope pos) X.env) :: starEach [] X.env := by rfl) (hpl : (backTo cpos (starEach [] X.env)).any (·.1) = false := by rfl) :
    PE X (.Call (.Name "sorted" p) [.DictComp kx vx [⟨tg, iter, ifs, 0⟩] scope pos] [] cpos) (tV X.K (eSdc fuel (own.map (·.2)) it g t e)) :=
  pe_imp (pe_callB (Rx.cr_sortDx hc) hg2 hm (by decide +kernel) (pa_cons (Rx.pe_dx hu hc hN hi ok hg ht he hv hs) pa_nil) (by decide) (by decide) hst hpl) fun σ H Q h => tV_sdc hgc (fun σ H Q h => h v) h
end Sm
/-! Sm13: x in a list or a tuple of any depth; sum of a list of ints -/
namespace Sm
open PySem PySem.Spec PyProof.Rows L2
def rInT (K : PySem.W.Frag) : R2 := fun x y H Q => ∃ d ds, Dp K H x d ∧ Dp K H y (.tuple ds) ∧ SeqAt.shaped d = true ∧ SeqAt.shaped (.tuple ds) = true ∧ Q (.bl (ds.any fun z => PyData.eqv z d)) H
theorem op_inT {X : Cx} (hu : X.A.units + 65 < cLine) : OpR X (compareOp .In) (rInT X.K) := by
  intro pins s σ H x y v u Q I rx ry ⟨d, ds, hd, he, sd, se, q⟩
  obtain ⟨as, ra⟩ := Dp.reads I d x v hd rx
  obtain ⟨bs, rb⟩ := Dp.reads I (.tuple ds) y u he ry
  exact SeqAt.in_tuple_reads rb ra (SeqAt.canLay_of_shaped se) (SeqAt.canLay_of_shaped sd) (room_in_shaped sd hu) ⟨.bl _, H, I, rfl, q⟩
noncomputable def fIn : F2 := fun x y c => match dat 20 c x, dat 20 c y with
  | some d, some (.list ds) => match SeqAt.shaped d && SeqAt.shaped (.list ds) with
    | true => .ok (.bl (ds.any fun z => PyData.eqv z d)) c
    | false => .no
  | some d, some (.tuple ds) => match SeqAt.shaped d && SeqAt.shaped (.tuple ds) with
    | true => .ok (.bl (ds.any fun z => PyData.eqv z d)) c
    | false => .no
  | _, _ => .no
theorem ok_in {K : PySem.W.Frag} : Ok2 K (rOr (rInD K) (rInT K)) fIn := by
  intro ρ H c x y v u Q hr rx ry h
  unfold fIn at h
  cases e1 : dat 20 c x with
  | none => rw [e1] at h; exact h.elim
  | some d =>
    cases e2 : dat 20 c y with
    | none => rw [e1, e2] at h; exact h.elim
    | some e =>
      rw [e1, e2] at h
      cases e with
      | list ds =>
        have h : Got K (Rp K) (match SeqAt.shaped d && SeqAt.shaped (.list ds) with | true => R.ok (.bl (ds.any fun z => PyData.eqv z d)) c | false => .no) ρ H Q := h
        cases e3 : SeqAt.shaped d && SeqAt.shaped (.list ds) with
        | false => rw [e3] at h; exact h.elim
        | true =>
          rw [e3] at h
          obtain ⟨h1, h2⟩ := Bool.and_eq_true_iff.mp e3
          exact .inl ⟨d, ds, dat_dp hr 20 x d v e1 rx, dat_dp hr 20 y _ u e2 ry, h1, h2, h _ H ρ Post.refl hr (.bl _)⟩
      | tuple ds =>
        have h : Got K (Rp K) (match SeqAt.shaped d && SeqAt.shaped (.tuple ds) with | true => R.ok (.bl (ds.any fun z => PyData.eqv z d)) c | false => .no) ρ H Q := h
        cases e3 : SeqAt.shaped d && SeqAt.shaped (.tuple ds) with
        | false => rw [e3] at h; exact h.elim
        | true =>
          rw [e3] at h
          obtain ⟨h1, h2⟩ := Bool.and_eq_true_iff.mp e3
          exact .inr ⟨d, ds, dat_dp hr 20 x d v e1 rx, dat_dp hr 20 y _ u e2 ry, h1, h2, h _ H ρ Post.refl hr (.bl _)⟩
      | _ => exact h.elim
theorem op_inA {X : Cx} (hu : X.A.units + 65 < cLine) : OpR X (compareOp .In) (rOr (rInD X.K) (rInT X.K)) := opr_or (op_inD hu) (op_inT hu)
noncomputable def sumK (is : List Int) : Int := List.rec (motive := fun _ => Int) 0 (fun i _ ih => i + ih) is
theorem sumK_eq : ∀ is : List Int, sumK is = is.sum
  | [] => rfl
  | i :: is => by
    rw [List.sum_cons, ← sumK_eq is]
    rfl
noncomputable def cSum : FC := fun xs c => match xs with
  | [x] => oR (lstW c x) fun ws => oR (intsW ws) fun is => .ok (.int (sumK is)) c
  | _ => .no
theorem ok_sum {K : PySem.W.Frag} : OkC K (rSum K) cSum := by
  intro ρ H c xs vs Q hr rx h
  match xs, rx, h with
  | [x], .cons r1 .nil, h =>
    obtain ⟨ws, e, h⟩ := got_opt h
    obtain ⟨is, e2, h⟩ := got_opt h
    obtain ⟨a, us, rfl, ha, rv⟩ := lstW_ok hr r1 e
    rw [intsW_eq e2] at rv
    rw [rp_ints rv] at ha
    rw [sumK_eq] at h
    exact ⟨a, is, rfl, .of ha, h _ H ρ Post.refl hr (.int _)⟩
  | [], .nil, h => exact h.elim
  | _ :: _ :: _, _, h => exact h.elim
theorem q_sum {X : Cx} {p pos : Pos} {e : Expr} {ra : EvA} (hm : X.mg "sum" = none) (hc : X.calm = true) (ha : PA X [e] (tU X.K ra)) (hg : Gl X "sum" := by rfl) (he : starEach [e] X.env = (false, eval e X.env) :: starEach [] X.env := by rfl) (hpl : (backTo pos (starEach [] X.env)).any (·.1) = false := by rfl) :
    PE X (.Call (.Name "sum" p) [e] [] pos) (tV X.K (eCB cSum ra)) := q_cb (cr_sum hc) ok_sum hm (by decide +kernel) ha hg (by decide) (by decide) he hpl
theorem units65 {k : Nat} {A : Around} (r : Room k A) : A.units + 65 < cLine := by have := r.un; omega
end Sm
/-! Fp: a quick product of rows -/
namespace Sm
open PySem PySem.Spec PyProof.Rows L2
/-- x times the second list, added to the first one -/
noncomputable def mulAdd (x : Int) (as : List Int) : List Int → List Int := List.rec (motive := fun _ => List Int → List Int) (fun _ => []) (fun a as' ih bs => List.rec (motive := fun _ => List Int) (a :: as') (fun b bs' _ => (a + x * b) :: ih bs') bs) as
theorem mulAdd_nil (x : Int) (as : List Int) : mulAdd x as [] = as := by cases as <;> rfl
theorem mulAdd_cons (x a b : Int) (as bs : List Int) : mulAdd x (a :: as) (b :: bs) = (a + x * b) :: mulAdd x as bs := rfl
theorem mulAdd_length (x : Int) : ∀ as bs : List Int, (mulAdd x as bs).length = as.length
  | [], _ => rfl
  | a :: as, [] => rfl
  | a :: as, b :: bs => by rw [mulAdd_cons, List.length_cons, List.length_cons, mulAdd_length]
theorem mulAdd_get (x : Int) : ∀ (as bs : List Int) (k : Nat), (mulAdd x as bs)[k]? = match as[k]?, bs[k]? with
    | some a, some b => some (a + x * b)
    | o, _ => o
  | [], bs, k => by simp [show mulAdd x [] bs = [] from rfl]
  | a :: as, [], k => by
    rw [mulAdd_nil]
    cases (a :: as)[k]? <;> simp
  | a :: as, b :: bs, 0 => by simp [mulAdd_cons]
  | a :: as, b :: bs, k + 1 => by
    rw [mulAdd_cons, List.getElem?_cons_succ, List.getElem?_cons_succ, List.getElem?_cons_succ]
    exact mulAdd_get x as bs k
/-- the row at i put to -/
noncomputable def addAt (i : Nat) (x : Int) (as bs : List Int) : List Int := as.take i ++ mulAdd x (as.drop i) bs
theorem addAt_length (i : Nat) (x : Int) (as bs : List Int) : (addAt i x as bs).length = as.length := by
  unfold addAt
  rw [List.length_append, mulAdd_length, List.length_take, List.length_drop]
  omega
theorem addAt_get (i : Nat) (x : Int) (as bs : List Int) (k : Nat) : (addAt i x as bs)[k]? = if k < i then as[k]? else match as[k]?, bs[k - i]? with
    | some a, some b => some (a + x * b)
    | o, _ => o := by
  unfold addAt
  by_cases h : k < i
  · rw [if_pos h]
    by_cases hl : k < as.length
    · rw [List.getElem?_append_left (by rw [List.length_take]; omega), List.getElem?_take_of_lt h]
    · rw [List.getElem?_eq_none (by rw [List.length_append, mulAdd_length, List.length_take, List.length_drop]; omega), List.getElem?_eq_none (by omega)]
  · rw [if_neg h]
    by_cases hl : i ≤ as.length
    · rw [List.getElem?_append_right (by rw [List.length_take]; omega), List.length_take, Nat.min_eq_left hl, mulAdd_get, List.getElem?_drop, show i + (k - i) = k by omega]
    · rw [List.getElem?_eq_none (by rw [List.length_append, mulAdd_length, List.length_take, List.length_drop]; omega), List.getElem?_eq_none (by omega)]
noncomputable def zerosK (n : Nat) : List Int := Nat.rec (motive := fun _ => List Int) [] (fun _ ih => 0 :: ih) n
/-- one more of the second list -/
theorem addAt_step (i j : Nat) (x b a : Int) (as bs : List Int) (hb : bs[j]? = some b) (ha : (addAt i x as (bs.take j))[i + j]? = some a) : (addAt i x as (bs.take j)).set (i + j) (a + x * b) = addAt i x as (bs.take (j + 1)) := by
  refine List.ext_getElem? fun k => ?_
  rw [List.getElem?_set, addAt_length]
  have ha0 : as[i + j]? = some a := by
    rw [addAt_get, if_neg (by omega), show i + j - i = j by omega, List.getElem?_eq_none (l := bs.take j) (by rw [List.length_take]; omega)] at ha
    cases h : as[i + j]? with
    | none => rw [h] at ha; cases ha
    | some a' =>
      rw [h] at ha
      exact ha
  have hl : i + j < as.length := (List.getElem?_eq_some_iff.mp ha0).1
  by_cases hk : i + j = k
  · subst hk
    rw [if_pos rfl, if_pos hl, addAt_get, if_neg (by omega), show i + j - i = j by omega, List.getElem?_take_of_lt (Nat.lt_succ_self j), hb, ha0]
  · rw [if_neg hk, addAt_get, addAt_get]
    by_cases h : k < i
    · rw [if_pos h, if_pos h]
    · rw [if_neg h, if_neg h]
      by_cases h2 : k - i < j
      · rw [List.getElem?_take_of_lt h2, List.getElem?_take_of_lt (by omega)]
      · rw [List.getElem?_eq_none (l := bs.take j) (by rw [List.length_take]; omega), List.getElem?_eq_none (l := bs.take (j + 1)) (by rw [List.length_take]; omega)]
/-- behind i rows -/
noncomputable def rowsAt (as bs acc : List Int) : Nat → List Int
  | 0 => acc
  | i + 1 => addAt i (as.getD i 0) (rowsAt as bs acc i) bs
theorem rowsAt_length (as bs acc : List Int) : ∀ i, (rowsAt as bs acc i).length = acc.length
  | 0 => rfl
  | i + 1 => by
    show (addAt _ _ _ _).length = _
    rw [addAt_length, rowsAt_length as bs acc i]
/-- the same, quickly -/
noncomputable def prodA (bs : List Int) (as : List Int) : List Int → List Int := List.rec (motive := fun _ => List Int → List Int) (fun acc => acc) (fun a _ ih acc => List.rec (motive := fun _ => List Int) [] (fun h t _ => h :: ih t) (mulAdd a acc bs)) as
theorem prodA_cons (bs : List Int) (a : Int) (as acc : List Int) : prodA bs (a :: as) acc = match mulAdd a acc bs with | [] => [] | h :: t => h :: prodA bs as t := by
  show List.rec (motive := fun _ => List Int) [] (fun h t _ => h :: prodA bs as t) (mulAdd a acc bs) = _
  cases mulAdd a acc bs <;> rfl
theorem addAt_cons (i : Nat) (x h : Int) (as bs : List Int) : addAt (i + 1) x (h :: as) bs = h :: addAt i x as bs := by
  unfold addAt
  rw [List.take_succ_cons, List.drop_succ_cons, List.cons_append]
theorem rowsAt_cons (a h : Int) (as bs t : List Int) : ∀ i, ∀ acc, addAt 0 a acc bs = h :: t → rowsAt (a :: as) bs acc (i + 1) = h :: rowsAt as bs t i
  | 0, acc, e => e
  | i + 1, acc, e => by
    show addAt (i + 1) ((a :: as).getD (i + 1) 0) (rowsAt (a :: as) bs acc (i + 1)) bs = _
    rw [rowsAt_cons a h as bs t i acc e, addAt_cons]
    rfl
theorem prodA_eq (bs : List Int) : ∀ (as acc : List Int), as.length ≤ acc.length → prodA bs as acc = rowsAt as bs acc as.length
  | [], _, _ => rfl
  | a :: as, acc, hl => by
    rw [prodA_cons]
    have e0 : addAt 0 a acc bs = mulAdd a acc bs := by
      unfold addAt
      rw [List.take_zero, List.drop_zero, List.nil_append]
    have ln := mulAdd_length a acc bs
    cases e : mulAdd a acc bs with
    | nil =>
      rw [e] at ln
      simp at hl ln
      omega
    | cons h t =>
      rw [e] at ln
      show h :: prodA bs as t = rowsAt (a :: as) bs acc (as.length + 1)
      rw [rowsAt_cons a h as bs t as.length acc (by rw [e0, e]), prodA_eq bs as t (by simp at hl ln; omega)]
end Sm
/-! Ra: the runs of the program's defs about numbers -/
namespace Sm
open PySem PySem.Spec PyProof.Rows L2
noncomputable def isI (w : W) : Bool := match w with
  | .int _ => true
  | _ => false
/-- Field(order) -/
noncomputable def fieldF (pb : FC) : FC := fun ws c => match ws with
  | [.int n] => match pb [.int n] Ch.nil with
    | .ok (.tup ps) _ => match ps.all isI with
      | true => .ok (.obj 0 [.int n, .tup ps, .int ((lenK ps : Nat) - 1)]) c
      | false => .no
    | _ => .no
  | _ => .no
/-! is_prime -/
noncomputable def b_is_prime : EvS := (sRet (eCB cAll (aCons (eLc 1000 [1] (iR2 (aCons (eC (.int 2)) (aCons (eVar 0) aNil))) (gN 1) bYes (eBin fGt (eBin fMod (eVar 0) (eVar 1)) (eC (.int 0)))) aNil)))
noncomputable def r_is_prime : FC := runF 1 2 b_is_prime
/-! primes_of -/
noncomputable def b_primes_of : EvS := (sRet (eLc 1000 [1] (iR2 (aCons (eC (.int 2)) (aCons (eBin fAdd (eVar 0) (eC (.int 1))) aNil))) (gN 1) (bAnd (toB (eBin fEq (eBin fMod (eVar 0) (eVar 1)) (eC (.int 0)))) (bTru (eCall 1 (apart r_is_prime) (aCons (eVar 1) aNil)))) (eVar 1)))
noncomputable def r_primes_of : FC := runF 1 2 b_primes_of
/-! multiple -/
noncomputable def b_multiple : EvS := (sRet (eBin fMul (eBin fDiv (eVar 0) (eCB cGcd (aCons (eVar 0) (aCons (eVar 1) aNil)))) (eVar 1)))
noncomputable def r_multiple : FC := runF 2 2 b_multiple
/-! with_one -/
noncomputable def b_with_one : EvS := (sSeq (sSet 2 (eBin fMul (eLst (aCons (eC (.int 0)) aNil)) (eBin fAdd (eCB cLen (aCons (eVar 0) aNil)) (eVar 1)))) (sSeq (sFor 1000 (iEn (eVar 0)) (gT 2 (gsCons (gN 3) (gsCons (gN 4) gsNil))) (sSeq (sAsg (eBin fAdd (eBin fIx (eVar 2) (eBin fAdd (eVar 3) (eVar 1))) (eVar 4)) (gSb (eVar 2) (eBin fAdd (eVar 3) (eVar 1)))) (sAsg (eBin fSub (eBin fIx (eVar 2) (eVar 3)) (eVar 4)) (gSb (eVar 2) (eVar 3))))) (sRet (eVar 2))))
noncomputable def r_with_one : FC := runF 2 5 b_with_one
/-! without_one -/
noncomputable def b_without_one : EvS := (sSeq (sSet 2 (eLst aNil)) (sSeq (sFor 1000 (iR1 (aCons (eBin fSub (eCB cLen (aCons (eVar 0) aNil)) (eVar 1)) aNil)) (gN 3) (sDrop (eApp (eVar 2) (eBin fSub (eIf (toB (eBin fGe (eVar 3) (eVar 1))) (eBin fIx (eVar 2) (eBin fSub (eVar 3) (eVar 1))) (eC (.int 0))) (eBin fIx (eVar 0) (eVar 3)))))) (sRet (eVar 2))))
noncomputable def r_without_one : FC := runF 2 4 b_without_one
/-! products_of -/
noncomputable def b_products_of : EvS := (sSeq (sSet 1 (eLst (aCons (eTup (aCons (eC (.int 1)) (aCons (eC (.int 0)) aNil))) aNil))) (sSeq (sFor 1000 (iSq (eVar 0)) (gN 2) (sSet 1 (eLst (aStar (eVar 1) (aStar (eLc 1000 [3, 4] (iSq (eVar 1)) (gT 2 (gsCons (gN 3) (gsCons (gN 4) gsNil))) bYes (eTup (aCons (eBin fMul (eVar 3) (eVar 2)) (aCons (eBin fAdd (eVar 4) (eC (.int 1))) aNil)))) aNil))))) (sRet (eVar 1))))
noncomputable def r_products_of : FC := runF 1 5 b_products_of
/-! polynomial_by -/
noncomputable def b_polynomial_by : EvS := (sSeq (sPar 1 2 (aCons (eLst (aCons (eC (.int 1)) aNil)) (aCons (eCall 1 (apart r_products_of) (aCons (eCall 1 (apart r_primes_of) (aCons (eVar 0) aNil)) aNil)) aNil))) (sSeq (sFor 1000 (iSq (eVar 2)) (gT 2 (gsCons (gN 3) (gsCons (gN 4) gsNil))) (sSet 1 (eIf (toB (eBin fEq (eBin fMod (eVar 4) (eC (.int 2))) (eC (.int 0)))) (eCall 2 (apart r_with_one) (aCons (eVar 1) (aCons (eBin fDiv (eVar 0) (eVar 3)) aNil))) (eVar 1)))) (sSeq (sFor 1000 (iSq (eVar 2)) (gT 2 (gsCons (gN 3) (gsCons (gN 4) gsNil))) (sSet 1 (eIf (toB (eBin fEq (eBin fMod (eVar 4) (eC (.int 2))) (eC (.int 1)))) (eCall 2 (apart r_without_one) (aCons (eVar 1) (aCons (eBin fDiv (eVar 0) (eVar 3)) aNil))) (eVar 1)))) (sRet (eCB cTuple (aCons (eVar 1) aNil))))))
noncomputable def r_polynomial_by : FC := runF 1 5 b_polynomial_by
noncomputable def r_Field : FC := fieldF (apart r_polynomial_by)
/-! moved -/
noncomputable def b_moved : EvS := (sSeq (sSet 3 (eBin fMul (eLst (aCons (eC (.int 0)) aNil)) (eVar 1))) (sSeq (sFor 1000 (iEn (eVar 0)) (gT 2 (gsCons (gN 4) (gsCons (gN 5) gsNil))) (sAsg (eBin fAdd (eBin fIx (eVar 3) (eBin fMod (eBin fMul (eVar 4) (eVar 2)) (eVar 1))) (eVar 5)) (gSb (eVar 3) (eBin fMod (eBin fMul (eVar 4) (eVar 2)) (eVar 1))))) (sRet (eVar 3))))
noncomputable def r_moved : FC := runF 3 6 b_moved
/-! Field.reduced -/
noncomputable def b_Field_reduced : EvS := (sSeq (sSet 2 (eCall 3 (apartR r_moved) (aCons (eVar 1) (aCons (eFld 0 0 (eVar 0)) (aCons (eC (.int 1)) aNil))))) (sSeq (sFor 1000 (iR3 (aCons (eBin fSub (eFld 0 0 (eVar 0)) (eC (.int 1))) (aCons (eBin fSub (eFld 0 2 (eVar 0)) (eC (.int 1))) (aCons (eUn fNeg (eC (.int 1))) aNil)))) (gN 3) (sSeq (sSet 4 (eBin fIx (eVar 2) (eVar 3))) (sIf (toB (eBin fNe (eVar 4) (eC (.int 0)))) (sFor 1000 (iEn (eFld 0 1 (eVar 0))) (gT 2 (gsCons (gN 5) (gsCons (gN 6) gsNil))) (sAsg (eBin fSub (eBin fIx (eVar 2) (eBin fAdd (eBin fSub (eVar 3) (eFld 0 2 (eVar 0))) (eVar 5))) (eBin fMul (eVar 4) (eVar 6))) (gSb (eVar 2) (eBin fAdd (eBin fSub (eVar 3) (eFld 0 2 (eVar 0))) (eVar 5))))) sNext))) (sRet (eCB cTuple (aCons (eSl (eVar 2) oNo (oAt (eFld 0 2 (eVar 0)))) aNil)))))
noncomputable def r_Field_reduced : FC := runF 2 7 b_Field_reduced
noncomputable def prodF : FC := fun ws c => match ws with
  | [.obj n fs, .tup A, .tup B] => match Nat.beq n 0 && flatA 9 (.obj n fs) with
    | true => match intsW A, intsW B with
      | some as, some bs => match Nat.blt (lenI as) 900 && (Nat.blt (lenI bs) 900 && allR (fun y : Int => Nat.blt y.natAbs 18446744073709551616) bs) with
        | true => match r_Field_reduced [.obj 0 fs, .lv ((prodA bs as (zerosK (Nat.add (lenI as) (lenI bs)))).map W.int)] Ch.nil with
          | .ok w c2 => match outW 9 c2 w with
            | some r => match flat 9 r with
              | true => .ok r c
              | false => .no
            | none => .no
          | .no => .no
        | false => .no
      | _, _ => .no
    | false => .no
  | _ => .no
/-! Field.turned -/
noncomputable def b_Field_turned : EvS := (sRet (eMeth 0 1 (apart r_Field_reduced) (eVar 0) (aCons (eLst (aStar (eBin fMul (eLst (aCons (eC (.int 0)) aNil)) (eBin fMod (eVar 2) (eFld 0 0 (eVar 0)))) (aStar (eVar 1) aNil))) aNil)))
noncomputable def r_Field_turned : FC := runF 3 3 b_Field_turned
/-! Field.power -/
noncomputable def b_Field_power : EvS := (sRet (eMeth 0 2 (apart r_Field_turned) (eVar 0) (aCons (eTup (aCons (eC (.int 1)) aNil)) (aCons (eVar 1) aNil))))
noncomputable def r_Field_power : FC := runF 2 2 b_Field_power
/-! Field.kin -/
noncomputable def b_Field_kin : EvS := (sRet (eMeth 0 1 (apart r_Field_reduced) (eVar 0) (aCons (eCall 3 (apart r_moved) (aCons (eVar 1) (aCons (eFld 0 0 (eVar 0)) (aCons (eVar 2) aNil)))) aNil)))
noncomputable def r_Field_kin : FC := runF 3 3 b_Field_kin
/-! Field.back -/
noncomputable def b_Field_back : EvS := (sRet (eMeth 0 2 (apart r_Field_kin) (eVar 0) (aCons (eVar 1) (aCons (eUn fNeg (eC (.int 1))) aNil))))
noncomputable def r_Field_back : FC := runF 2 2 b_Field_back
/-! Field.product -/
noncomputable def b_Field_product : EvS := (sSeq (sSet 3 (eBin fMul (eLst (aCons (eC (.int 0)) aNil)) (eBin fAdd (eCB cLen (aCons (eVar 1) aNil)) (eCB cLen (aCons (eVar 2) aNil))))) (sSeq (sFor 1000 (iEn (eVar 1)) (gT 2 (gsCons (gN 4) (gsCons (gN 5) gsNil))) (sFor 1000 (iEn (eVar 2)) (gT 2 (gsCons (gN 6) (gsCons (gN 7) gsNil))) (sAsg (eBin fAdd (eBin fIx (eVar 3) (eBin fAdd (eVar 4) (eVar 6))) (eBin fMul (eVar 5) (eVar 7))) (gSb (eVar 3) (eBin fAdd (eVar 4) (eVar 6)))))) (sRet (eMeth 0 1 (apart r_Field_reduced) (eVar 0) (aCons (eVar 3) aNil)))))
noncomputable def r_Field_product : FC := runF 3 8 b_Field_product
/-! Field.lifted -/
noncomputable def b_Field_lifted : EvS := (sRet (eMeth 0 1 (apart r_Field_reduced) (eVar 0) (aCons (eCall 3 (apart r_moved) (aCons (eVar 1) (aCons (eFld 0 0 (eVar 0)) (aCons (eBin fDiv (eFld 0 0 (eVar 0)) (eVar 2)) aNil)))) aNil)))
noncomputable def r_Field_lifted : FC := runF 3 3 b_Field_lifted
/-! undone -/
noncomputable def b_undone : EvS := (sRet (eBin fIx (eLc 1000 [2] (iR1 (aCons (eVar 1) aNil)) (gN 2) (toB (eBin fEq (eBin fMod (eBin fSub (eBin fMul (eVar 2) (eVar 0)) (eC (.int 1))) (eVar 1)) (eC (.int 0)))) (eVar 2)) (eC (.int 0))))
noncomputable def r_undone : FC := runF 2 3 b_undone
/-! by_square -/
noncomputable def b_by_square : EvS := (sSeq (sIf (bTru (eCB cAny (aCons (eLc 1000 [3, 4] (iEn (eVar 1)) (gT 2 (gsCons (gN 3) (gsCons (gN 4) gsNil))) bYes (eAnd (eBin fNe (eVar 4) (eC (.int 0))) (eBin fGt (eBin fMod (eVar 3) (eVar 2)) (eC (.int 0))))) aNil))) (sRet (eLst aNil)) sNext) (sRet (eLst (aCons (eTup (aCons (eBin fDiv (eVar 0) (eVar 2)) (aCons (eCB cTuple (aCons (eStp (eVar 1) (eVar 2)) aNil)) aNil))) aNil))))
noncomputable def r_by_square : FC := runF 3 5 b_by_square
/-! by_two -/
noncomputable def b_by_two : EvS := (sSeq (sSet 2 (eBin fDiv (eVar 0) (eC (.int 2)))) (sSeq (sSet 3 (eBin fMul (eLst (aCons (eC (.int 0)) aNil)) (eVar 2))) (sSeq (sFor 1000 (iEn (eVar 1)) (gT 2 (gsCons (gN 4) (gsCons (gN 5) gsNil))) (sSeq (sSet 6 (eBin fMod (eBin fMul (eVar 4) (eBin fDiv (eBin fAdd (eVar 2) (eC (.int 1))) (eC (.int 2)))) (eVar 2))) (sAsg (eBin fAdd (eBin fIx (eVar 3) (eVar 6)) (eIf (toB (eBin fEq (eBin fMod (eVar 4) (eC (.int 2))) (eC (.int 0)))) (eVar 5) (eUn fNeg (eVar 5)))) (gSb (eVar 3) (eVar 6))))) (sRet (eLst (aCons (eTup (aCons (eVar 2) (aCons (eMeth 0 1 (apart r_Field_reduced) (eCall 1 r_Field (aCons (eVar 2) aNil)) (aCons (eVar 3) aNil)) aNil))) aNil))))))
noncomputable def r_by_two : FC := runF 2 7 b_by_two
/-! by_odd -/
noncomputable def b_by_odd : EvS := (sSeq (sSet 3 (eBin fDiv (eVar 0) (eVar 2))) (sSeq (sPar 4 5 (aCons (eCall 2 (apart r_undone) (aCons (eVar 3) (aCons (eVar 2) aNil))) (aCons (eCall 2 (apart r_undone) (aCons (eVar 2) (aCons (eVar 3) aNil))) aNil))) (sSeq (sSet 6 (eLc 1000 [15] (iR1 (aCons (eVar 2) aNil)) (gN 15) bYes (eBin fMul (eLst (aCons (eC (.int 0)) aNil)) (eVar 3)))) (sSeq (sFor 1000 (iEn (eVar 1)) (gT 2 (gsCons (gN 7) (gsCons (gN 8) gsNil))) (sSeq (sPar 13 14 (aCons (eBin fIx (eVar 6) (eBin fMod (eBin fMul (eVar 7) (eVar 4)) (eVar 2))) (aCons (eBin fMod (eBin fMul (eVar 7) (eVar 5)) (eVar 3)) aNil))) (sAsg (eBin fAdd (eBin fIx (eVar 13) (eVar 14)) (eVar 8)) (gSb (eVar 13) (eVar 14))))) (sSeq (sSet 9 (eCall 1 r_Field (aCons (eVar 3) aNil))) (sSeq (sAsg (eLc 1000 [13] (iSq (eVar 6)) (gN 13) bYes (eMeth 0 1 (apart r_Field_reduced) (eVar 9) (aCons (eVar 13) aNil))) (gStr (gsCons (gN 10) (gsCons (gN 11) (gsCons (gN 12) gsNil))))) (sSeq (sIf (bTru (eCB cAny (aCons (eLc 1000 [8] (iSq (eVar 12)) (gN 8) bYes (eBin fNe (eVar 8) (eVar 11))) aNil))) (sRet (eLst aNil)) sNext) (sRet (eLst (aCons (eTup (aCons (eVar 3) (aCons (eCB cTuple (aCons (eLc 1000 [16, 17] (iZp (eVar 10) (eVar 11)) (gT 2 (gsCons (gN 16) (gsCons (gN 17) gsNil))) bYes (eBin fSub (eVar 16) (eVar 17))) aNil)) aNil))) aNil))))))))))
noncomputable def r_by_odd : FC := runF 3 18 b_by_odd
/-! lowered -/
noncomputable def b_lowered : EvS := (sSeq (sFor 1000 (iSq (eCall 1 (apart r_primes_of) (aCons (eVar 0) aNil))) (gN 2) (sSeq (sIf (toB (eBin fEq (eBin fMod (eBin fDiv (eVar 0) (eVar 2)) (eVar 2)) (eC (.int 0)))) (sSet 3 (eCall 3 (apartR r_by_square) (aCons (eVar 0) (aCons (eVar 1) (aCons (eVar 2) aNil))))) (sSet 3 (eIf (toB (eBin fEq (eVar 2) (eC (.int 2)))) (eCall 2 (apartR r_by_two) (aCons (eVar 0) (aCons (eVar 1) aNil))) (eCall 3 (apartR r_by_odd) (aCons (eVar 0) (aCons (eVar 1) (aCons (eVar 2) aNil))))))) (sIf (toB (eBin fNe (eVar 3) (eLst aNil))) (sRet (eVar 3)) sNext))) (sRet (eLst aNil)))
noncomputable def r_lowered : FC := runF 2 4 b_lowered
/-! lowest -/
noncomputable def b_lowest : EvS := (sSeq (sPar 2 3 (aCons (eTup (aCons (eVar 0) (aCons (eVar 1) aNil))) (aCons (eCall 2 (apart r_lowered) (aCons (eVar 0) (aCons (eVar 1) aNil))) aNil))) (sSeq (sWhile 1000 (toB (eBin fNe (eVar 3) (eLst aNil))) (sSeq (sSet 2 (eBin fIx (eVar 3) (eC (.int 0)))) (sSet 3 (eCallS 2 (apart r_lowered) (eVar 2))))) (sRet (eVar 2))))
noncomputable def r_lowest : FC := runF 2 4 b_lowest
/-! is_whole -/
noncomputable def b_is_whole : EvS := (sRet (eAnd (eIsi tabInt (eVar 0)) (eNot (eIsi tabBool (eVar 0)))))
noncomputable def r_is_whole : FC := runF 1 1 b_is_whole
/-! is_from -/
noncomputable def b_is_from : EvS := (sRet (eAnd (eCall 1 (apart r_is_whole) (aCons (eVar 0) aNil)) (eChain fLe fLe (eVar 1) (eVar 0) (eVar 2))))
noncomputable def r_is_from : FC := runF 3 3 b_is_from
/-! is_row_of -/
noncomputable def b_is_row_of : EvS := (sRet (eAnd (eIsi tabTuple (eVar 0)) (eBin fEq (eCB cLen (aCons (eVar 0) aNil)) (eVar 1))))
noncomputable def r_is_row_of : FC := runF 2 2 b_is_row_of
/-! is_fraction -/
noncomputable def b_is_fraction : EvS := (sSeq (sIf (bOr (bNot (bTru (eCall 2 (apart r_is_row_of) (aCons (eVar 0) (aCons (eC (.int 2)) aNil))))) (bOr (bNot (bTru (eCall 1 (apart r_is_whole) (aCons (eBin fIx (eVar 0) (eC (.int 0))) aNil)))) (bNot (bTru (eCall 1 (apart r_is_whole) (aCons (eBin fIx (eVar 0) (eC (.int 1))) aNil)))))) (sRet (eC (.bl false))) sNext) (sRet (eAnd (eBin fGt (eBin fIx (eVar 0) (eC (.int 1))) (eC (.int 0))) (eBin fEq (eCB cGcd (aCons (eBin fIx (eVar 0) (eC (.int 0))) (aCons (eBin fIx (eVar 0) (eC (.int 1))) aNil))) (eC (.int 1))))))
noncomputable def r_is_fraction : FC := runF 1 1 b_is_fraction
/-! fraction_of -/
noncomputable def b_fraction_of : EvS := (sSeq (sSet 2 (eCB cGcd (aCons (eVar 0) (aCons (eVar 1) aNil)))) (sRet (eTup (aCons (eBin fDiv (eVar 0) (eVar 2)) (aCons (eBin fDiv (eVar 1) (eVar 2)) aNil)))))
noncomputable def r_fraction_of : FC := runF 2 3 b_fraction_of
/-! is_order -/
noncomputable def b_is_order : EvS := (sRet (eCall 3 (apart r_is_from) (aCons (eVar 0) (aCons (eC (.int 1)) (aCons (eC (.int 120)) aNil)))))
noncomputable def r_is_order : FC := runF 1 1 b_is_order
/-! wholes_of -/
noncomputable def b_wholes_of : EvS := (sSeq (sSet 1 (eC (.int 1))) (sSeq (sFor 1000 (iSq (eVar 0)) (gT 2 (gsCons (gN 2) (gsCons (gN 3) gsNil))) (sSet 1 (eCall 2 (apart r_multiple) (aCons (eVar 1) (aCons (eVar 3) aNil))))) (sRet (eTup (aCons (eLc 1000 [4, 3] (iSq (eVar 0)) (gT 2 (gsCons (gN 4) (gsCons (gN 3) gsNil))) bYes (eBin fMul (eVar 4) (eBin fDiv (eVar 1) (eVar 3)))) (aCons (eVar 1) aNil))))))
noncomputable def r_wholes_of : FC := runF 1 5 b_wholes_of
/-! parts_of -/
noncomputable def b_parts_of : EvS := (sRet (eCB cTuple (aCons (eLc 1000 [2] (iSq (eVar 0)) (gN 2) bYes (eCall 2 (apart r_fraction_of) (aCons (eVar 2) (aCons (eVar 1) aNil)))) aNil)))
noncomputable def r_parts_of : FC := runF 2 3 b_parts_of
/-! at -/
noncomputable def b_at : EvS := (sSeq (sAsg (eVar 1) (gT 2 (gsCons (gN 2) (gsCons (gN 3) gsNil)))) (sSeq (sAsg (eCall 1 (apart r_wholes_of) (aCons (eVar 3) aNil)) (gT 2 (gsCons (gN 4) (gsCons (gN 5) gsNil)))) (sRet (eTup (aCons (eMeth 0 2 (apart r_Field_lifted) (eVar 0) (aCons (eVar 4) (aCons (eVar 2) aNil))) (aCons (eVar 5) aNil))))))
noncomputable def r_at : FC := runF 2 6 b_at
/-! least -/
noncomputable def b_least : EvS := (sSeq (sAsg (eCall 2 (apart r_lowest) (aCons (eFld 0 0 (eVar 0)) (aCons (eVar 1) aNil))) (gT 2 (gsCons (gN 3) (gsCons (gN 4) gsNil)))) (sRet (eTup (aCons (eVar 3) (aCons (eCall 2 (apart r_parts_of) (aCons (eVar 4) (aCons (eVar 2) aNil))) aNil)))))
noncomputable def r_least : FC := runF 3 5 b_least
/-! is_number_by -/
noncomputable def b_is_number_by : EvS := (sSeq (sIf (bOr (bNot (bTru (eCall 2 (apart r_is_row_of) (aCons (eVar 0) (aCons (eC (.int 2)) aNil))))) (bNot (bTru (eCall 1 (apart r_is_order) (aCons (eBin fIx (eVar 0) (eC (.int 0))) aNil))))) (sRet (eC (.bl false))) sNext) (sSeq (sAsg (eVar 0) (gT 2 (gsCons (gN 1) (gsCons (gN 2) gsNil)))) (sSeq (sSet 3 (eCall 1 r_Field (aCons (eVar 1) aNil))) (sSeq (sIf (bOr (bNot (bTru (eCall 2 (apart r_is_row_of) (aCons (eVar 2) (aCons (eFld 0 2 (eVar 3)) aNil))))) (bNot (bTru (eCB cAll (aCons (eLc 1000 [4] (iSq (eVar 2)) (gN 4) bYes (eCall 1 (apart r_is_fraction) (aCons (eVar 4) aNil))) aNil))))) (sRet (eC (.bl false))) sNext) (sRet (eBin fEq (eBin fIx (eCall 2 (apart r_lowest) (aCons (eVar 1) (aCons (eBin fIx (eCall 1 (apart r_wholes_of) (aCons (eVar 2) aNil)) (eC (.int 0))) aNil))) (eC (.int 0))) (eVar 1)))))))
noncomputable def r_is_number_by : FC := runF 1 5 b_is_number_by
/-! both_orders -/
noncomputable def b_both_orders : EvS := (sRet (eCall 2 (apart r_multiple) (aCons (eBin fIx (eVar 0) (eC (.int 0))) (aCons (eBin fIx (eVar 1) (eC (.int 0))) aNil))))
noncomputable def r_both_orders : FC := runF 2 2 b_both_orders
/-! both_rows -/
noncomputable def b_both_rows : EvS := (sSeq (sSet 2 (eCall 1 r_Field (aCons (eCall 2 (apart r_both_orders) (aCons (eVar 0) (aCons (eVar 1) aNil))) aNil))) (sSeq (sAsg (eCall 2 (apart r_at) (aCons (eVar 2) (aCons (eVar 0) aNil))) (gT 2 (gsCons (gN 3) (gsCons (gN 4) gsNil)))) (sSeq (sAsg (eCall 2 (apart r_at) (aCons (eVar 2) (aCons (eVar 1) aNil))) (gT 2 (gsCons (gN 5) (gsCons (gN 6) gsNil)))) (sSeq (sSet 7 (eCall 2 (apart r_multiple) (aCons (eVar 4) (aCons (eVar 6) aNil)))) (sSeq (sSet 8 (eCB cTuple (aCons (eLc 1000 [9] (iSq (eVar 3)) (gN 9) bYes (eBin fMul (eVar 9) (eBin fDiv (eVar 7) (eVar 4)))) aNil))) (sRet (eTup (aCons (eVar 2) (aCons (eVar 8) (aCons (eCB cTuple (aCons (eLc 1000 [9] (iSq (eVar 5)) (gN 9) bYes (eBin fMul (eVar 9) (eBin fDiv (eVar 7) (eVar 6)))) aNil)) (aCons (eVar 7) aNil)))))))))))
noncomputable def r_both_rows : FC := runF 2 10 b_both_rows
/-! sum_of -/
noncomputable def b_sum_of : EvS := (sSeq (sAsg (eCall 2 (apart r_both_rows) (aCons (eVar 0) (aCons (eVar 1) aNil))) (gT 4 (gsCons (gN 2) (gsCons (gN 3) (gsCons (gN 4) (gsCons (gN 5) gsNil)))))) (sRet (eCall 3 (apart r_least) (aCons (eVar 2) (aCons (eCB cTuple (aCons (eLc 1000 [6, 7] (iZp (eVar 3) (eVar 4)) (gT 2 (gsCons (gN 6) (gsCons (gN 7) gsNil))) bYes (eBin fAdd (eVar 6) (eVar 7))) aNil)) (aCons (eVar 5) aNil))))))
noncomputable def r_sum_of : FC := runF 2 8 b_sum_of
/-! difference_of -/
noncomputable def b_difference_of : EvS := (sSeq (sAsg (eCall 2 (apart r_both_rows) (aCons (eVar 0) (aCons (eVar 1) aNil))) (gT 4 (gsCons (gN 2) (gsCons (gN 3) (gsCons (gN 4) (gsCons (gN 5) gsNil)))))) (sRet (eCall 3 (apart r_least) (aCons (eVar 2) (aCons (eCB cTuple (aCons (eLc 1000 [6, 7] (iZp (eVar 3) (eVar 4)) (gT 2 (gsCons (gN 6) (gsCons (gN 7) gsNil))) bYes (eBin fSub (eVar 6) (eVar 7))) aNil)) (aCons (eVar 5) aNil))))))
noncomputable def r_difference_of : FC := runF 2 8 b_difference_of
/-! product_of -/
noncomputable def b_product_of : EvS := (sSeq (sAsg (eCall 2 (apart r_both_rows) (aCons (eVar 0) (aCons (eVar 1) aNil))) (gT 4 (gsCons (gN 2) (gsCons (gN 3) (gsCons (gN 4) (gsCons (gN 5) gsNil)))))) (sRet (eCall 3 (apart r_least) (aCons (eVar 2) (aCons (eMeth 0 2 (apart prodF) (eVar 2) (aCons (eVar 3) (aCons (eVar 4) aNil))) (aCons (eBin fMul (eVar 5) (eVar 5)) aNil))))))
noncomputable def r_product_of : FC := runF 2 6 b_product_of
/-! back_of -/
noncomputable def b_back_of : EvS := (sSeq (sSet 1 (eCall 1 r_Field (aCons (eBin fIx (eVar 0) (eC (.int 0))) aNil))) (sSeq (sAsg (eCall 2 (apart r_at) (aCons (eVar 1) (aCons (eVar 0) aNil))) (gT 2 (gsCons (gN 2) (gsCons (gN 3) gsNil)))) (sRet (eCall 3 (apart r_least) (aCons (eVar 1) (aCons (eMeth 0 1 (apart r_Field_back) (eVar 1) (aCons (eVar 2) aNil)) (aCons (eVar 3) aNil)))))))
noncomputable def r_back_of : FC := runF 1 4 b_back_of
/-! least_parts -/
noncomputable def b_least_parts : EvS := (sSeq (sAsg (eCall 1 (apart r_wholes_of) (aCons (eVar 1) aNil)) (gT 2 (gsCons (gN 2) (gsCons (gN 3) gsNil)))) (sRet (eCall 3 (apart r_least) (aCons (eCall 1 r_Field (aCons (eVar 0) aNil)) (aCons (eCB cTuple (aCons (eVar 2) aNil)) (aCons (eVar 3) aNil))))))
noncomputable def r_least_parts : FC := runF 2 4 b_least_parts
/-! scaled_by -/
noncomputable def b_scaled_by : EvS := (sSeq (sAsg (eVar 1) (gT 2 (gsCons (gN 2) (gsCons (gN 3) gsNil)))) (sRet (eCall 2 (apart r_least_parts) (aCons (eBin fIx (eVar 0) (eC (.int 0))) (aCons (eLc 1000 [4, 5] (iSq (eBin fIx (eVar 0) (eC (.int 1)))) (gT 2 (gsCons (gN 4) (gsCons (gN 5) gsNil))) bYes (eCall 2 (apart r_fraction_of) (aCons (eBin fMul (eVar 4) (eVar 2)) (aCons (eBin fMul (eVar 5) (eVar 3)) aNil)))) aNil)))))
noncomputable def r_scaled_by : FC := runF 2 6 b_scaled_by
/-! root_of -/
noncomputable def b_root_of : EvS := (sSeq (sSet 2 (eCall 1 r_Field (aCons (eVar 0) aNil))) (sRet (eCall 3 (apart r_least) (aCons (eVar 2) (aCons (eMeth 0 1 (apart r_Field_power) (eVar 2) (aCons (eVar 1) aNil)) (aCons (eC (.int 1)) aNil))))))
noncomputable def r_root_of : FC := runF 2 3 b_root_of
/-! check_number -/
noncomputable def b_check_number : EvS := (sIf (bNot (bTru (eCall 1 (apart r_is_number_by) (aCons (eVar 0) aNil)))) sNo sNext)
noncomputable def r_check_number : FC := runF 1 1 b_check_number
/-! check_order -/
noncomputable def b_check_order : EvS := (sIf (bNot (bTru (eCall 1 (apart r_is_order) (aCons (eVar 0) aNil)))) sNo sNext)
noncomputable def r_check_order : FC := runF 1 1 b_check_order
/-! is_number -/
noncomputable def b_is_number : EvS := (sRet (eCall 1 (apart r_is_number_by) (aCons (eVar 0) aNil)))
noncomputable def r_is_number : FC := runF 1 1 b_is_number
/-! check_both -/
noncomputable def b_check_both : EvS := (sSeq (sDrop (eCall 1 (apart r_check_number) (aCons (eVar 0) aNil))) (sSeq (sDrop (eCall 1 (apart r_check_number) (aCons (eVar 1) aNil))) (sIf (toB (eBin fGt (eCall 2 (apart r_both_orders) (aCons (eVar 0) (aCons (eVar 1) aNil))) (eC (.int 120)))) sNo sNext)))
noncomputable def r_check_both : FC := runF 2 2 b_check_both
/-! added -/
noncomputable def b_added : EvS := (sSeq (sDrop (eCall 2 (apart r_check_both) (aCons (eVar 0) (aCons (eVar 1) aNil)))) (sRet (eCall 2 (apart r_sum_of) (aCons (eVar 0) (aCons (eVar 1) aNil)))))
noncomputable def r_added : FC := runF 2 2 b_added
/-! less -/
noncomputable def b_less : EvS := (sSeq (sDrop (eCall 2 (apart r_check_both) (aCons (eVar 0) (aCons (eVar 1) aNil)))) (sRet (eCall 2 (apart r_difference_of) (aCons (eVar 0) (aCons (eVar 1) aNil)))))
noncomputable def r_less : FC := runF 2 2 b_less
/-! times -/
noncomputable def b_times : EvS := (sSeq (sDrop (eCall 2 (apart r_check_both) (aCons (eVar 0) (aCons (eVar 1) aNil)))) (sRet (eCall 2 (apart r_product_of) (aCons (eVar 0) (aCons (eVar 1) aNil)))))
noncomputable def r_times : FC := runF 2 2 b_times
/-! turned_back -/
noncomputable def b_turned_back : EvS := (sSeq (sDrop (eCall 1 (apart r_check_number) (aCons (eVar 0) aNil))) (sRet (eCall 1 (apart r_back_of) (aCons (eVar 0) aNil))))
noncomputable def r_turned_back : FC := runF 1 1 b_turned_back
/-! scaled -/
noncomputable def b_scaled : EvS := (sSeq (sDrop (eCall 1 (apart r_check_number) (aCons (eVar 0) aNil))) (sSeq (sIf (bNot (bTru (eCall 1 (apart r_is_fraction) (aCons (eVar 1) aNil)))) sNo sNext) (sRet (eCall 2 (apart r_scaled_by) (aCons (eVar 0) (aCons (eVar 1) aNil))))))
noncomputable def r_scaled : FC := runF 2 2 b_scaled
/-! is_real -/
noncomputable def b_is_real : EvS := (sRet (eBin fEq (eCall 1 (apart r_turned_back) (aCons (eVar 0) aNil)) (eVar 0)))
noncomputable def r_is_real : FC := runF 1 1 b_is_real
/-! root -/
noncomputable def b_root : EvS := (sSeq (sDrop (eCall 1 (apart r_check_order) (aCons (eVar 0) aNil))) (sSeq (sIf (bNot (bTru (eCall 1 (apart r_is_whole) (aCons (eVar 1) aNil)))) sNo sNext) (sRet (eCall 2 (apart r_root_of) (aCons (eVar 0) (aCons (eVar 1) aNil))))))
noncomputable def r_root : FC := runF 2 2 b_root
/-! rows_of_kin -/
noncomputable def b_rows_of_kin : EvS := (sSeq (sSet 1 (eCall 1 r_Field (aCons (eBin fIx (eVar 0) (eC (.int 0))) aNil))) (sSeq (sAsg (eCall 2 (apart r_at) (aCons (eVar 1) (aCons (eVar 0) aNil))) (gT 2 (gsCons (gN 2) (gsCons (gN 3) gsNil)))) (sSeq (sSet 4 (eLc 1000 [5] (iR2 (aCons (eC (.int 1)) (aCons (eBin fAdd (eFld 0 0 (eVar 1)) (eC (.int 1))) aNil))) (gN 5) (toB (eBin fEq (eCB cGcd (aCons (eVar 5) (aCons (eFld 0 0 (eVar 1)) aNil))) (eC (.int 1)))) (eVar 5))) (sRet (eTup (aCons (eSdc 1000 [5] (iSq (eVar 4)) (gN 5) bYes (eMeth 0 2 (apart r_Field_kin) (eVar 1) (aCons (eVar 2) (aCons (eVar 5) aNil)))) (aCons (eVar 3) aNil)))))))
noncomputable def r_rows_of_kin : FC := runF 1 6 b_rows_of_kin
/-! kin_of -/
noncomputable def b_kin_of : EvS := (sSeq (sAsg (eCall 1 (apart r_rows_of_kin) (aCons (eVar 0) aNil)) (gT 2 (gsCons (gN 1) (gsCons (gN 2) gsNil)))) (sRet (eLc 1000 [3] (iSq (eVar 1)) (gN 3) bYes (eTup (aCons (eBin fIx (eVar 0) (eC (.int 0))) (aCons (eCall 2 (apart r_parts_of) (aCons (eVar 3) (aCons (eVar 2) aNil))) aNil))))))
noncomputable def r_kin_of : FC := runF 1 4 b_kin_of
/-! trace_of -/
noncomputable def b_trace_of : EvS := (sSeq (sAsg (eCall 1 (apart r_rows_of_kin) (aCons (eVar 0) aNil)) (gT 2 (gsCons (gN 1) (gsCons (gN 2) gsNil)))) (sRet (eCall 2 (apart r_fraction_of) (aCons (eCB cSum (aCons (eLc 1000 [3] (iSq (eVar 1)) (gN 3) bYes (eBin fIx (eVar 3) (eC (.int 0)))) aNil)) (aCons (eVar 2) aNil)))))
noncomputable def r_trace_of : FC := runF 1 4 b_trace_of
/-! kin -/
noncomputable def b_kin : EvS := (sSeq (sDrop (eCall 1 (apart r_check_number) (aCons (eVar 0) aNil))) (sRet (eCB cTuple (aCons (eCall 1 (apart r_kin_of) (aCons (eVar 0) aNil)) aNil))))
noncomputable def r_kin : FC := runF 1 1 b_kin
/-! trace -/
noncomputable def b_trace : EvS := (sSeq (sDrop (eCall 1 (apart r_check_number) (aCons (eVar 0) aNil))) (sRet (eCall 1 (apart r_trace_of) (aCons (eVar 0) aNil))))
noncomputable def r_trace : FC := runF 1 1 b_trace
end Sm
/-! La: the runs of the law's own defs -/
namespace Sm
open PySem PySem.Spec PyProof.Rows L2
noncomputable def gcdF : FC := fun ws c => match ws with
  | [.int (.ofNat a), .int (.ofNat b)] => match Nat.blt b 400 with
    | true => .ok (.int (Nat.gcd a b : Nat)) c
    | false => .no
  | _ => .no
/-- the callee changes the list that it is given; it runs with it alone -/
noncomputable def lend (f : FC) : FC := fun ws c => match ws with
  | [.ref n] => match c.get n with
    | some xs => match xs.all (flat 9) with
      | true => match f [.ref 0] (Ch.nil.push xs) with
        | .ok w c2 => match flat 9 w with
          | true => match c2.get 0 with
            | some us => match us.all (flat 9) with
              | true => .ok w (c.set n us)
              | false => .no
            | none => .no
          | false => .no
        | .no => .no
      | false => .no
    | none => .no
  | _ => .no
/-! _law_bowl -/
noncomputable def b__law_bowl : EvS := (sSeq (sPar 2 3 (aCons (eIf (toB (eBin fLt (eVar 1) (eCB cLen (aCons (eVar 0) aNil)))) (eCB cInt (aCons (eBin fIx (eVar 0) (eVar 1)) aNil)) (eC (.int 0))) (aCons (eBin fAdd (eC (.int 660047)) (eBin fMul (eC (.int 2711)) (eVar 1))) aNil))) (sSeq (sFor 1000 (iSq (eSl (eVar 0) oNo (oAt (eC (.int 16))))) (gN 4) (sSet 3 (eBin fMod (eCB cInt (aCons (eBin fAdd (eBin fAdd (eBin fMul (eVar 3) (eC (.int 48989))) (eBin fMul (eBin fMod (eCB cInt (aCons (eVar 4) aNil)) (eC (.int 2147483353))) (eC (.int 3)))) (eC (.int 71))) aNil)) (eC (.int 2147483423))))) (sSeq (sSet 5 (eIf (bOr (toB (eBin fLt (eVar 2) (eC (.int 0)))) (toB (eBin fGe (eVar 2) (eBin fPow (eC (.int 10)) (eC (.int 16)))))) (eBin fMod (eCB cAbs (aCons (eVar 2) aNil)) (eBin fPow (eC (.int 10)) (eC (.int 60)))) (eC (.int 0)))) (sRet (eLst (aCons (eVar 5) (aCons (eBin fMod (eCB cInt (aCons (eBin fAdd (eBin fAdd (eBin fMul (eVar 3) (eC (.int 31))) (eBin fMod (eCB cInt (aCons (eVar 2) aNil)) (eC (.int 2147483353)))) (eC (.int 401))) aNil)) (eC (.int 2147483423))) aNil)))))))
noncomputable def r__law_bowl : FC := runF 2 6 b__law_bowl
/-! _law_draw -/
noncomputable def b__law_draw : EvS := (sSeq (sIf (toB (eBin fGt (eBin fIx (eVar 0) (eC (.int 0))) (eC (.int 0)))) (sSeq (sAsg (eCB cDivmod (aCons (eBin fIx (eVar 0) (eC (.int 0))) (aCons (eVar 1) aNil))) (gT 2 (gsCons (gSb (eVar 0) (eC (.int 0))) (gsCons (gN 2) gsNil)))) (sRet (eVar 2))) sNext) (sSeq (sAsg (eBin fMod (eCB cInt (aCons (eBin fAdd (eBin fMul (eBin fIx (eVar 0) (eC (.int 1))) (eC (.int 36969))) (eC (.int 19))) aNil)) (eC (.int 2147483423))) (gSb (eVar 0) (eC (.int 1)))) (sSeq (sAsg (eBin fMod (eCB cInt (aCons (eBin fAdd (eBin fMul (eBin fIx (eVar 0) (eC (.int 1))) (eC (.int 18000))) (eBin fDiv (eBin fIx (eVar 0) (eC (.int 1))) (eC (.int 6263)))) aNil)) (eC (.int 2147483423))) (gSb (eVar 0) (eC (.int 1)))) (sRet (eBin fMod (eCB cInt (aCons (eBin fDiv (eBin fIx (eVar 0) (eC (.int 1))) (eC (.int 907))) aNil)) (eVar 1))))))
noncomputable def r__law_draw : FC := runF 2 3 b__law_draw
/-! _law_of -/
noncomputable def b__law_of : EvS := (sRet (eBin fIx (eVar 1) (eCall 2 r__law_draw (aCons (eVar 0) (aCons (eCB cLen (aCons (eVar 1) aNil)) aNil)))))
noncomputable def r__law_of : FC := runF 2 2 b__law_of
/-! _law_same -/
noncomputable def b__law_same (self_ : FC) : EvS := (sSeq (sIf (bOr (bTru (eIsi tabTuple (eVar 1))) (bTru (eIsi tabTuple (eVar 0)))) (sSeq (sIf (bOr (bNot (bTru (eIsi tabTuple (eVar 1)))) (bOr (bNot (bTru (eIsi tabTuple (eVar 0)))) (toB (eBin fNe (eCB cLen (aCons (eVar 0) aNil)) (eCB cLen (aCons (eVar 1) aNil)))))) (sRet (eC (.bl false))) sNext) (sRet (eBin fEq (eLc 1000 [2] (iR1 (aCons (eCB cLen (aCons (eVar 1) aNil)) aNil)) (gN 2) (bNot (bTru (eCall 2 self_ (aCons (eBin fIx (eVar 0) (eVar 2)) (aCons (eBin fIx (eVar 1) (eVar 2)) aNil))))) (eVar 2)) (eLst aNil)))) sNext) (sSeq (sIf (bOr (toB (eBin (fIsN false) (eVar 1) (eC .non))) (toB (eBin (fIsN false) (eVar 0) (eC .non)))) (sRet (eAnd (eBin (fIsN false) (eVar 1) (eC .non)) (eBin (fIsN false) (eVar 0) (eC .non)))) sNext) (sSeq (sIf (bOr (toB (eBin fNe (eIsi tabBool (eVar 1)) (eIsi tabBool (eVar 0)))) (bOr (toB (eBin fNe (eIsi tabInt (eVar 1)) (eIsi tabInt (eVar 0)))) (toB (eBin fNe (eIsi tabStr (eVar 1)) (eIsi tabStr (eVar 0)))))) (sRet (eC (.bl false))) sNext) (sRet (eBin fIsB (eBin fEq (eVar 0) (eVar 1)) (eC (.bl true)))))))
noncomputable def r__law_same : Nat → FC
  | 0 => fun _ _ => .no
  | d + 1 => runF 2 3 (b__law_same (r__law_same d))
/-! _law_gcd -/
noncomputable def b__law_gcd : EvS := (sSeq (sFor 1000 (iR1 (aCons (eC (.int 400)) aNil)) (gN 2) (sAsg (eIf (toB (eBin fGt (eVar 1) (eC (.int 0)))) (eTup (aCons (eVar 1) (aCons (eBin fMod (eCB cInt (aCons (eVar 0) aNil)) (eVar 1)) aNil))) (eTup (aCons (eVar 0) (aCons (eC (.int 0)) aNil)))) (gT 2 (gsCons (gN 0) (gsCons (gN 1) gsNil))))) (sRet (eVar 0)))
noncomputable def r__law_gcd : FC := runF 2 3 b__law_gcd
/-! _law_fraction -/
noncomputable def b__law_fraction : EvS := (sSeq (sSet 2 (eCall 2 (apart gcdF) (aCons (eCB cAbs (aCons (eVar 0) aNil)) (aCons (eVar 1) aNil)))) (sRet (eTup (aCons (eBin fDiv (eVar 0) (eVar 2)) (aCons (eBin fDiv (eVar 1) (eVar 2)) aNil)))))
noncomputable def r__law_fraction : FC := runF 2 3 b__law_fraction
/-! _law_primes -/
noncomputable def b__law_primes : EvS := (sRet (eLc 1000 [1] (iR2 (aCons (eC (.int 2)) (aCons (eBin fAdd (eVar 0) (eC (.int 1))) aNil))) (gN 1) (bAnd (toB (eBin fEq (eBin fMod (eCB cInt (aCons (eVar 0) aNil)) (eVar 1)) (eC (.int 0)))) (toB (eBin fEq (eLc 1000 [2] (iR2 (aCons (eC (.int 2)) (aCons (eVar 1) aNil))) (gN 2) (toB (eBin fEq (eBin fMod (eCB cInt (aCons (eVar 1) aNil)) (eVar 2)) (eC (.int 0)))) (eVar 2)) (eLst aNil)))) (eVar 1)))
noncomputable def r__law_primes : FC := runF 1 3 b__law_primes
/-! _law_degree -/
noncomputable def b__law_degree : EvS := (sRet (eCB cLen (aCons (eLc 1000 [1] (iR2 (aCons (eC (.int 1)) (aCons (eBin fAdd (eVar 0) (eC (.int 1))) aNil))) (gN 1) (toB (eBin fEq (eCall 2 (apart gcdF) (aCons (eVar 1) (aCons (eVar 0) aNil))) (eC (.int 1)))) (eVar 1)) aNil)))
noncomputable def r__law_degree : FC := runF 1 2 b__law_degree
/-! _law_spread -/
noncomputable def b__law_spread : EvS := (sSeq (sSet 2 (eLst aNil)) (sSeq (sFor 1000 (iSq (eVar 0)) (gN 3) (sSet 2 (eBin fAdd (eBin fAdd (eVar 2) (eLst (aCons (eVar 3) aNil))) (eBin fMul (eLst (aCons (eC (.int 0)) aNil)) (eBin fSub (eVar 1) (eC (.int 1))))))) (sRet (eSl (eVar 2) oNo (oAt (eBin fAdd (eBin fMul (eVar 1) (eBin fSub (eCB cLen (aCons (eVar 0) aNil)) (eC (.int 1)))) (eC (.int 1))))))))
noncomputable def r__law_spread : FC := runF 2 4 b__law_spread
/-! _law_divided -/
noncomputable def b__law_divided : EvS := (sSeq (sPar 2 3 (aCons (eCB cList (aCons (eVar 0) aNil)) (aCons (eBin fSub (eCB cLen (aCons (eVar 1) aNil)) (eC (.int 1))) aNil))) (sSeq (sSet 4 (eBin fMul (eLst (aCons (eC (.int 0)) aNil)) (eCB cMax (aCons (eC (.int 1)) (aCons (eBin fSub (eCB cLen (aCons (eVar 2) aNil)) (eVar 3)) aNil))))) (sSeq (sFor 1000 (iR3 (aCons (eBin fSub (eCB cLen (aCons (eVar 2) aNil)) (eC (.int 1))) (aCons (eBin fSub (eVar 3) (eC (.int 1))) (aCons (eBin fSub (eC (.int 0)) (eC (.int 1))) aNil)))) (gN 5) (sSeq (sSet 6 (eBin fIx (eVar 2) (eVar 5))) (sSeq (sAsg (eVar 6) (gSb (eVar 4) (eBin fSub (eVar 5) (eVar 3)))) (sIf (toB (eBin fNe (eVar 6) (eC (.int 0)))) (sFor 1000 (iR1 (aCons (eBin fAdd (eVar 3) (eC (.int 1))) aNil)) (gN 7) (sAsg (eBin fSub (eBin fIx (eVar 2) (eBin fAdd (eBin fSub (eVar 5) (eVar 3)) (eVar 7))) (eBin fMul (eVar 6) (eBin fIx (eVar 1) (eVar 7)))) (gSb (eVar 2) (eBin fAdd (eBin fSub (eVar 5) (eVar 3)) (eVar 7))))) sNext)))) (sRet (eTup (aCons (eVar 4) (aCons (eSl (eVar 2) oNo (oAt (eVar 3))) aNil)))))))
noncomputable def r__law_divided : FC := runF 2 8 b__law_divided
/-! _law_polynomial -/
noncomputable def b__law_polynomial : EvS := (sSeq (sPar 1 2 (aCons (eLst (aCons (eBin fSub (eC (.int 0)) (eC (.int 1))) (aCons (eC (.int 1)) aNil))) (aCons (eC (.int 1)) aNil))) (sSeq (sFor 1000 (iSq (eCall 1 (apart r__law_primes) (aCons (eVar 0) aNil))) (gN 3) (sSeq (sSet 4 (eLst aNil)) (sSeq (sFor 1000 (iSq (eVar 1)) (gN 5) (sSet 4 (eBin fAdd (eBin fAdd (eVar 4) (eLst (aCons (eVar 5) aNil))) (eBin fMul (eLst (aCons (eC (.int 0)) aNil)) (eBin fSub (eVar 3) (eC (.int 1))))))) (sPar 1 2 (aCons (eBin fIx (eCall 2 (apart r__law_divided) (aCons (eSl (eVar 4) oNo (oAt (eBin fAdd (eBin fMul (eVar 3) (eBin fSub (eCB cLen (aCons (eVar 1) aNil)) (eC (.int 1)))) (eC (.int 1))))) (aCons (eVar 1) aNil))) (eC (.int 0))) (aCons (eBin fMul (eVar 2) (eVar 3)) aNil)))))) (sRet (eCB cTuple (aCons (eCall 2 (apart r__law_spread) (aCons (eVar 1) (aCons (eBin fDiv (eVar 0) (eVar 2)) aNil))) aNil)))))
noncomputable def r__law_polynomial : FC := runF 1 6 b__law_polynomial
/-! _law_parts -/
noncomputable def b__law_parts : EvS := (sRet (eCB cTuple (aCons (eSl (eBin fAdd (eBin fIx (eCall 2 (apart r__law_divided) (aCons (eVar 0) (aCons (eCall 1 (apart r__law_polynomial) (aCons (eVar 1) aNil)) aNil))) (eC (.int 1))) (eBin fMul (eLst (aCons (eC (.int 0)) aNil)) (eC (.int 120)))) oNo (oAt (eCall 1 (apart r__law_degree) (aCons (eVar 1) aNil)))) aNil)))
noncomputable def r__law_parts : FC := runF 2 2 b__law_parts
/-! _law_down -/
noncomputable def b__law_down : EvS := (sSeq (sAsg (eTup (aCons (eBin fDiv (eVar 1) (eVar 2)) (aCons (eBin fMul (eLst (aCons (eC (.int 0)) aNil)) (eBin fDiv (eVar 1) (eVar 2))) aNil))) (gT 2 (gsCons (gN 3) (gsCons (gN 4) gsNil)))) (sSeq (sIf (toB (eBin fEq (eBin fMod (eCB cInt (aCons (eVar 3) aNil)) (eVar 2)) (eC (.int 0)))) (sSeq (sFor 1000 (iR1 (aCons (eVar 3) aNil)) (gN 5) (sAsg (eBin fMul (eVar 2) (eBin fIx (eVar 0) (eBin fMul (eVar 2) (eVar 5)))) (gSb (eVar 4) (eVar 5)))) (sRet (eTup (aCons (eVar 4) (aCons (eVar 2) aNil))))) sNext) (sSeq (sFor 1000 (iR1 (aCons (eVar 1) aNil)) (gN 5) (sIf (toB (eBin fNe (eBin fIx (eVar 0) (eVar 5)) (eC (.int 0)))) (sSeq (sSet 6 (eBin fIx (eLc 1000 [6] (iR1 (aCons (eVar 3) aNil)) (gN 6) (toB (eBin fEq (eBin fMod (eCB cInt (aCons (eBin fSub (eBin fMul (eVar 6) (eVar 2)) (eVar 5)) aNil)) (eVar 3)) (eC (.int 0)))) (eVar 6)) (eC (.int 0)))) (sAsg (eBin fAdd (eBin fIx (eVar 4) (eVar 6)) (eBin fMul (eBin fIx (eVar 0) (eVar 5)) (eIf (toB (eBin fEq (eBin fMod (eCB cInt (aCons (eVar 5) aNil)) (eVar 2)) (eC (.int 0)))) (eBin fSub (eVar 2) (eC (.int 1))) (eBin fSub (eC (.int 0)) (eC (.int 1)))))) (gSb (eVar 4) (eVar 6)))) sNext)) (sRet (eTup (aCons (eVar 4) (aCons (eBin fSub (eVar 2) (eC (.int 1))) aNil)))))))
noncomputable def r__law_down : FC := runF 3 7 b__law_down
/-! _law_lifted -/
noncomputable def b__law_lifted : EvS := (sSeq (sSet 3 (eBin fMul (eLst (aCons (eC (.int 0)) aNil)) (eVar 2))) (sSeq (sFor 1000 (iR1 (aCons (eVar 1) aNil)) (gN 4) (sAsg (eBin fIx (eVar 0) (eVar 4)) (gSb (eVar 3) (eBin fMul (eVar 4) (eBin fDiv (eVar 2) (eVar 1)))))) (sRet (eVar 3))))
noncomputable def r__law_lifted : FC := runF 3 5 b__law_lifted
/-! _law_form -/
noncomputable def b__law_form : EvS := (sSeq (sPar 0 3 (aCons (eCB cList (aCons (eVar 0) aNil)) (aCons (eC (.bl true)) aNil))) (sSeq (sFor 1000 (iR1 (aCons (eC (.int 8)) aNil)) (gN 4) (sIf (bTru (eVar 3)) (sSeq (sSet 3 (eC (.bl false))) (sFor 1000 (iSq (eCall 1 (apart r__law_primes) (aCons (eVar 2) aNil))) (gN 5) (sSeq (sAsg (eIf (bNot (bTru (eVar 3))) (eCall 3 (apart r__law_down) (aCons (eVar 0) (aCons (eVar 2) (aCons (eVar 5) aNil)))) (eTup (aCons (eLst aNil) (aCons (eC (.int 0)) aNil)))) (gT 2 (gsCons (gN 6) (gsCons (gN 7) gsNil)))) (sIf (bAnd (bNot (bTru (eVar 3))) (toB (eBin fEq (eCall 2 (apart r__law_parts) (aCons (eCall 3 (apart r__law_lifted) (aCons (eVar 6) (aCons (eBin fDiv (eVar 2) (eVar 5)) (aCons (eVar 2) aNil)))) (aCons (eVar 2) aNil))) (eCB cTuple (aCons (eLc 1000 [8] (iSq (eCall 2 (apart r__law_parts) (aCons (eVar 0) (aCons (eVar 2) aNil)))) (gN 8) bYes (eBin fMul (eVar 7) (eVar 8))) aNil))))) (sAsg (eTup (aCons (eVar 6) (aCons (eBin fMul (eVar 1) (eVar 7)) (aCons (eBin fDiv (eVar 2) (eVar 5)) (aCons (eC (.bl true)) aNil))))) (gT 4 (gsCons (gN 0) (gsCons (gN 1) (gsCons (gN 2) (gsCons (gN 3) gsNil)))))) sNext)))) sNext)) (sRet (eTup (aCons (eVar 2) (aCons (eCB cTuple (aCons (eLc 1000 [8] (iSq (eCall 2 (apart r__law_parts) (aCons (eVar 0) (aCons (eVar 2) aNil)))) (gN 8) bYes (eCall 2 (apart r__law_fraction) (aCons (eVar 8) (aCons (eVar 1) aNil)))) aNil)) aNil))))))
noncomputable def r__law_form : FC := runF 3 9 b__law_form
/-! _law_row -/
noncomputable def b__law_row : EvS := (sSeq (sPar 2 3 (aCons (eC (.int 1)) (aCons (eBin fMul (eLst (aCons (eC (.int 0)) aNil)) (eVar 1)) aNil))) (sSeq (sFor 1000 (iSq (eBin fIx (eVar 0) (eC (.int 1)))) (gT 2 (gsCons (gN 4) (gsCons (gN 5) gsNil))) (sSet 2 (eBin fMul (eVar 2) (eBin fDiv (eVar 5) (eCall 2 (apart gcdF) (aCons (eVar 2) (aCons (eVar 5) aNil))))))) (sSeq (sFor 1000 (iR1 (aCons (eCB cLen (aCons (eBin fIx (eVar 0) (eC (.int 1))) aNil)) aNil)) (gN 6) (sAsg (eBin fMul (eBin fIx (eBin fIx (eBin fIx (eVar 0) (eC (.int 1))) (eVar 6)) (eC (.int 0))) (eBin fDiv (eVar 2) (eBin fIx (eBin fIx (eBin fIx (eVar 0) (eC (.int 1))) (eVar 6)) (eC (.int 1))))) (gSb (eVar 3) (eBin fMul (eVar 6) (eBin fDiv (eVar 1) (eBin fIx (eVar 0) (eC (.int 0)))))))) (sRet (eTup (aCons (eVar 3) (aCons (eVar 2) aNil)))))))
noncomputable def r__law_row : FC := runF 2 7 b__law_row
/-! _law_both -/
noncomputable def b__law_both : EvS := (sRet (eBin fMul (eVar 0) (eBin fDiv (eVar 1) (eCall 2 (apart gcdF) (aCons (eVar 0) (aCons (eVar 1) aNil))))))
noncomputable def r__law_both : FC := runF 2 2 b__law_both
/-! _law_added -/
noncomputable def b__law_added : EvS := (sSeq (sSet 3 (eCall 2 (apart r__law_both) (aCons (eBin fIx (eVar 0) (eC (.int 0))) (aCons (eBin fIx (eVar 1) (eC (.int 0))) aNil)))) (sSeq (sAsg (eCall 2 (apart r__law_row) (aCons (eVar 0) (aCons (eVar 3) aNil))) (gT 2 (gsCons (gN 4) (gsCons (gN 5) gsNil)))) (sSeq (sAsg (eCall 2 (apart r__law_row) (aCons (eVar 1) (aCons (eVar 3) aNil))) (gT 2 (gsCons (gN 6) (gsCons (gN 7) gsNil)))) (sRet (eCall 3 (apart r__law_form) (aCons (eLc 1000 [8] (iR1 (aCons (eVar 3) aNil)) (gN 8) bYes (eBin fAdd (eBin fMul (eBin fIx (eVar 4) (eVar 8)) (eVar 7)) (eBin fMul (eBin fMul (eVar 2) (eBin fIx (eVar 6) (eVar 8))) (eVar 5)))) (aCons (eBin fMul (eVar 5) (eVar 7)) (aCons (eVar 3) aNil))))))))
noncomputable def r__law_added : FC := runF 3 9 b__law_added
/-! _law_scaled -/
noncomputable def b__law_scaled : EvS := (sSeq (sIf (toB (eBin fEq (eBin fIx (eVar 1) (eC (.int 0))) (eC (.int 0)))) (sRet (eTup (aCons (eC (.int 1)) (aCons (eTup (aCons (eTup (aCons (eC (.int 0)) (aCons (eC (.int 1)) aNil))) aNil)) aNil)))) sNext) (sRet (eTup (aCons (eBin fIx (eVar 0) (eC (.int 0))) (aCons (eCB cTuple (aCons (eLc 1000 [2, 3] (iSq (eBin fIx (eVar 0) (eC (.int 1)))) (gT 2 (gsCons (gN 2) (gsCons (gN 3) gsNil))) bYes (eCall 2 (apart r__law_fraction) (aCons (eBin fMul (eVar 2) (eBin fIx (eVar 1) (eC (.int 0)))) (aCons (eBin fMul (eVar 3) (eBin fIx (eVar 1) (eC (.int 1)))) aNil)))) aNil)) aNil)))))
noncomputable def r__law_scaled : FC := runF 2 4 b__law_scaled
/-! _law_root -/
noncomputable def b__law_root : EvS := (sSeq (sSet 2 (eBin fMul (eLst (aCons (eC (.int 0)) aNil)) (eVar 0))) (sSeq (sAsg (eC (.int 1)) (gSb (eVar 2) (eBin fMod (eCB cInt (aCons (eVar 1) aNil)) (eVar 0)))) (sRet (eCall 3 (apart r__law_form) (aCons (eVar 2) (aCons (eC (.int 1)) (aCons (eVar 0) aNil)))))))
noncomputable def r__law_root : FC := runF 2 3 b__law_root
/-! _law_right -/
noncomputable def p__law_right_1 : EvS := (sSeq (sSet 10 (eCall 2 r__law_of (aCons (eVar 0) (aCons (eTup (aCons (eC (.int 3)) (aCons (eC (.int 5)) (aCons (eC (.int 7)) aNil)))) aNil)))) (sSeq (sSet 11 (eTup (aCons (eC (.int 1)) (aCons (eTup (aCons (eTup (aCons (eC (.int 0)) (aCons (eC (.int 1)) aNil))) aNil)) aNil)))) (sSeq (sFor 1000 (iR1 (aCons (eVar 10) aNil)) (gN 7) (sSet 11 (eCall 2 (apart r_added) (aCons (eVar 11) (aCons (eCall 2 (apart r_root) (aCons (eVar 10) (aCons (eBin fMul (eVar 7) (eVar 7)) aNil))) aNil))))) (sSeq (sSet 12 (eCall 2 (apart r_times) (aCons (eVar 5) (aCons (eVar 11) aNil)))) (sSeq (sSet 13 (eBin fMul (eVar 8) (eIf (toB (eBin fEq (eBin fMod (eCB cInt (aCons (eVar 10) aNil)) (eC (.int 4))) (eC (.int 1)))) (eC (.int 1)) (eBin fSub (eC (.int 0)) (eC (.int 1)))))) (sSeq (sIf (bNot (bTru (eCall 2 (apart (r__law_same 6)) (aCons (eTup (aCons (eCall 2 (apart r_times) (aCons (eVar 12) (aCons (eVar 12) aNil))) (aCons (eIf (toB (eBin fEq (eVar 10) (eVar 4))) (eVar 12) (eBin fIx (eVar 12) (eC (.int 0)))) aNil))) (aCons (eTup (aCons (eTup (aCons (eC (.int 1)) (aCons (eTup (aCons (eTup (aCons (eBin fMul (eBin fMul (eVar 13) (eVar 4)) (eVar 10)) (aCons (eC (.int 1)) aNil))) aNil)) aNil))) (aCons (eIf (toB (eBin fEq (eVar 10) (eVar 4))) (eTup (aCons (eC (.int 1)) (aCons (eTup (aCons (eTup (aCons (eBin fMul (eVar 8) (eVar 4)) (aCons (eC (.int 1)) aNil))) aNil)) aNil))) (eBin fMul (eVar 4) (eVar 10))) aNil))) aNil))))) (sRet (eC (.bl false))) sNext) (sSeq (sSet 14 (eCall 2 (apart r_scaled) (aCons (eCall 2 (apart r_added) (aCons (eVar 5) (aCons (eTup (aCons (eC (.int 1)) (aCons (eTup (aCons (eTup (aCons (eC (.int 1)) (aCons (eC (.int 1)) aNil))) aNil)) aNil))) aNil))) (aCons (eTup (aCons (eC (.int 1)) (aCons (eC (.int 2)) aNil))) aNil)))) (sSeq (sSet 15 (eCall 2 (apart r__law_scaled) (aCons (eCall 3 (apart r__law_added) (aCons (eTup (aCons (eC (.int 1)) (aCons (eTup (aCons (eTup (aCons (eBin fSub (eBin fMul (eVar 8) (eVar 4)) (eC (.int 1))) (aCons (eC (.int 1)) aNil))) aNil)) aNil))) (aCons (eTup (aCons (eC (.int 1)) (aCons (eTup (aCons (eTup (aCons (eC (.int 0)) (aCons (eC (.int 1)) aNil))) aNil)) aNil))) (aCons (eC (.int 1)) aNil)))) (aCons (eTup (aCons (eC (.int 1)) (aCons (eC (.int 4)) aNil))) aNil)))) (sIf (bNot (bTru (eCall 2 (apart (r__law_same 6)) (aCons (eCall 2 (apart r_less) (aCons (eCall 2 (apart r_times) (aCons (eVar 14) (aCons (eVar 14) aNil))) (aCons (eVar 14) aNil))) (aCons (eVar 15) aNil))))) (sRet (eC (.bl false))) sNext)))))))))
noncomputable def p__law_right_2 : EvS := (sSeq (sSet 4 (eCall 2 r__law_of (aCons (eVar 0) (aCons (eTup (aCons (eC (.int 3)) (aCons (eC (.int 5)) (aCons (eC (.int 7)) (aCons (eC (.int 11)) (aCons (eC (.int 13)) aNil)))))) aNil)))) (sSeq (sAsg (eTup (aCons (eTup (aCons (eC (.int 1)) (aCons (eTup (aCons (eTup (aCons (eC (.int 0)) (aCons (eC (.int 1)) aNil))) aNil)) aNil))) (aCons (eLc 1000 [7] (iR2 (aCons (eC (.int 1)) (aCons (eVar 4) aNil))) (gN 7) bYes (eBin fMod (eCB cInt (aCons (eBin fMul (eVar 7) (eVar 7)) aNil)) (eVar 4))) aNil))) (gT 2 (gsCons (gN 5) (gsCons (gN 6) gsNil)))) (sSeq (sFor 1000 (iR1 (aCons (eVar 4) aNil)) (gN 7) (sSet 5 (eCall 2 (apart r_added) (aCons (eVar 5) (aCons (eCall 2 (apart r_root) (aCons (eVar 4) (aCons (eBin fMul (eVar 7) (eVar 7)) aNil))) aNil))))) (sSeq (sSet 8 (eIf (toB (eBin fEq (eBin fMod (eCB cInt (aCons (eVar 4) aNil)) (eC (.int 4))) (eC (.int 1)))) (eC (.int 1)) (eBin fSub (eC (.int 0)) (eC (.int 1))))) (sSeq (sIf (bNot (bTru (eCall 2 (apart (r__law_same 6)) (aCons (eTup (aCons (eCall 2 (apart r_times) (aCons (eVar 5) (aCons (eVar 5) aNil))) (aCons (eCall 1 (apart r_is_real) (aCons (eVar 5) aNil)) (aCons (eCall 1 (apart r_turned_back) (aCons (eVar 5) aNil)) (aCons (eBin fIx (eVar 5) (eC (.int 0))) aNil))))) (aCons (eTup (aCons (eTup (aCons (eC (.int 1)) (aCons (eTup (aCons (eTup (aCons (eBin fMul (eVar 8) (eVar 4)) (aCons (eC (.int 1)) aNil))) aNil)) aNil))) (aCons (eBin fEq (eVar 8) (eC (.int 1))) (aCons (eCall 2 (apart r_scaled) (aCons (eVar 5) (aCons (eTup (aCons (eVar 8) (aCons (eC (.int 1)) aNil))) aNil))) (aCons (eVar 4) aNil))))) aNil))))) (sRet (eC (.bl false))) sNext) (sSeq (sIf (bNot (bTru (eCall 2 (apart (r__law_same 6)) (aCons (eTup (aCons (eCB cLen (aCons (eCall 1 (apart r_kin) (aCons (eVar 5) aNil)) aNil)) (aCons (eCall 1 (apart r_trace) (aCons (eVar 5) aNil)) (aCons (eBin fIn (eCall 2 (apart r_scaled) (aCons (eVar 5) (aCons (eTup (aCons (eBin fSub (eC (.int 0)) (eC (.int 1))) (aCons (eC (.int 1)) aNil))) aNil))) (eCall 1 (apart r_kin) (aCons (eVar 5) aNil))) (aCons (eCall 1 (apart r_is_number) (aCons (eVar 5) aNil)) aNil))))) (aCons (eTup (aCons (eC (.int 2)) (aCons (eTup (aCons (eC (.int 0)) (aCons (eC (.int 1)) aNil))) (aCons (eC (.bl true)) (aCons (eC (.bl true)) aNil))))) aNil))))) (sRet (eC (.bl false))) sNext) (sSeq (sSet 9 (eTup (aCons (eC (.int 1)) (aCons (eTup (aCons (eTup (aCons (eC (.int 0)) (aCons (eC (.int 1)) aNil))) aNil)) aNil)))) (sSeq (sFor 1000 (iR2 (aCons (eC (.int 1)) (aCons (eVar 4) aNil))) (gN 7) (sSet 9 (eIf (toB (eBin fIn (eVar 7) (eVar 6))) (eCall 2 (apart r_added) (aCons (eVar 9) (aCons (eCall 2 (apart r_root) (aCons (eVar 4) (aCons (eVar 7) aNil))) aNil))) (eCall 2 (apart r_less) (aCons (eVar 9) (aCons (eCall 2 (apart r_root) (aCons (eVar 4) (aCons (eVar 7) aNil))) aNil)))))) (sSeq (sIf (bNot (bTru (eCall 2 (apart (r__law_same 6)) (aCons (eTup (aCons (eVar 9) (aCons (eVar 5) aNil))) (aCons (eTup (aCons (eVar 5) (aCons (eTup (aCons (eVar 4) (aCons (eCB cTuple (aCons (eLc 1000 [7] (iR1 (aCons (eBin fSub (eVar 4) (eC (.int 1))) aNil)) (gN 7) bYes (eTup (aCons (eBin fAdd (eBin fSub (eIf (toB (eBin fIn (eVar 7) (eVar 6))) (eC (.int 2)) (eC (.int 0))) (eIf (toB (eBin fIn (eBin fSub (eVar 4) (eC (.int 1))) (eVar 6))) (eC (.int 2)) (eC (.int 0)))) (eIf (toB (eBin fEq (eVar 7) (eC (.int 0)))) (eC (.int 1)) (eC (.int 0)))) (aCons (eC (.int 1)) aNil)))) aNil)) aNil))) aNil))) aNil))))) (sRet (eC (.bl false))) sNext) (sSub 0 p__law_right_1))))))))))
noncomputable def b__law_right : EvS := (sSeq (sFor 1000 (iR1 (aCons (eC (.int 2)) aNil)) (gN 1) (sSub 0 p__law_right_2)) (sSeq (sSet 2 (eCall 2 (apart r_added) (aCons (eCall 2 (apart r_root) (aCons (eC (.int 8)) (aCons (eC (.int 1)) aNil))) (aCons (eCall 2 (apart r_root) (aCons (eC (.int 8)) (aCons (eC (.int 7)) aNil))) aNil)))) (sSeq (sSet 3 (eCall 2 (apart r_less) (aCons (eCall 2 (apart r_root) (aCons (eC (.int 12)) (aCons (eC (.int 1)) aNil))) (aCons (eCall 2 (apart r_root) (aCons (eC (.int 12)) (aCons (eC (.int 7)) aNil))) aNil)))) (sRet (eCall 2 (apart (r__law_same 6)) (aCons (eTup (aCons (eCall 2 (apart r_times) (aCons (eVar 2) (aCons (eVar 2) aNil))) (aCons (eCall 1 (apart r_trace) (aCons (eVar 2) aNil)) (aCons (eBin fIx (eCall 2 (apart r_added) (aCons (eCall 2 (apart r_root) (aCons (eC (.int 12)) (aCons (eC (.int 1)) aNil))) (aCons (eCall 2 (apart r_root) (aCons (eC (.int 12)) (aCons (eC (.int 11)) aNil))) aNil))) (eC (.int 0))) (aCons (eCall 2 (apart r_times) (aCons (eVar 3) (aCons (eVar 3) aNil))) aNil))))) (aCons (eTup (aCons (eTup (aCons (eC (.int 1)) (aCons (eTup (aCons (eTup (aCons (eC (.int 2)) (aCons (eC (.int 1)) aNil))) aNil)) aNil))) (aCons (eTup (aCons (eC (.int 0)) (aCons (eC (.int 1)) aNil))) (aCons (eC (.int 12)) (aCons (eCall 2 (apart r__law_scaled) (aCons (eCall 2 (apart r__law_root) (aCons (eC (.int 6)) (aCons (eC (.int 1)) aNil))) (aCons (eTup (aCons (eC (.int 4)) (aCons (eC (.int 1)) aNil))) aNil))) aNil))))) aNil)))))))
noncomputable def r__law_right : FC := runF 1 16 b__law_right
/-! law -/
noncomputable def b_law : EvS := (sRet (eCB cAll (aCons (eLc 1000 [1] (iR1 (aCons (eCB cMax (aCons (eC (.int 1)) (aCons (eCB cMin (aCons (eCB cLen (aCons (eVar 0) aNil)) (aCons (eC (.int 3)) aNil))) aNil))) aNil)) (gN 1) bYes (eCall 1 (lend r__law_right) (aCons (eCall 2 (apartR r__law_bowl) (aCons (eVar 0) (aCons (eVar 1) aNil))) aNil))) aNil)))
noncomputable def r_law : FC := runF 1 2 b_law
end Sm
/-! Lb: the law's own defs: gcd, draws, the bowl, a def that changes the list it is given, all(..) of the laps -/
namespace Sm
open PySem PySem.Spec PyProof.Rows L2
section
variable {K : PySem.W.Frag} {f : FC} {vs : List V} {H : Hp} {Q : VK} {E : XK}
theorem spR_lend (h : spR K 1 (lend f) vs H Q E) : spR K 1 f vs H Q E := by
  obtain ⟨ρ, ws, c, hr, rx, hn, g⟩ := h
  match ws, rx, hn, g with
  | [w0], .cons (v := v0) r0 .nil, _, g =>
    cases r0 with
    | @ref n a hρ =>
      have g : Got K (Rp K) (match c.get n with
        | some xs => match xs.all (flat 9) with
          | true => match f [.ref 0] (Ch.nil.push xs) with
            | .ok w c2 => match flat 9 w with
              | true => match c2.get 0 with
                | some us => match us.all (flat 9) with
                  | true => .ok w (c.set n us)
                  | false => .no
                | none => .no
              | false => .no
            | .no => .no
          | false => .no
        | none => .no) ρ H Q := g
      cases e1 : c.get n with
      | none => simp only [e1] at g; exact g.elim
      | some xs =>
        cases e2 : xs.all (flat 9) with
        | false => simp only [e1, e2] at g; exact g.elim
        | true =>
          cases e3 : f [.ref 0] (Ch.nil.push xs) with
          | no => simp only [e1, e2, e3] at g; exact g.elim
          | ok w c2 =>
            cases e4 : flat 9 w with
            | false => simp only [e1, e2, e3, e4] at g; exact g.elim
            | true =>
              cases e5 : c2.get 0 with
              | none => simp only [e1, e2, e3, e4, e5] at g; exact g.elim
              | some us =>
                cases e6 : us.all (flat 9) with
                | false => simp only [e1, e2, e3, e4, e5, e6] at g; exact g.elim
                | true =>
                  simp only [e1, e2, e3, e4, e5, e6] at g
                  obtain ⟨a', zs, z, hn, ha, rl⟩ := hr.lst (.ref hρ) e1
                  cases z
                  refine ⟨[a], [.ref 0], Ch.nil.push xs, one_rel e2 ha rl, .cons (.ref rfl) .nil, rfl, ?_⟩
                  rw [e3]
                  intro v H' ρ0 po hr0 rv
                  obtain ⟨po2, hr2⟩ := sub_back hr hρ po hr0 e5 e6
                  exact g v H' ρ po2 hr2 (flat_rp 9 w v e4 rv)
    | _ => exact g.elim
end
theorem Has.lend {P : Program} {w : World} {K : PySem.W.Frag} {mg : Str → Option Value} {base : Heap} {k : Nat} {x : Str} {f : FC} (h : Has P w K mg base k x 1 f) : Has P w K mg base k x 1 (Sm.lend f) := by
  obtain ⟨CX, fa, fd, ps, F, r⟩ := h.ex
  exact ⟨⟨CX, fa, fd, ps, F.imp fun vs H Q E => spR_lend, r⟩⟩

/-! K01p1 -/
/-! the law's gcd -/
noncomputable abbrev gBody : EvS := (sAsg (eIf (toB (eBin fGt (eVar 1) (eC (.int 0)))) (eTup (aCons (eVar 1) (aCons (eBin fMod (eCB cInt (aCons (eVar 0) aNil)) (eVar 1)) aNil))) (eTup (aCons (eVar 0) (aCons (eC (.int 0)) aNil)))) (gT 2 (gsCons (gN 0) (gsCons (gN 1) gsNil))))
theorem gBody_pos (a b : Nat) (o : Option W) (c : Ch) : gBody [some (.int a), some (.int ((b + 1 : Nat) : Int)), o] c = .nx [some (.int ((b + 1 : Nat) : Int)), some (.int ((a % (b + 1) : Nat) : Int)), o] c := rfl
theorem gBody_zero (a : Nat) (o : Option W) (c : Ch) : gBody [some (.int a), some (.int ((0 : Nat) : Int)), o] c = .nx [some (.int a), some (.int 0), o] c := rfl
theorem gLoop : ∀ (m i a b : Nat) (o : Option W) (c : Ch), i + m = 400 → b ≤ m → ∃ o', loopS (.rng 0 400) (gN 2) gBody (600 + m) i [some (.int a), some (.int b), o] c = .nx [some (.int (Nat.gcd a b : Nat)), some (.int 0), o'] c
  | 0, i, a, b, o, c, hi, hb => by
    have e : i = 400 := by omega
    have e2 : b = 0 := by omega
    subst e e2
    exact ⟨o, by rw [Nat.gcd_zero_right, show 600 + 0 = 599 + 1 from rfl, loopS_succ]; rfl⟩
  | m + 1, i, a, b, o, c, hi, hb => by
    have e : Nat.blt i 400 = true := by rw [Nat.blt_eq]; omega
    have step : ∀ ω2, gBody [some (.int a), some (.int b), some (.int (0 + (i : Nat)))] c = .nx ω2 c → loopS (.rng 0 400) (gN 2) gBody (600 + (m + 1)) i [some (.int a), some (.int b), o] c = loopS (.rng 0 400) (gN 2) gBody (600 + m) (i + 1) ω2 c := by
      intro ω2 h
      rw [show 600 + (m + 1) = (600 + m) + 1 from rfl, loopS_succ]
      have es : stepS (.rng 0 400) i c = .item (.int (0 + (i : Nat))) := by
        show (match Nat.blt i 400 with | true => SR.item (.int (0 + (i : Nat))) | false => .stop) = _
        rw [e]
      rw [es]
      show (match gBody [some (.int a), some (.int b), some (.int (0 + (i : Nat)))] c with
            | .nx ω2 c2 => loopS (.rng 0 400) (gN 2) gBody (600 + m) (i + 1) ω2 c2
            | .ct ω2 c2 => loopS (.rng 0 400) (gN 2) gBody (600 + m) (i + 1) ω2 c2
            | .bk ω2 c2 => .nx ω2 c2
            | .rt w c2 => .rt w c2
            | .no => .no) = _
      rw [h]
    cases b with
    | zero =>
      obtain ⟨o', h⟩ := gLoop m (i + 1) a 0 (some (.int (0 + (i : Nat)))) c (by omega) (by omega)
      exact ⟨o', by rw [step _ (gBody_zero a _ c)]; exact h⟩
    | succ b =>
      have hm : a % (b + 1) < b + 1 := Nat.mod_lt _ (Nat.succ_pos b)
      obtain ⟨o', h⟩ := gLoop m (i + 1) (b + 1) (a % (b + 1)) (some (.int (0 + (i : Nat)))) c (by omega) (by omega)
      refine ⟨o', ?_⟩
      rw [step _ (gBody_pos a b _ c), h]
      congr 4
      rw [Nat.gcd_comm a (b + 1), Nat.gcd_comm (b + 1)]
      exact congrArg _ (Nat.gcd_rec (b + 1) a).symm
theorem gcd_imp (ws : List W) (c : Ch) (x : W) (c' : Ch) (h : gcdF ws c = .ok x c') : r__law_gcd ws c = .ok x c' := by
  unfold gcdF at h
  split at h
  · rename_i a b
    cases e : Nat.blt b 400 with
    | false => rw [e] at h; cases h
    | true =>
      rw [e] at h
      cases h
      have hb : b < 400 := by rw [Nat.blt_eq] at e; exact e
      obtain ⟨o', hl⟩ := gLoop 400 0 a b none c rfl (Nat.le_of_lt hb)
      have hq : b__law_gcd [some (.int a), some (.int b), none] c = .rt (.int (Nat.gcd a b : Nat)) c := by
        have hi : iR1 (aCons (eC (.int 400)) aNil) [some (.int a), some (.int b), none] c = .ok (.rng 0 400) c := rfl
        have hf : sFor 1000 (iR1 (aCons (eC (.int 400)) aNil)) (gN 2) gBody [some (.int a), some (.int b), none] c = .nx [some (.int (Nat.gcd a b : Nat)), some (.int 0), o'] c := by
          unfold sFor
          rw [hi]
          exact hl
        unfold b__law_gcd sSeq
        rw [hf]
        rfl
      show (match b__law_gcd [some (.int a), some (.int b), none] c with
        | .rt w c1 => R.ok w c1
        | .nx _ c1 => .ok .non c1
        | _ => .no) = _
      rw [hq]
  · cases h

/-! K01p2 -/
/-! runs, step by step -/
section
variable {a b e : Ev} {f : F2} {g : FC} {ω ω1 : Sl} {c c1 c2 : Ch} {x y w : W} {r : R W} {i n : Nat} {tg : EvG} {s t : EvS} {q : RS} {ts : EvB} {k : Bool} {xs : List W} {ra : EvA}
theorem r_bin (h1 : a ω c = .ok x c1) (h2 : b ω c1 = .ok y c2) (h3 : f x y c2 = r) : eBin f a b ω c = r := by
  unfold eBin
  rw [h1]
  show (b ω c1).bind _ = _
  rw [h2]
  exact h3
theorem r_one (h1 : a ω c = .ok x c1) : aCons a aNil ω c = .ok [x] c1 := by
  unfold aCons
  rw [h1]
  rfl
theorem r_cons (h1 : a ω c = .ok x c1) (h2 : ra ω c1 = .ok xs c2) : aCons a ra ω c = .ok (x :: xs) c2 := by
  unfold aCons
  rw [h1]
  show (ra ω c1).bind _ = _
  rw [h2]
  rfl
theorem r_cb (h1 : ra ω c = .ok xs c1) (h2 : g xs c1 = r) : eCB g ra ω c = r := by
  unfold eCB
  rw [h1]
  exact h2
theorem r_call (h1 : ra ω c = .ok xs c1) (h0 : Nat.beq xs.length n = true) (h2 : g xs c1 = r) : eCall n g ra ω c = r := by
  unfold eCall
  rw [h1]
  show (match Nat.beq xs.length n with | true => g xs c1 | false => .no) = r
  rw [h0]
  exact h2
theorem r_asg (h1 : e ω c = .ok w c1) (h2 : tg w ω c1 = .ok ω1 c2) : sAsg e tg ω c = .nx ω1 c2 := by
  unfold sAsg
  rw [h1]
  show (tg w ω c1).run _ = _
  rw [h2]
  rfl
theorem r_set (h1 : e ω c = .ok w c1) : sSet i e ω c = .nx (setK (some w) ω i) c1 := by
  unfold sSet
  rw [h1]
  rfl
theorem r_seq (h1 : s ω c = .nx ω1 c1) (h2 : t ω1 c1 = q) : sSeq s t ω c = q := by
  unfold sSeq
  rw [h1]
  exact h2
theorem r_seqR (h1 : s ω c = .rt w c1) : sSeq s t ω c = .rt w c1 := by
  unfold sSeq
  rw [h1]
theorem r_ret (h1 : e ω c = .ok w c1) : sRet e ω c = .rt w c1 := by
  unfold sRet
  rw [h1]
  rfl
theorem r_ift (h1 : ts ω c = .ok true c1) (h2 : s ω c1 = q) : sIf ts s t ω c = q := by
  unfold sIf
  rw [h1]
  exact h2
theorem r_iff (h1 : ts ω c = .ok false c1) (h2 : t ω c1 = q) : sIf ts s t ω c = q := by
  unfold sIf
  rw [h1]
  exact h2
theorem r_toB (h1 : e ω c = .ok (.bl k) c1) : toB e ω c = .ok k c1 := by
  unfold toB
  rw [h1]
  rfl
end
theorem mul_lit {i j : Int} (c : Ch) (h : Nat.blt j.natAbs 18446744073709551616 = true) : fMul (.int i) (.int j) c = .ok (.int (i * j)) c := by
  have e : mulC i j = true := by
    unfold mulC
    rw [h, Bool.or_true]
  have e1 : fMulI (.int i) (.int j) c = .ok (.int (i * j)) c := by
    show (match mulC i j with | true => R.ok (W.int (i * j)) c | false => .no) = _
    rw [e]
  show (match fMulI (.int i) (.int j) c with | .ok w c' => R.ok w c' | .no => _) = _
  rw [e1]
/-! a draw: from the bowl at the small heap's 0 -/
noncomputable abbrev c0 (far stir : Int) : Ch := Ch.nil.push [W.int far, W.int stir]
theorem d_ix0 (far stir : Int) (x y : Option W) : eBin fIx (eVar 0) (eC (.int 0)) [some (.ref 0), x, y] (c0 far stir) = .ok (.int far) (c0 far stir) := rfl
theorem d_ix1 (far stir : Int) (x y : Option W) : eBin fIx (eVar 0) (eC (.int 1)) [some (.ref 0), x, y] (c0 far stir) = .ok (.int stir) (c0 far stir) := rfl
noncomputable def stirA (s : Int) : Int := (s * 36969 + 19) % 2147483423
noncomputable def stirB (s : Int) : Int := (s * 18000 + s / 6263) % 2147483423
theorem draw_rest (far stir m : Int) (y : Option W) (hm : ilt 0 m = true) :
    (sSeq (sAsg (eBin fMod (eCB cInt (aCons (eBin fAdd (eBin fMul (eBin fIx (eVar 0) (eC (.int 1))) (eC (.int 36969))) (eC (.int 19))) aNil)) (eC (.int 2147483423))) (gSb (eVar 0) (eC (.int 1)))) (sSeq (sAsg (eBin fMod (eCB cInt (aCons (eBin fAdd (eBin fMul (eBin fIx (eVar 0) (eC (.int 1))) (eC (.int 18000))) (eBin fDiv (eBin fIx (eVar 0) (eC (.int 1))) (eC (.int 6263)))) aNil)) (eC (.int 2147483423))) (gSb (eVar 0) (eC (.int 1)))) (sRet (eBin fMod (eCB cInt (aCons (eBin fDiv (eBin fIx (eVar 0) (eC (.int 1))) (eC (.int 907))) aNil)) (eVar 1)))))
      [some (.ref 0), some (.int m), y] (c0 far stir) = .rt (.int (stirB (stirA stir) / 907 % m)) (c0 far (stirB (stirA stir))) :=
  r_seq (c1 := c0 far (stirA stir)) (r_asg (r_bin (r_cb (r_one (r_bin (r_bin (d_ix1 _ _ _ _) rfl (mul_lit _ rfl)) rfl rfl)) rfl) rfl rfl) rfl)
    (r_seq (c1 := c0 far (stirB (stirA stir))) (r_asg (r_bin (r_cb (r_one (r_bin (r_bin (d_ix1 _ _ _ _) rfl (mul_lit _ rfl)) (r_bin (d_ix1 _ _ _ _) rfl rfl) rfl)) rfl) rfl rfl) rfl)
      (r_ret (r_bin (r_cb (r_one (r_bin (d_ix1 _ _ _ _) rfl rfl)) rfl) rfl (by
        show (match ilt 0 m with | true => R.ok (W.int (stirB (stirA stir) / 907 % m)) _ | false => .no) = _
        rw [hm]))))
theorem draw_run (far stir m : Int) (hm : ilt 0 m = true) (hM : ilt m 1073741824 = true) : b__law_draw [some (.ref 0), some (.int m), none] (c0 far stir) =
    (match ilt 0 far with | true => .rt (.int (far % m)) (c0 (far / m) stir) | false => .rt (.int (stirB (stirA stir) / 907 % m)) (c0 far (stirB (stirA stir)))) := by
  have ht : toB (eBin fGt (eBin fIx (eVar 0) (eC (.int 0))) (eC (.int 0))) [some (.ref 0), some (.int m), none] (c0 far stir) = .ok (ilt 0 far) (c0 far stir) := rfl
  cases e : ilt 0 far with
  | true =>
    rw [e] at ht
    have hd : cDivmod [.int far, .int m] (c0 far stir) = .ok (.tup [.int (far / m), .int (far % m)]) (c0 far stir) := by
      show (match ilt 0 m && ilt m 1073741824 with | true => R.ok (W.tup [.int (far / m), .int (far % m)]) (c0 far stir) | false => .no) = _
      rw [hm, hM]
      rfl
    exact r_seqR (r_ift ht (r_seq (c1 := c0 (far / m) stir) (ω1 := [some (.ref 0), some (.int m), some (.int (far % m))]) (r_asg (r_cb (r_cons (d_ix0 _ _ _ _) (r_one rfl)) hd) rfl) (r_ret rfl)))
  | false =>
    rw [e] at ht
    exact r_seq (r_iff ht rfl) (draw_rest far stir m none hm)
theorem draw_ok (far stir m : Int) (h : 0 ≤ far) (hs : 0 ≤ stir) (hm : ilt 0 m = true) (hM : ilt m 1073741824 = true) :
    ∃ (d : Nat) (far' stir' : Int), (d : Int) < m ∧ 0 ≤ far' ∧ 0 ≤ stir' ∧ r__law_draw [.ref 0, .int m] (c0 far stir) = .ok (.int d) (c0 far' stir') := by
  have hq := draw_run far stir m hm hM
  have hp : 0 < m := by
    rw [ilt_eq] at hm
    exact of_decide_eq_true hm
  have fin : ∀ (w : W) (c : Ch), b__law_draw [some (.ref 0), some (.int m), none] (c0 far stir) = .rt w c → r__law_draw [.ref 0, .int m] (c0 far stir) = .ok w c := by
    intro w c e
    show (match b__law_draw [some (.ref 0), some (.int m), none] (c0 far stir) with
      | .rt w c1 => R.ok w c1
      | .nx _ c1 => .ok .non c1
      | _ => .no) = _
    rw [e]
  have sb : ∀ s : Int, 0 ≤ stirB s := fun s => Int.emod_nonneg _ (by decide)
  cases e : ilt 0 far with
  | true =>
    rw [e] at hq
    have h1 := Int.emod_nonneg far (Int.ne_of_gt hp)
    refine ⟨(far % m).toNat, far / m, stir, ?_, Int.ediv_nonneg h (Int.le_of_lt hp), hs, ?_⟩
    · rw [Int.toNat_of_nonneg h1]
      exact Int.emod_lt_of_pos far hp
    · rw [Int.toNat_of_nonneg h1]
      exact fin _ _ hq
  | false =>
    rw [e] at hq
    have h1 := Int.emod_nonneg (stirB (stirA stir) / 907) (Int.ne_of_gt hp)
    refine ⟨(stirB (stirA stir) / 907 % m).toNat, far, stirB (stirA stir), ?_, h, sb _, ?_⟩
    · rw [Int.toNat_of_nonneg h1]
      exact Int.emod_lt_of_pos _ hp
    · rw [Int.toNat_of_nonneg h1]
      exact fin _ _ hq
theorem of_ok (far stir : Int) (ws : List W) (h : 0 ≤ far) (hs : 0 ≤ stir) (hm : ilt 0 (lenK ws : Nat) = true) (hM : ilt (lenK ws : Nat) 1073741824 = true) :
    ∃ (d : Nat) (w : W) (far' stir' : Int), ws[d]? = some w ∧ 0 ≤ far' ∧ 0 ≤ stir' ∧ r__law_of [.ref 0, .tup ws] (c0 far stir) = .ok w (c0 far' stir') := by
  obtain ⟨d, far', stir', h1, h2, h3, h4⟩ := draw_ok far stir (lenK ws : Nat) h hs hm hM
  have hl : d < ws.length := by
    rw [lenK_eq] at h1
    omega
  obtain ⟨w, hw⟩ : ∃ w, ws[d]? = some w := ⟨_, List.getElem?_eq_getElem hl⟩
  refine ⟨d, w, far', stir', hw, h2, h3, ?_⟩
  have hb : b__law_of [some (.ref 0), some (.tup ws)] (c0 far stir) = .rt w (c0 far' stir') := by
    refine r_ret (r_bin (x := .tup ws) (y := .int d) rfl (r_call (r_cons (x := .ref 0) rfl (r_one (r_cb (r_one rfl) rfl))) rfl h4) ?_)
    show (match getK ws d with | some w => R.ok w _ | none => .no) = _
    rw [getK_eq, hw]
  show (match b__law_of [some (.ref 0), some (.tup ws)] (c0 far stir) with
    | .rt w c1 => R.ok w c1
    | .nx _ c1 => .ok .non c1
    | _ => .no) = _
  rw [hb]

/-! K01p6 -/
/-! the bowl is laid -/
noncomputable abbrev wBody : EvS := (sSet 3 (eBin fMod (eCB cInt (aCons (eBin fAdd (eBin fAdd (eBin fMul (eVar 3) (eC (.int 48989))) (eBin fMul (eBin fMod (eCB cInt (aCons (eVar 4) aNil)) (eC (.int 2147483353))) (eC (.int 3)))) (eC (.int 71))) aNil)) (eC (.int 2147483423))))
theorem wBody_ok (A B C F : Option W) (s z : Int) (c : Ch) : wBody [A, B, C, some (W.int s), some (W.int z), F] c = RS.nx [A, B, C, some (W.int ((s * 48989 + z % 2147483353 * 3 + 71) % 2147483423)), some (W.int z), F] c :=
  r_set (r_bin (r_cb (r_one (r_bin (r_bin (r_bin rfl rfl (mul_lit _ rfl)) (r_bin (r_bin (r_cb (r_one rfl) rfl) rfl rfl) rfl (mul_lit _ rfl)) rfl) rfl rfl)) rfl) rfl rfl)
theorem wLoop (ws : List W) (A B C F : Option W) (c : Ch) (hc : c.get 0 = some ws) (hi : ∀ (i : Nat) (w : W), ws[i]? = some w → ∃ z, w = .int z) : ∀ (m i : Nat) (s : Int) (o : Option W), i + m = ws.length →
    ∃ s' o', loopS (.lst 0) (gN 4) wBody (m + 1) i [A, B, C, some (.int s), o, F] c = .nx [A, B, C, some (.int s'), o', F] c
  | 0, i, s, o, h => by
    refine ⟨s, o, ?_⟩
    rw [loopS_succ]
    have e : stepS (.lst 0) i c = .stop := by
      show (match c.get 0 with | some ws => atL ws i | none => SR.no) = _
      rw [hc]
      show atL ws i = _
      unfold atL
      rw [getK_eq, List.getElem?_eq_none (by omega)]
    rw [e]
  | m + 1, i, s, o, h => by
    have hl : i < ws.length := by omega
    obtain ⟨z, hz⟩ := hi i ws[i] (List.getElem?_eq_getElem hl)
    obtain ⟨s', o', hr⟩ := wLoop ws A B C F c hc hi m (i + 1) ((s * 48989 + z % 2147483353 * 3 + 71) % 2147483423) (some (.int z)) (by omega)
    refine ⟨s', o', ?_⟩
    rw [loopS_succ]
    have e : stepS (.lst 0) i c = .item (.int z) := by
      show (match c.get 0 with | some ws => atL ws i | none => SR.no) = _
      rw [hc]
      show atL ws i = _
      unfold atL
      rw [getK_eq, List.getElem?_eq_getElem hl, hz]
    rw [e]
    show (match wBody [A, B, C, some (.int s), some (.int z), F] c with
        | .nx ω2 c2 => loopS (.lst 0) (gN 4) wBody (m + 1) (i + 1) ω2 c2
        | .ct ω2 c2 => loopS (.lst 0) (gN 4) wBody (m + 1) (i + 1) ω2 c2
        | .bk ω2 c2 => .nx ω2 c2
        | .rt w c2 => .rt w c2
        | .no => .no) = _
    rw [wBody_ok]
    exact hr
theorem loop_more {s : Src} {g : EvG} {b : EvS} : ∀ (n k i : Nat) (ω ω' : Sl) (c c' : Ch), loopS s g b n i ω c = .nx ω' c' → loopS s g b (n + k) i ω c = .nx ω' c'
  | 0, k, i, ω, ω', c, c', h => by cases h
  | n + 1, k, i, ω, ω', c, c', h => by
    rw [show n + 1 + k = (n + k) + 1 by omega, loopS_succ]
    rw [loopS_succ] at h
    cases e1 : stepS s i c with
    | stop => rw [e1] at h; exact h
    | no => rw [e1] at h; cases h
    | item w =>
      rw [e1] at h
      cases e2 : g w ω c with
      | no =>
        have h : (match g w ω c with | .no => RS.no | .ok ω1 c1 => _) = .nx ω' c' := h
        rw [e2] at h
        cases h
      | ok ω1 c1 =>
        dsimp only at h ⊢
        rw [e2] at h ⊢
        dsimp only at h ⊢
        cases e3 : b ω1 c1 with
        | nx ω2 c2 => rw [e3] at h; exact loop_more n k _ _ _ _ _ h
        | ct ω2 c2 => rw [e3] at h; exact loop_more n k _ _ _ _ _ h
        | bk ω2 c2 => rw [e3] at h; exact h
        | rt w c2 => rw [e3] at h; cases h
        | no => rw [e3] at h; cases h

/-! K01p7 -/
theorem atI_frz (zs : List Int) (l : Nat) (h : l < zs.length) : ∃ z : Int, atW (zs.map W.int) (l : Int) = some (.int z) := by
  refine ⟨zs[l], ?_⟩
  show getK (zs.map W.int) l = _
  rw [getK_eq, List.getElem?_map, List.getElem?_eq_getElem h]
  rfl
theorem own_ok (zs : List Int) (l : Nat) (o2 o3 o4 o5 : Option W) : ∃ own : Int, (eIf (toB (eBin fLt (eVar 1) (eCB cLen (aCons (eVar 0) aNil)))) (eCB cInt (aCons (eBin fIx (eVar 0) (eVar 1)) aNil)) (eC (.int 0))) [some (.frz zs), some (.int (l : Int)), o2, o3, o4, o5] Ch.nil = .ok (.int own) Ch.nil := by
  have ht : toB (eBin fLt (eVar 1) (eCB cLen (aCons (eVar 0) aNil))) [some (.frz zs), some (.int (l : Int)), o2, o3, o4, o5] Ch.nil = .ok (ilt l (lenK (zs.map W.int) : Nat)) Ch.nil := rfl
  cases e : ilt l (lenK (zs.map W.int) : Nat) with
  | true =>
    rw [e] at ht
    rw [ilt_eq, lenK_eq, List.length_map] at e
    have hl : l < zs.length := by
      have := of_decide_eq_true e
      omega
    obtain ⟨z, hz⟩ := atI_frz zs l hl
    refine ⟨z, ?_⟩
    unfold eIf
    rw [ht]
    refine r_cb (r_one (r_bin rfl rfl (r := .ok (.int z) Ch.nil) ?_)) rfl
    show (match atW (zs.map W.int) (l : Int) with | some w => R.ok w Ch.nil | none => .no) = _
    rw [hz]
  | false =>
    rw [e] at ht
    refine ⟨0, ?_⟩
    unfold eIf
    rw [ht]
    rfl
theorem far_ok (own s : Int) (o0 o1 o4 o5 : Option W) (c : Ch) : ∃ far : Int, 0 ≤ far ∧ (eIf (bOr (toB (eBin fLt (eVar 2) (eC (.int 0)))) (toB (eBin fGe (eVar 2) (eBin fPow (eC (.int 10)) (eC (.int 16)))))) (eBin fMod (eCB cAbs (aCons (eVar 2) aNil)) (eBin fPow (eC (.int 10)) (eC (.int 60)))) (eC (.int 0))) [o0, o1, some (.int own), some (.int s), o4, o5] c = .ok (.int far) c := by
  have ht : bOr (toB (eBin fLt (eVar 2) (eC (.int 0)))) (toB (eBin fGe (eVar 2) (eBin fPow (eC (.int 10)) (eC (.int 16))))) [o0, o1, some (.int own), some (.int s), o4, o5] c = (match ilt own 0 with | true => .ok true c | false => .ok (ile ((10 : Int) ^ (16 : Int).toNat) own) c) := rfl
  have go : ∀ b : Bool, bOr (toB (eBin fLt (eVar 2) (eC (.int 0)))) (toB (eBin fGe (eVar 2) (eBin fPow (eC (.int 10)) (eC (.int 16))))) [o0, o1, some (.int own), some (.int s), o4, o5] c = .ok b c → ∃ far : Int, 0 ≤ far ∧ (eIf (bOr (toB (eBin fLt (eVar 2) (eC (.int 0)))) (toB (eBin fGe (eVar 2) (eBin fPow (eC (.int 10)) (eC (.int 16)))))) (eBin fMod (eCB cAbs (aCons (eVar 2) aNil)) (eBin fPow (eC (.int 10)) (eC (.int 60)))) (eC (.int 0))) [o0, o1, some (.int own), some (.int s), o4, o5] c = .ok (.int far) c := by
    intro b hb
    unfold eIf
    rw [hb]
    cases b with
    | true =>
      refine ⟨((own.natAbs : Nat) : Int) % ((10 : Int) ^ (60 : Int).toNat), Int.emod_nonneg _ (by decide), ?_⟩
      rfl
    | false => exact ⟨0, Int.le_refl _, rfl⟩
  cases e : ilt own 0 with
  | true => rw [e] at ht; exact go true ht
  | false => rw [e] at ht; exact go _ ht

/-! K01p8 -/
theorem r_par2 {i j : Nat} {a : EvA} {v w : W} {ω : Sl} {c c1 : Ch} (h : a ω c = .ok [v, w] c1) : sPar i j a ω c = .nx (setK (some w) (setK (some v) ω i) j) c1 := by
  unfold sPar
  rw [h]
  rfl
theorem bowl_ok (zs : List Int) (l : Nat) (hz : zs.length ≤ 63) : ∃ (c1 : Ch) (m : Nat) (far stir : Int), r__law_bowl [.frz zs, .int (l : Int)] Ch.nil = .ok (.ref m) c1 ∧ c1.get m = some [.int far, .int stir] ∧ 0 ≤ far ∧ 0 ≤ stir := by
  obtain ⟨own, hown⟩ := own_ok zs l none none none none
  have hlen : (cutW (zs.map W.int) none (some 16)).length ≤ 63 := by
    unfold cutW
    rw [List.length_take, List.length_drop, List.length_map]
    omega
  have hmem : ∀ (i : Nat) (w : W), (cutW (zs.map W.int) none (some 16))[i]? = some w → ∃ z, w = .int z := by
    intro i w h
    have h1 := List.mem_of_getElem? h
    unfold cutW at h1
    obtain ⟨z, _, e⟩ := List.mem_map.mp (List.mem_of_mem_drop (List.mem_of_mem_take h1))
    exact ⟨z, e.symm⟩
  have hfew : few (cutW (zs.map W.int) none (some 16)) = true := by
    unfold few
    rw [lenK_eq]
    exact Nat.ble_eq.mpr (Nat.le_trans hlen (by decide))
  generalize hw : cutW (zs.map W.int) none (some 16) = ws at hlen hmem hfew
  have hit : ∀ o5, iSq (eSl (eVar 0) oNo (oAt (eC (.int 16)))) [some (.frz zs), some (.int (l : Int)), some (.int own), some (.int (660047 + 2711 * (l : Int))), none, o5] Ch.nil = .ok (.lst 0) (Ch.nil.push ws) := by
    intro o5
    have e : eSl (eVar 0) oNo (oAt (eC (.int 16))) [some (.frz zs), some (.int (l : Int)), some (.int own), some (.int (660047 + 2711 * (l : Int))), none, o5] Ch.nil = .ok (.ref 0) (Ch.nil.push ws) := by
      show newL (cutW (zs.map W.int) none (some 16)) Ch.nil = _
      rw [hw]
      unfold newL
      rw [hfew]
      rfl
    unfold iSq
    rw [e]
    rfl
  obtain ⟨s', o', hl⟩ := wLoop ws (some (.frz zs)) (some (.int (l : Int))) (some (.int own)) none (Ch.nil.push ws) rfl hmem ws.length 0 (660047 + 2711 * (l : Int)) none (by omega)
  have hl2 := loop_more (ws.length + 1) (1000 - (ws.length + 1)) 0 _ _ _ _ hl
  rw [show ws.length + 1 + (1000 - (ws.length + 1)) = 1000 by omega] at hl2
  have hfor : sFor 1000 (iSq (eSl (eVar 0) oNo (oAt (eC (.int 16))))) (gN 4) wBody [some (.frz zs), some (.int (l : Int)), some (.int own), some (.int (660047 + 2711 * (l : Int))), none, none] Ch.nil = .nx [some (.frz zs), some (.int (l : Int)), some (.int own), some (.int s'), o', none] (Ch.nil.push ws) := by
    unfold sFor
    rw [hit]
    exact hl2
  obtain ⟨far, hf0, hfar⟩ := far_ok own s' (some (.frz zs)) (some (.int (l : Int))) o' none (Ch.nil.push ws)
  have hb : b__law_bowl [some (.frz zs), some (.int (l : Int)), none, none, none, none] Ch.nil = .rt (.ref 1) ((Ch.nil.push ws).push [.int far, .int ((s' * 31 + own % 2147483353 + 401) % 2147483423)]) := by
    refine r_seq (r_par2 (r_cons hown (r_one (r_bin rfl (r_bin rfl rfl rfl) rfl)))) (r_seq hfor (r_seq (r_set hfar) (r_ret ?_)))
    have e : (aCons (eVar 5) (aCons (eBin fMod (eCB cInt (aCons (eBin fAdd (eBin fAdd (eBin fMul (eVar 3) (eC (.int 31))) (eBin fMod (eCB cInt (aCons (eVar 2) aNil)) (eC (.int 2147483353)))) (eC (.int 401))) aNil)) (eC (.int 2147483423))) aNil)) (setK (some (W.int far)) [some (.frz zs), some (.int (l : Int)), some (.int own), some (.int s'), o', none] 5) (Ch.nil.push ws) = .ok [.int far, .int ((s' * 31 + own % 2147483353 + 401) % 2147483423)] (Ch.nil.push ws) :=
      r_cons rfl (r_one (r_bin (r_cb (r_one (r_bin (r_bin (r_bin rfl rfl (mul_lit _ rfl)) (r_bin (r_cb (r_one rfl) rfl) rfl rfl) rfl) rfl rfl)) rfl) rfl rfl))
    unfold eLst
    rw [e]
    rfl
  refine ⟨(Ch.nil.push ws).push [.int far, .int ((s' * 31 + own % 2147483353 + 401) % 2147483423)], 1, far, (s' * 31 + own % 2147483353 + 401) % 2147483423, ?_, ?_, hf0, Int.emod_nonneg _ (by decide)⟩
  rotate_left
  · rw [Ch.get_push]
    rfl
  show (match b__law_bowl [some (.frz zs), some (.int (l : Int)), none, none, none, none] Ch.nil with
    | .rt w c1 => R.ok w c1
    | .nx _ c1 => .ok .non c1
    | _ => .no) = _
  rw [hb]
end Sm
/-! Lc: law(script): all laps are right -/
namespace Sm
open PySem PySem.Spec PyProof.Rows L2
noncomputable abbrev rngLaw : EvI := iR1 (aCons (eCB cMax (aCons (eC (.int 1)) (aCons (eCB cMin (aCons (eCB cLen (aCons (eVar 0) aNil)) (aCons (eC (.int 3)) aNil))) aNil))) aNil)
theorem rng_ok (zs : List Int) : ∃ n : Nat, n ≤ 3 ∧ rngLaw [some (.frz zs), none] Ch.nil = .ok (.rng 0 n) Ch.nil := by
  match zs with
  | [] => exact ⟨1, by decide, rfl⟩
  | [_] => exact ⟨1, by decide, rfl⟩
  | [_, _] => exact ⟨2, by decide, rfl⟩
  | a :: b :: d :: zs =>
    refine ⟨3, by decide, ?_⟩
    have e1 : ilt (lenK ((a :: b :: d :: zs).map W.int) : Nat) 3 = false := by
      rw [ilt_eq, lenK_eq, List.length_map]
      refine decide_eq_false ?_
      simp only [List.length_cons]
      omega
    have e2 : rngLaw [some (.frz (a :: b :: d :: zs)), none] Ch.nil = iR1 (fun _ c => .ok [.int (selI (ilt 1 (selI (ilt 3 (lenK ((a :: b :: d :: zs).map W.int) : Nat)) 3 (lenK ((a :: b :: d :: zs).map W.int) : Nat))) (selI (ilt 3 (lenK ((a :: b :: d :: zs).map W.int) : Nat)) 3 (lenK ((a :: b :: d :: zs).map W.int) : Nat)) 1)] c) [some (.frz (a :: b :: d :: zs)), none] Ch.nil := rfl
    rw [e2]
    have e3 : selI (ilt 3 (lenK ((a :: b :: d :: zs).map W.int) : Nat)) 3 (lenK ((a :: b :: d :: zs).map W.int) : Nat) = 3 := by
      cases e4 : ilt 3 (lenK ((a :: b :: d :: zs).map W.int) : Nat) with
      | true => rfl
      | false =>
        rw [ilt_eq] at e1 e4
        have e1 := of_decide_eq_false e1
        have e4 := of_decide_eq_false e4
        show ((lenK ((a :: b :: d :: zs).map W.int) : Nat) : Int) = 3
        omega
    rw [e3]
    rfl
def RightOk : Prop := ∀ far stir : Int, 0 ≤ far → 0 ≤ stir → ∃ (c2 : Ch) (f2 s2 : Int), r__law_right [.ref 0] (c0 far stir) = .ok (.bl true) c2 ∧ c2.get 0 = some [.int f2, .int s2]
noncomputable abbrev eLap : Ev := eCall 1 (lend r__law_right) (aCons (eCall 2 (apartR r__law_bowl) (aCons (eVar 0) (aCons (eVar 1) aNil))) aNil)
theorem bowl_apart (zs : List Int) (hz : zs.length ≤ 63) (i : Nat) (c : Ch) : ∃ far stir : Int, 0 ≤ far ∧ 0 ≤ stir ∧ apartR r__law_bowl [.frz zs, .int (i : Int)] c = .ok (.ref c.length) (c.push [.int far, .int stir]) := by
  obtain ⟨c1, m, far, stir, e1, e2, n1, n2⟩ := bowl_ok zs i hz
  refine ⟨far, stir, n1, n2, ?_⟩
  have e0 : optL (inA c) [.frz zs, .int (i : Int)] = some [.frz zs, .int (i : Int)] := rfl
  unfold apartR
  rw [e0]
  simp only [e1, e2]
  rfl
theorem lend_right (h : RightOk) (far stir : Int) (n1 : 0 ≤ far) (n2 : 0 ≤ stir) (c : Ch) : ∃ f2 s2 : Int, lend r__law_right [.ref c.length] (c.push [.int far, .int stir]) = .ok (.bl true) ((c.push [.int far, .int stir]).set c.length [.int f2, .int s2]) := by
  obtain ⟨c2, f2, s2, e1, e2⟩ := h far stir n1 n2
  refine ⟨f2, s2, ?_⟩
  have g : (c.push [W.int far, W.int stir]).get c.length = some [.int far, .int stir] := by rw [Ch.get_push, if_pos rfl]
  unfold lend
  simp only [g]
  show (match r__law_right [.ref 0] (c0 far stir) with | .ok w c2 => _ | .no => _) = _
  rw [e1]
  simp only [e2]
  rfl
theorem lap_ok (h : RightOk) (zs : List Int) (hz : zs.length ≤ 63) (i : Nat) (c : Ch) : ∃ far stir f2 s2 : Int, eLap [some (.frz zs), some (.int (i : Int))] c = .ok (.bl true) ((c.push [.int far, .int stir]).set c.length [.int f2, .int s2]) := by
  obtain ⟨far, stir, n1, n2, e1⟩ := bowl_apart zs hz i c
  obtain ⟨f2, s2, e2⟩ := lend_right h far stir n1 n2 c
  exact ⟨far, stir, f2, s2, r_call (r_one (r_call (r_cons (x := .frz zs) rfl (r_one (x := .int (i : Int)) rfl)) rfl e1)) rfl e2⟩
theorem laps_ok (h : RightOk) (zs : List Int) (hz : zs.length ≤ 63) (n : Nat) (hn : n ≤ 3) : ∀ (m i : Nat) (c : Ch), n - i < m → i ≤ n → c.length = i + 1 → c.get 0 = some (List.replicate i (.bl true)) → ∃ c', loopC (.rng 0 n) (gN 1) bYes eLap [some (.frz zs), none] 0 m i c = .ok (.ref 0) c' ∧ c'.get 0 = some (List.replicate n (.bl true))
  | 0, i, c, hm, _, _, _ => absurd hm (Nat.not_lt_zero _)
  | m + 1, i, c, hm, hi, hl, hc => by
    by_cases e : i < n
    · have eb : Nat.blt i n = true := by rw [Nat.blt_eq]; exact e
      obtain ⟨far, stir, f2, s2, el⟩ := lap_ok h zs hz i c
      have g0 : ((c.push [W.int far, W.int stir]).set c.length [.int f2, .int s2]).get 0 = some (List.replicate i (.bl true)) := by rw [Ch.get_set, if_neg (by omega), Ch.get_push, if_neg (by omega), hc]
      have gl : Nat.blt (lenK (List.replicate i (W.bl true))) 100000 = true := by rw [Nat.blt_eq, lenK_eq, List.length_replicate]; omega
      obtain ⟨c', e1, e2⟩ := laps_ok h zs hz n hn m (i + 1) (((c.push [W.int far, W.int stir]).set c.length [.int f2, .int s2]).set 0 (appK (List.replicate i (.bl true)) [.bl true])) (by omega) e (by show c.length + 1 = i + 1 + 1; omega) (by rw [Ch.get_set, if_pos rfl, appK_eq, List.replicate_succ'])
      refine ⟨c', ?_, e2⟩
      rw [← e1]
      show (match (match Nat.blt i n with | true => SR.item (.int (0 + (i : Nat))) | false => .stop) with
        | .stop => _
        | .no => _
        | .item w => _) = _
      rw [eb, Int.zero_add]
      show (match eLap [some (.frz zs), some (.int (i : Int))] c with | .no => _ | .ok y c3 => _) = _
      rw [el]
      show (match Ch.get _ 0 with | none => _ | some acc => _) = _
      rw [g0]
      show (match Nat.blt (lenK (List.replicate i (W.bl true))) 100000 with | true => _ | false => _) = _
      rw [gl]
      rfl
    · have e : i = n := by omega
      subst e
      have eb : Nat.blt i i = false := by
        cases q : Nat.blt i i with
        | false => rfl
        | true => rw [Nat.blt_eq] at q; exact absurd q (Nat.lt_irrefl _)
      refine ⟨c, ?_, hc⟩
      show (match (match Nat.blt i i with | true => SR.item (.int (0 + (i : Nat))) | false => .stop) with
        | .stop => _
        | .no => _
        | .item w => _) = _
      rw [eb]
theorem all_true : ∀ n : Nat, ∃ bs, blsW (List.replicate n (W.bl true)) = some bs ∧ bs.all id = true
  | 0 => ⟨[], rfl, rfl⟩
  | n + 1 => by
    obtain ⟨bs, e1, e2⟩ := all_true n
    refine ⟨true :: bs, ?_, by rw [List.all_cons, e2]; rfl⟩
    show (match blsW (List.replicate n (W.bl true)) with | some bs => some (true :: bs) | none => none) = _
    rw [e1]
theorem law_run (h : RightOk) (zs : List Int) (hz : zs.length ≤ 63) : ∃ c, r_law [.frz zs] Ch.nil = .ok (.bl true) c := by
  obtain ⟨n, hn, hr⟩ := rng_ok zs
  obtain ⟨c', e1, e2⟩ := laps_ok h zs hz n hn 1000 0 (Ch.nil.push []) (by omega) (Nat.zero_le _) rfl rfl
  obtain ⟨bs, b1, b2⟩ := all_true n
  have el : eLc 1000 [1] rngLaw (gN 1) bYes eLap [some (.frz zs), none] Ch.nil = .ok (.ref 0) c' := by
    unfold eLc
    rw [hr]
    exact e1
  have ea : cAll [.ref 0] c' = .ok (.bl true) c' := by
    show oR (c'.get 0) (fun ws => oR (blsW ws) fun bs => .ok (W.bl (bs.all id)) c') = _
    rw [e2]
    show oR (blsW (List.replicate n (W.bl true))) _ = _
    rw [b1]
    show R.ok (W.bl (bs.all id)) c' = _
    rw [b2]
  have eb : b_law [some (.frz zs), none] Ch.nil = .rt (.bl true) c' := r_ret (r_cb (r_one el) ea)
  refine ⟨c', ?_⟩
  show (match b_law [some (.frz zs), none] Ch.nil with
    | .rt w c1 => R.ok w c1
    | .nx _ c1 => .ok .non c1
    | _ => .no) = _
  rw [eb]
end Sm
/-! Fq: the quick product of rows is Field.product -/
namespace Sm
open PySem PySem.Spec PyProof.Rows L2
theorem loop_ex {s : Src} {g : EvG} {body : EvS} (n : Nat) (P : Nat → Sl → Prop) (χ : Nat → Ch) (item : Nat → W) (hstop : stepS s n (χ n) = .stop) (hitem : ∀ i, i < n → stepS s i (χ i) = .item (item i))
    (hturn : ∀ i, i < n → ∀ ω, P i ω → ∃ ω1 c1 ω2, g (item i) ω (χ i) = .ok ω1 c1 ∧ body ω1 c1 = .nx ω2 (χ (i + 1)) ∧ P (i + 1) ω2) : ∀ (k i fuel : Nat) (ω : Sl), n - i = k → i ≤ n → k < fuel → P i ω → ∃ ω', loopS s g body fuel i ω (χ i) = .nx ω' (χ n) ∧ P n ω'
  | 0, i, 0, _, _, _, hf, _ => absurd hf (Nat.lt_irrefl _)
  | 0, i, fuel + 1, ω, hk, hi, _, hp => by
    have e : i = n := by omega
    subst e
    rw [loopS_succ, hstop]
    exact ⟨ω, rfl, hp⟩
  | k + 1, i, 0, _, _, _, hf, _ => absurd hf (Nat.not_lt_zero _)
  | k + 1, i, fuel + 1, ω, hk, hi, hf, hp => by
    have hl : i < n := by omega
    obtain ⟨ω1, c1, ω2, e1, e2, hp2⟩ := hturn i hl ω hp
    rw [loopS_succ, hitem i hl]
    simp only [e1, e2]
    exact loop_ex n P χ item hstop hitem hturn k (i + 1) fuel ω2 (by omega) hl (by omega) hp2
noncomputable abbrev cH (L : List Int) : Ch := (Ch.nil.push [.int 0]).push (L.map W.int)
noncomputable abbrev pIn : EvS := sAsg (eBin fAdd (eBin fIx (eVar 3) (eBin fAdd (eVar 4) (eVar 6))) (eBin fMul (eVar 5) (eVar 7))) (gSb (eVar 3) (eBin fAdd (eVar 4) (eVar 6)))
theorem cH_get (L : List Int) : (cH L).get 1 = some (L.map W.int) := rfl
theorem cH_set (L L' : List Int) : (cH L).set 1 (L'.map W.int) = cH L' := rfl
theorem atW_nat (ws : List W) (k : Nat) : atW ws (k : Int) = getK ws k := rfl
section
variable {x0 x1 x2 : Option W}
theorem pIn_ok (L : List Int) (i j : Nat) (x y a : Int) (ha : L[i + j]? = some a) (hy : Nat.blt y.natAbs 18446744073709551616 = true) :
    pIn [x0, x1, x2, some (.ref 1), some (.int (i : Nat)), some (.int x), some (.int (j : Nat)), some (.int y)] (cH L) = .nx [x0, x1, x2, some (.ref 1), some (.int (i : Nat)), some (.int x), some (.int (j : Nat)), some (.int y)] (cH (L.set (i + j) (a + x * y))) := by
  have g : getK (L.map W.int) (i + j) = some (.int a) := by rw [getK_eq, List.getElem?_map, ha]; rfl
  have ix : fIx (.ref 1) (.int ((i : Int) + (j : Int))) (cH L) = .ok (.int a) (cH L) := by
    show (match getK (L.map W.int) (i + j) with | some w => R.ok w (cH L) | none => .no) = _
    rw [g]
  have st : setW (L.map W.int) ((i : Int) + (j : Int)) (.int (a + x * y)) = some ((L.set (i + j) (a + x * y)).map W.int) := by
    show (match getK (L.map W.int) (i + j) with | some _ => some (setK (W.int (a + x * y)) (L.map W.int) (i + j)) | none => none) = _
    rw [g, setK_eq, List.map_set]
  refine r_asg (w := .int (a + x * y)) (c1 := cH L) (r_bin (x := .int a) (y := .int (x * y)) (c1 := cH L) (c2 := cH L) (r_bin (x := .ref 1) (y := .int ((i : Int) + (j : Int))) (c1 := cH L) (c2 := cH L) rfl (r_bin rfl rfl rfl) ix) (r_bin rfl rfl (mul_lit _ hy)) rfl) ?_
  show (match setW (L.map W.int) ((i : Int) + (j : Int)) (.int (a + x * y)) with | some us => R.ok _ ((cH L).set 1 us) | none => .no) = _
  rw [st]
  rfl
theorem in_loop (as bs : List Int) (hb : allR (fun y : Int => Nat.blt y.natAbs 18446744073709551616) bs = true) (L : List Int) (i : Nat) (x : Int) (hL : i + bs.length ≤ L.length) (o6 o7 : Option W) (hn : bs.length < 1000) :
    ∃ o6' o7', sFor 1000 (iEn (eVar 2)) (gT 2 (gsCons (gN 6) (gsCons (gN 7) gsNil))) pIn [x0, x1, some (.tup (bs.map W.int)), some (.ref 1), some (.int (i : Nat)), some (.int x), o6, o7] (cH L) = .nx [x0, x1, some (.tup (bs.map W.int)), some (.ref 1), some (.int (i : Nat)), some (.int x), o6', o7'] (cH (addAt i x L bs)) := by
  have big := allR_eq hb
  obtain ⟨ω', e, o6', o7', rfl⟩ := loop_ex (s := .enuT (bs.map W.int)) (g := gT 2 (gsCons (gN 6) (gsCons (gN 7) gsNil))) (body := pIn) bs.length (fun _ ω => ∃ o6 o7, ω = [x0, x1, some (.tup (bs.map W.int)), some (.ref 1), some (.int (i : Nat)), some (.int x), o6, o7]) (fun j => cH (addAt i x L (bs.take j))) (fun j => .tup [.int (j : Nat), .int (bs.getD j 0)])
    (by
      show atE _ _ = _
      unfold atE
      rw [getK_eq, List.getElem?_eq_none (by rw [List.length_map]; exact Nat.le_refl _)])
    (fun j hj => by
      show atE _ _ = _
      unfold atE
      rw [getK_eq, List.getElem?_map, List.getElem?_eq_getElem hj, List.getD_eq_getElem?_getD, List.getElem?_eq_getElem hj]
      rfl)
    (fun j hj ω ⟨o6, o7, hω⟩ => by
      subst hω
      have hb' : bs[j]? = some (bs.getD j 0) := by rw [List.getD_eq_getElem?_getD, List.getElem?_eq_getElem hj]; rfl
      have hl : i + j < (addAt i x L (bs.take j)).length := by rw [addAt_length]; omega
      have ha := List.getElem?_eq_getElem hl
      have e := pIn_ok (x0 := x0) (x1 := x1) (x2 := some (.tup (bs.map W.int))) (addAt i x L (bs.take j)) i j x (bs.getD j 0) _ ha (big _ (List.mem_of_getElem? hb'))
      rw [addAt_step i j x _ _ L bs hb' ha] at e
      exact ⟨_, _, _, rfl, e, _, _, rfl⟩)
    bs.length 0 1000 [x0, x1, some (.tup (bs.map W.int)), some (.ref 1), some (.int (i : Nat)), some (.int x), o6, o7] (by omega) (Nat.zero_le _) hn ⟨o6, o7, rfl⟩
  refine ⟨o6', o7', ?_⟩
  have e0 : addAt i x L (bs.take 0) = L := by
    unfold addAt
    rw [List.take_zero, mulAdd_nil, List.take_append_drop]
  rw [List.take_of_length_le (Nat.le_refl _), e0] at e
  exact e
end
/-- the outer loop -/
theorem out_loop {x0 : Option W} (as bs : List Int) (hb : allR (fun y : Int => Nat.blt y.natAbs 18446744073709551616) bs = true) (L : List Int) (hL : as.length + bs.length ≤ L.length) (ha : as.length < 1000) (hn : bs.length < 1000) (o4 o5 o6 o7 : Option W) :
    ∃ o4' o5' o6' o7', sFor 1000 (iEn (eVar 1)) (gT 2 (gsCons (gN 4) (gsCons (gN 5) gsNil))) (sFor 1000 (iEn (eVar 2)) (gT 2 (gsCons (gN 6) (gsCons (gN 7) gsNil))) pIn) [x0, some (.tup (as.map W.int)), some (.tup (bs.map W.int)), some (.ref 1), o4, o5, o6, o7] (cH L) =
      .nx [x0, some (.tup (as.map W.int)), some (.tup (bs.map W.int)), some (.ref 1), o4', o5', o6', o7'] (cH (rowsAt as bs L as.length)) := by
  obtain ⟨ω', e, o4', o5', o6', o7', rfl⟩ := loop_ex (s := .enuT (as.map W.int)) (g := gT 2 (gsCons (gN 4) (gsCons (gN 5) gsNil))) (body := sFor 1000 (iEn (eVar 2)) (gT 2 (gsCons (gN 6) (gsCons (gN 7) gsNil))) pIn) as.length
    (fun _ ω => ∃ o4 o5 o6 o7, ω = [x0, some (.tup (as.map W.int)), some (.tup (bs.map W.int)), some (.ref 1), o4, o5, o6, o7]) (fun i => cH (rowsAt as bs L i)) (fun i => .tup [.int (i : Nat), .int (as.getD i 0)])
    (by
      show atE _ _ = _
      unfold atE
      rw [getK_eq, List.getElem?_eq_none (by rw [List.length_map]; exact Nat.le_refl _)])
    (fun j hj => by
      show atE _ _ = _
      unfold atE
      rw [getK_eq, List.getElem?_map, List.getElem?_eq_getElem hj, List.getD_eq_getElem?_getD, List.getElem?_eq_getElem hj]
      rfl)
    (fun i hi ω ⟨o4, o5, o6, o7, hω⟩ => by
      subst hω
      obtain ⟨o6', o7', e⟩ := in_loop (x0 := x0) (x1 := some (.tup (as.map W.int))) as bs hb (rowsAt as bs L i) i (as.getD i 0) (by rw [rowsAt_length]; omega) o6 o7 hn
      exact ⟨_, _, _, rfl, e, _, _, _, _, rfl⟩)
    as.length 0 1000 [x0, some (.tup (as.map W.int)), some (.tup (bs.map W.int)), some (.ref 1), o4, o5, o6, o7] (by omega) (Nat.zero_le _) ha ⟨o4, o5, o6, o7, rfl⟩
  exact ⟨o4', o5', o6', o7', e⟩
theorem zerosK_eq : ∀ n, zerosK n = List.replicate n 0
  | 0 => rfl
  | n + 1 => congrArg (0 :: ·) (zerosK_eq n)
theorem fOr_no {f g : F2} {x y : W} {c : Ch} (h : f x y c = .no) : fOr f g x y c = g x y c := by
  unfold fOr
  rw [h]
theorem fOr_ok {f g : F2} {x y w : W} {c c' : Ch} (h : f x y c = .ok w c') : fOr f g x y c = .ok w c' := by
  unfold fOr
  rw [h]
theorem rep_zero (n : Nat) : repK [W.int 0] n = (List.replicate n (0 : Int)).map W.int := by
  rw [repK_eq]
  induction n with
  | zero => rfl
  | succ n ih => rw [List.replicate_succ, List.flatten_cons, ih, List.replicate_succ, List.map_cons]; rfl
theorem prod_start (o0 : Option W) (as bs : List Int) (ha : as.length < 900) (hb : bs.length < 900) : sSet 3 (eBin fMul (eLst (aCons (eC (.int 0)) aNil)) (eBin fAdd (eCB cLen (aCons (eVar 1) aNil)) (eCB cLen (aCons (eVar 2) aNil)))) [o0, some (.tup (as.map W.int)), some (.tup (bs.map W.int)), none, none, none, none, none] Ch.nil =
    .nx [o0, some (.tup (as.map W.int)), some (.tup (bs.map W.int)), some (.ref 1), none, none, none, none] (cH (List.replicate (as.length + bs.length) 0)) := by
  have la : lenK (as.map W.int) = as.length := by rw [lenK_eq, List.length_map]
  have lb : lenK (bs.map W.int) = bs.length := by rw [lenK_eq, List.length_map]
  have k1 : ile ((as.length : Nat) + (bs.length : Nat) : Int) 100000 = true := by rw [ile_eq]; exact decide_eq_true (by omega)
  have k2 : ile (-100000) ((as.length : Nat) + (bs.length : Nat) : Int) = true := by rw [ile_eq]; exact decide_eq_true (by omega)
  have fw : few ((List.replicate (as.length + bs.length) (0 : Int)).map W.int) = true := by
    unfold few
    rw [lenK_eq, List.length_map, List.length_replicate]
    exact Nat.ble_eq.mpr (by omega)
  have m : fMul (.ref 0) (.int ((as.length : Nat) + (bs.length : Nat) : Int)) (Ch.nil.push [W.int 0]) = .ok (.ref 1) (cH (List.replicate (as.length + bs.length) 0)) := by
    have r : fRep (.ref 0) (.int ((as.length : Nat) + (bs.length : Nat) : Int)) (Ch.nil.push [W.int 0]) = .ok (.ref 1) (cH (List.replicate (as.length + bs.length) 0)) := by
      show (match ile ((as.length : Nat) + (bs.length : Nat) : Int) 100000 && ile (-100000) ((as.length : Nat) + (bs.length : Nat) : Int) with | true => newL (repK [W.int 0] ((as.length : Nat) + (bs.length : Nat) : Int).toNat) (Ch.nil.push [W.int 0]) | false => .no) = _
      rw [k1, k2]
      show newL (repK [W.int 0] ((as.length : Nat) + (bs.length : Nat) : Int).toNat) (Ch.nil.push [W.int 0]) = _
      rw [show (((as.length : Nat) : Int) + ((bs.length : Nat) : Int)).toNat = as.length + bs.length by omega, rep_zero]
      unfold newL
      rw [fw]
      rfl
    exact (fOr_no rfl).trans (fOr_ok r)
  refine r_set (r_bin (x := .ref 0) (c1 := Ch.nil.push [W.int 0]) (y := .int ((as.length : Nat) + (bs.length : Nat) : Int)) (c2 := Ch.nil.push [W.int 0]) rfl (r_bin (x := .int (as.length : Nat)) (y := .int (bs.length : Nat)) (c1 := Ch.nil.push [W.int 0]) (c2 := Ch.nil.push [W.int 0]) (r_cb (r_one rfl) ?_) (r_cb (r_one rfl) ?_) rfl) m)
  · rw [← la]; rfl
  · rw [← lb]; rfl
theorem prod_imp (ws : List W) (c : Ch) (a : W) (c' : Ch) (h : prodF ws c = .ok a c') : apart r_Field_product ws c = .ok a c' := by
  match ws, h with
  | [.obj n fs, .tup A, .tup B], h =>
    have h : (match Nat.beq n 0 && flatA 9 (.obj n fs) with
      | true => match intsW A, intsW B with
        | some as, some bs => match Nat.blt (lenI as) 900 && (Nat.blt (lenI bs) 900 && allR (fun y : Int => Nat.blt y.natAbs 18446744073709551616) bs) with
          | true => match r_Field_reduced [.obj 0 fs, .lv ((prodA bs as (zerosK (Nat.add (lenI as) (lenI bs)))).map W.int)] Ch.nil with
            | .ok w c2 => match outW 9 c2 w with
              | some r => match flat 9 r with
                | true => R.ok r c
                | false => .no
              | none => .no
            | .no => .no
          | false => .no
        | _, _ => .no
      | false => .no) = .ok a c' := h
    cases e1 : Nat.beq n 0 && flatA 9 (.obj n fs) with
    | false => rw [e1] at h; cases h
    | true =>
      cases e2 : intsW A with
      | none => simp only [e1, e2] at h; cases h
      | some as =>
        cases e3 : intsW B with
        | none => simp only [e1, e2, e3] at h; cases h
        | some bs =>
          cases e4 : Nat.blt (lenI as) 900 && (Nat.blt (lenI bs) 900 && allR (fun y : Int => Nat.blt y.natAbs 18446744073709551616) bs) with
          | false => simp only [e1, e2, e3, e4] at h; cases h
          | true =>
            cases e5 : r_Field_reduced [.obj 0 fs, .lv ((prodA bs as (zerosK (Nat.add (lenI as) (lenI bs)))).map W.int)] Ch.nil with
            | no => simp only [e1, e2, e3, e4, e5] at h; cases h
            | ok w c2 =>
              cases e6 : outW 9 c2 w with
              | none => simp only [e1, e2, e3, e4, e5, e6] at h; cases h
              | some r =>
                cases e7 : flat 9 r with
                | false => simp only [e1, e2, e3, e4, e5, e6, e7] at h; cases h
                | true =>
                  simp only [e1, e2, e3, e4, e5, e6, e7] at h
                  cases h
                  obtain ⟨f1, f2⟩ := Bool.and_eq_true_iff.mp e1
                  obtain rfl := Nat.eq_of_beq_eq_true f1
                  obtain rfl := intsW_eq e2
                  obtain rfl := intsW_eq e3
                  obtain ⟨g1, g23⟩ := Bool.and_eq_true_iff.mp e4
                  obtain ⟨g2, g3⟩ := Bool.and_eq_true_iff.mp g23
                  rw [Nat.blt_eq, lenI_eq] at g1 g2
                  rw [lenI_eq, lenI_eq, zerosK_eq, show Nat.add as.length bs.length = as.length + bs.length from rfl, prodA_eq bs as _ (by rw [List.length_replicate]; omega)] at e5
                  obtain ⟨o4, o5, o6, o7, el⟩ := out_loop (x0 := some (.obj 0 fs)) as bs g3 (List.replicate (as.length + bs.length) 0) (by rw [List.length_replicate]; omega) (by omega) (by omega) none none none none
                  generalize rowsAt as bs (List.replicate (as.length + bs.length) 0) as.length = L at e5 el
                  have ia : inA (cH L) (.ref 1) = some (.lv (L.map W.int)) := by
                    show (match (L.map W.int).all (flat 9) with | true => some (W.lv (L.map W.int)) | false => none) = _
                    rw [flat_ints 8 L]
                  have io : ∀ c, inA c (.obj 0 fs) = some (.obj 0 fs) := fun c => by
                    show (match flatA 9 (.obj 0 fs) with | true => some (W.obj 0 fs) | false => none) = _
                    rw [f2]
                  have er : apart r_Field_reduced [.obj 0 fs, .ref 1] (cH L) = .ok a (cH L) := apart_eq (us := [.obj 0 fs, .lv (L.map W.int)]) (by simp only [optL, io, ia]) e5 e6
                  have eb : b_Field_product [some (.obj 0 fs), some (.tup (as.map W.int)), some (.tup (bs.map W.int)), none, none, none, none, none] Ch.nil = .rt a (cH L) := by
                    refine r_seq (prod_start (some (.obj 0 fs)) as bs g1 g2) (r_seq el (r_ret er))
                  have ef : r_Field_product [.obj 0 fs, .tup (as.map W.int), .tup (bs.map W.int)] Ch.nil = .ok a (cH L) := by
                    show (match b_Field_product [some (.obj 0 fs), some (.tup (as.map W.int)), some (.tup (bs.map W.int)), none, none, none, none, none] Ch.nil with
                      | .rt w c1 => R.ok w c1
                      | .nx _ c1 => .ok .non c1
                      | _ => .no) = _
                    rw [eb]
                  have it : ∀ (c : Ch) (is : List Int), inA c (.tup (is.map W.int)) = some (.tup (is.map W.int)) := fun c is => by
                    show (match (is.map W.int).all (flatA 8) with | true => some (W.tup (is.map W.int)) | false => none) = _
                    rw [flatA_ints 7 is]
                  exact apart_eq (us := [.obj 0 fs, .tup (as.map W.int), .tup (bs.map W.int)]) (by simp only [optL, io, it]) ef (outW_flat _ 9 a (by decide) e7)
end Sm
/-! G1: the program's defs: derivations -/
namespace Sm
open PySem PySem.Spec PyProof.Rows L2
def top (i : Nat) : Stmt := PySem.Challenge.pw_rollrings_k16_sums_of_roots_over_squares.main.body.getD i (.Pass ⟨0,0,0,0⟩)
abbrev FnP (K : PySem.W.Frag) (x : Str) (st : Stmt) (f : Addr) (fd : FuncData) := FunD K x x (defArgs st) (defBody st) (defScope st) [] [] f fd
section
variable {P : Program} {w : World} {K : PySem.W.Frag} {mg : Str → Option Value} {base : Heap}
theorem pg_n {X : Cx} {x : Str} {pos : Pos} (i : Nat) (hN : X.N.Nodup) (hi : X.N[i]? = some x := by rfl) (hx : Loc X.env.scope x := by first | exact Or.inl rfl | exact Or.inr rfl) (hf : X.fn x = true ∨ X.env.scope.names.lookup x = some .local := by first | exact .inl rfl | exact .inr rfl | assumption) : PG X (.Name x pos) (gName i) := pg_name hN hi hx hf
/-- what the top leaves of names -/
structure Bs (K : PySem.W.Frag) (mg : Str → Option Value) : Prop where
  b_abs : mg "abs" = none
  b_all : mg "all" = none
  b_any : mg "any" = none
  b_bool : mg "bool" = none
  b_divmod : mg "divmod" = none
  b_enumerate : mg "enumerate" = none
  b_int : mg "int" = none
  b_isinstance : mg "isinstance" = none
  b_len : mg "len" = none
  b_list : mg "list" = none
  b_max : mg "max" = none
  b_min : mg "min" = none
  b_range : mg "range" = none
  b_sorted : mg "sorted" = none
  b_str : mg "str" = none
  b_sum : mg "sum" = none
  b_tuple : mg "tuple" = none
  b_zip : mg "zip" = none
  c_MOST_ORDER : ∃ t, mg "MOST_ORDER" = some (.int 120 t)
  c_PAIR : ∃ t, mg "PAIR" = some (.int 2 t)
  g_gcd : mg "gcd" = some (.builtin "math.gcd")
  f_Field_degree : Cls K (He.ga K (clsN 0)) ∧ NoAttr K (He.ga K (clsN 0)) "degree"
  f_Field_order : Cls K (He.ga K (clsN 0)) ∧ NoAttr K (He.ga K (clsN 0)) "order"
  f_Field_polynomial : Cls K (He.ga K (clsN 0)) ∧ NoAttr K (He.ga K (clsN 0)) "polynomial"
/-! is_prime -/
abbrev s_is_prime : Stmt := top 10
theorem sc_is_prime : FnScope ["number", "each"] ["number"] (defScope s_is_prime) := ⟨rfl, rfl, rfl, by decide +kernel, rfl, by decide +kernel, by decide +kernel⟩
theorem ok_is_prime {f : Addr} {fd : FuncData} (T : Bs K mg) (F : FnP K "is_prime" s_is_prime f fd) (hm : mg "is_prime" = some (.ref f)) : Has P w K mg base 1 "is_prime" 1 r_is_prime :=
  has_of F (fn_run F sc_is_prime rfl rfl fun cdv A outer s H E hr =>
      (x_one (x_ret (q_all T.b_all rfl (a_cons (q_lc 1000 [("each", 1)] rfl sc_is_prime.nd (i_rng2 T.b_range (a_cons q_int (a_cons (q_v 0) a_nil))) (blkOk_by (by kernel_rfl)) (gc_name (by decide)) (fun _ _ _ _ _ => (pg_n 1 sc_is_prime.nd)) (fun _ _ _ _ _ => ts_nil) (fun _ _ _ _ _ => (q_cmp op_gt ok_gt (q_mod (q_v 0) (q_v 1)) q_int (nomark _)))) a_nil))))) hm (fun _ _ _ _ _ _ us hl => match us, hl with | [_], _ => rfl)
/-! primes_of -/
abbrev s_primes_of : Stmt := top 9
theorem sc_primes_of : FnScope ["number", "each"] ["number"] (defScope s_primes_of) := ⟨rfl, rfl, rfl, by decide +kernel, rfl, by decide +kernel, by decide +kernel⟩
theorem ok_primes_of {f : Addr} {fd : FuncData} (T : Bs K mg) (F : FnP K "primes_of" s_primes_of f fd) (hm : mg "primes_of" = some (.ref f)) (h_is_prime : Has P w K mg base 1 "is_prime" 1 r_is_prime) : Has P w K mg base 2 "primes_of" 1 r_primes_of :=
  has_of F (fn_run F sc_primes_of rfl rfl fun cdv A outer s H E hr =>
      (x_one (x_ret (q_lc 1000 [("each", 1)] rfl sc_primes_of.nd (i_rng2 T.b_range (a_cons q_int (a_cons (q_add (q_v 0) q_int) a_nil))) (blkOk_by (by kernel_rfl)) (gc_name (by decide)) (fun _ _ _ _ _ => (pg_n 1 sc_primes_of.nd)) (fun _ _ _ _ _ => (pts_one (PW.pt (w_and (u_cmp (op_eqA hr.units) ok_eq (q_mod (q_v 0) (q_v 1)) q_int (nomark _)) (w_and1 (u_tru (q_call (h_is_prime.apart) (hr.mono (by first | exact Nat.le_refl _ | omega)) (a_cons (q_v 1) a_nil)))))))) (fun _ _ _ _ _ => (q_v 1)))))) hm (fun _ _ _ _ _ _ us hl => match us, hl with | [_], _ => rfl)
/-! multiple -/
abbrev s_multiple : Stmt := top 11
theorem sc_multiple : FnScope ["one", "two"] ["one", "two"] (defScope s_multiple) := ⟨rfl, rfl, rfl, by decide +kernel, rfl, by decide +kernel, by decide +kernel⟩
theorem ok_multiple {f : Addr} {fd : FuncData} (T : Bs K mg) (F : FnP K "multiple" s_multiple f fd) (hm : mg "multiple" = some (.ref f)) : Has P w K mg base 1 "multiple" 2 r_multiple :=
  has_of F (fn_run F sc_multiple rfl rfl fun cdv A outer s H E hr =>
      (x_one (x_ret (q_mul (q_div (q_v 0) (q_gcd T.g_gcd (a_cons (q_v 0) (a_cons (q_v 1) a_nil)))) (q_v 1))))) hm (fun _ _ _ _ _ _ us hl => match us, hl with | [_, _], _ => rfl)
/-! with_one -/
abbrev s_with_one : Stmt := top 12
theorem sc_with_one : FnScope ["row", "many", "found", "at", "each"] ["row", "many"] (defScope s_with_one) := ⟨rfl, rfl, rfl, by decide +kernel, rfl, by decide +kernel, by decide +kernel⟩
theorem ok_with_one {f : Addr} {fd : FuncData} (T : Bs K mg) (F : FnP K "with_one" s_with_one f fd) (hm : mg "with_one" = some (.ref f)) : Has P w K mg base 1 "with_one" 2 r_with_one :=
  has_of F (fn_run F sc_with_one rfl rfl fun cdv A outer s H E hr =>
      (x_cons (x_set (i := 2) sc_with_one.nd (q_mul (q_lst (a_cons q_int a_nil)) (q_add (q_len T.b_len (a_cons (q_v 0) a_nil)) (q_v 1))))
      (x_cons (x_for 1000 PassesOwn.never rfl (i_enum T.b_enumerate (q_v 0)) (g_tup rfl (gs_cons (g_name (i := 3) sc_with_one.nd) (gs_cons (g_name (i := 4) sc_with_one.nd) gs_nil))) (x_cons (x_asg (q_add (q_ix (q_v 2) (q_add (q_v 3) (q_v 1))) (q_v 4)) (g_sub (q_v 2) (q_add (q_v 3) (q_v 1))))
      (x_one (x_asg (q_sub (q_ix (q_v 2) (q_v 3)) (q_v 4)) (g_sub (q_v 2) (q_v 3))))))
      (x_one (x_ret (q_v 2)))))) hm (fun _ _ _ _ _ _ us hl => match us, hl with | [_, _], _ => rfl)
/-! without_one -/
abbrev s_without_one : Stmt := top 13
theorem sc_without_one : FnScope ["row", "many", "found", "at"] ["row", "many"] (defScope s_without_one) := ⟨rfl, rfl, rfl, by decide +kernel, rfl, by decide +kernel, by decide +kernel⟩
theorem ok_without_one {f : Addr} {fd : FuncData} (T : Bs K mg) (F : FnP K "without_one" s_without_one f fd) (hm : mg "without_one" = some (.ref f)) : Has P w K mg base 1 "without_one" 2 r_without_one :=
  has_of F (fn_run F sc_without_one rfl rfl fun cdv A outer s H E hr =>
      (x_cons (x_set (i := 2) sc_without_one.nd (q_lst a_nil))
      (x_cons (x_for 1000 PassesOwn.never rfl (i_rng1 T.b_range (a_cons (q_sub (q_len T.b_len (a_cons (q_v 0) a_nil)) (q_v 1)) a_nil)) (g_name (i := 3) sc_without_one.nd) (x_one (x_drop (q_app (q_v 2) (q_sub (q_if (u_cmp op_ge ok_ge (q_v 3) (q_v 1) (nomark _)) (q_ix (q_v 2) (q_sub (q_v 3) (q_v 1))) q_int) (q_ix (q_v 0) (q_v 3)))))))
      (x_one (x_ret (q_v 2)))))) hm (fun _ _ _ _ _ _ us hl => match us, hl with | [_, _], _ => rfl)
/-! products_of -/
abbrev s_products_of : Stmt := top 14
theorem sc_products_of : FnScope ["primes", "found", "prime", "product", "many"] ["primes"] (defScope s_products_of) := ⟨rfl, rfl, rfl, by decide +kernel, rfl, by decide +kernel, by decide +kernel⟩
theorem ok_products_of {f : Addr} {fd : FuncData} (T : Bs K mg) (F : FnP K "products_of" s_products_of f fd) (hm : mg "products_of" = some (.ref f)) : Has P w K mg base 1 "products_of" 1 r_products_of :=
  has_of F (fn_run F sc_products_of rfl rfl fun cdv A outer s H E hr =>
      (x_cons (x_set (i := 1) sc_products_of.nd (q_lst (a_cons (q_tup (a_cons q_int (a_cons q_int a_nil))) a_nil)))
      (x_cons (x_for 1000 PassesOwn.never rfl (i_seq (q_v 0)) (g_name (i := 2) sc_products_of.nd) (x_one (x_set (i := 1) sc_products_of.nd (q_lst (a_star (q_v 1) (a_star (q_lc 1000 [("product", 3), ("many", 4)] rfl sc_products_of.nd (i_seq (q_v 1)) (blkOk_by (by kernel_rfl)) (gc_tup (gcs_cons (gc_name (by decide)) (gcs_cons (gc_name (by decide)) gcs_nil))) (fun _ _ _ _ _ => (pg_tup rfl (pgs_cons (pg_n 3 sc_products_of.nd) (pgs_cons (pg_n 4 sc_products_of.nd) pgs_nil)))) (fun _ _ _ _ _ => ts_nil) (fun _ _ _ _ _ => (q_tup (a_cons (q_mul (q_v 3) (q_v 2)) (a_cons (q_add (q_v 4) q_int) a_nil))))) a_nil))))))
      (x_one (x_ret (q_v 1)))))) hm (fun _ _ _ _ _ _ us hl => match us, hl with | [_], _ => rfl)
/-! polynomial_by -/
abbrev s_polynomial_by : Stmt := top 15
theorem sc_polynomial_by : FnScope ["order", "row", "products", "product", "many"] ["order"] (defScope s_polynomial_by) := ⟨rfl, rfl, rfl, by decide +kernel, rfl, by decide +kernel, by decide +kernel⟩
theorem ok_polynomial_by {f : Addr} {fd : FuncData} (T : Bs K mg) (F : FnP K "polynomial_by" s_polynomial_by f fd) (hm : mg "polynomial_by" = some (.ref f)) (h_primes_of : Has P w K mg base 2 "primes_of" 1 r_primes_of) (h_products_of : Has P w K mg base 1 "products_of" 1 r_products_of) (h_with_one : Has P w K mg base 1 "with_one" 2 r_with_one) (h_without_one : Has P w K mg base 1 "without_one" 2 r_without_one) : Has P w K mg base 3 "polynomial_by" 1 r_polynomial_by :=
  has_of F (fn_run F sc_polynomial_by rfl rfl fun cdv A outer s H E hr =>
      (x_cons (x_par (i := 1) (j := 2) rfl sc_polynomial_by.nd (a_cons (q_lst (a_cons q_int a_nil)) (a_cons (q_call (h_products_of.apart) (hr.mono (by first | exact Nat.le_refl _ | omega)) (a_cons (q_call (h_primes_of.apart) (hr.mono (by first | exact Nat.le_refl _ | omega)) (a_cons (q_v 0) a_nil)) a_nil)) a_nil)))
      (x_cons (x_for 1000 PassesOwn.never rfl (i_seq (q_v 2)) (g_tup rfl (gs_cons (g_name (i := 3) sc_polynomial_by.nd) (gs_cons (g_name (i := 4) sc_polynomial_by.nd) gs_nil))) (x_one (x_set (i := 1) sc_polynomial_by.nd (q_if (u_cmp (op_eqA hr.units) ok_eq (q_mod (q_v 4) q_int) q_int (nomark _)) (q_call (h_with_one.apart) (hr.mono (by first | exact Nat.le_refl _ | omega)) (a_cons (q_v 1) (a_cons (q_div (q_v 0) (q_v 3)) a_nil))) (q_v 1)))))
      (x_cons (x_for 1000 PassesOwn.never rfl (i_seq (q_v 2)) (g_tup rfl (gs_cons (g_name (i := 3) sc_polynomial_by.nd) (gs_cons (g_name (i := 4) sc_polynomial_by.nd) gs_nil))) (x_one (x_set (i := 1) sc_polynomial_by.nd (q_if (u_cmp (op_eqA hr.units) ok_eq (q_mod (q_v 4) q_int) q_int (nomark _)) (q_call (h_without_one.apart) (hr.mono (by first | exact Nat.le_refl _ | omega)) (a_cons (q_v 1) (a_cons (q_div (q_v 0) (q_v 3)) a_nil))) (q_v 1)))))
      (x_one (x_ret (q_tuple T.b_tuple (a_cons (q_v 1) a_nil)))))))) hm (fun _ _ _ _ _ _ us hl => match us, hl with | [_], _ => rfl)
/-! moved -/
abbrev s_moved : Stmt := top 16
theorem sc_moved : FnScope ["row", "order", "times", "found", "at", "each"] ["row", "order", "times"] (defScope s_moved) := ⟨rfl, rfl, rfl, by decide +kernel, rfl, by decide +kernel, by decide +kernel⟩
theorem ok_moved {f : Addr} {fd : FuncData} (T : Bs K mg) (F : FnP K "moved" s_moved f fd) (hm : mg "moved" = some (.ref f)) : Has P w K mg base 1 "moved" 3 r_moved :=
  has_of F (fn_run F sc_moved rfl rfl fun cdv A outer s H E hr =>
      (x_cons (x_set (i := 3) sc_moved.nd (q_mul (q_lst (a_cons q_int a_nil)) (q_v 1)))
      (x_cons (x_for 1000 PassesOwn.never rfl (i_enum T.b_enumerate (q_v 0)) (g_tup rfl (gs_cons (g_name (i := 4) sc_moved.nd) (gs_cons (g_name (i := 5) sc_moved.nd) gs_nil))) (x_one (x_asg (q_add (q_ix (q_v 3) (q_mod (q_mul (q_v 4) (q_v 2)) (q_v 1))) (q_v 5)) (g_sub (q_v 3) (q_mod (q_mul (q_v 4) (q_v 2)) (q_v 1))))))
      (x_one (x_ret (q_v 3)))))) hm (fun _ _ _ _ _ _ us hl => match us, hl with | [_, _, _], _ => rfl)
/-! Field.reduced -/
abbrev s_Field_reduced : Stmt := inClass (top 17) 1
theorem sc_Field_reduced : FnScope ["self", "row", "found", "top", "many", "at", "own"] ["self", "row"] (defScope s_Field_reduced) := ⟨rfl, rfl, rfl, by decide +kernel, rfl, by decide +kernel, by decide +kernel⟩
theorem ok_Field_reduced {f : Addr} {fd : FuncData} (T : Bs K mg) (F : FunD K "reduced" "Field.reduced" (defArgs s_Field_reduced) (defBody s_Field_reduced) (defScope s_Field_reduced) [] [] f fd) (hm : Meth K (He.ga K (clsN 0)) "reduced" f) (h_moved : Has P w K mg base 1 "moved" 3 r_moved) : HasM P w K mg base 2 0 "reduced" 1 r_Field_reduced :=
  hasM_of F (fn_run F sc_Field_reduced rfl rfl fun cdv A outer s H E hr =>
      (x_cons (x_set (i := 2) sc_Field_reduced.nd (q_call (h_moved.apartR) (hr.mono (by first | exact Nat.le_refl _ | omega)) (a_cons (q_v 1) (a_cons (q_fld 0 0 (T.f_Field_order) (q_v 0)) (a_cons q_int a_nil)))))
      (x_cons (x_for 1000 PassesOwn.never rfl (i_rng3 T.b_range (a_cons (q_sub (q_fld 0 0 (T.f_Field_order) (q_v 0)) q_int) (a_cons (q_sub (q_fld 0 2 (T.f_Field_degree) (q_v 0)) q_int) (a_cons (q_neg q_int) a_nil)))) (g_name (i := 3) sc_Field_reduced.nd) (x_cons (x_set (i := 4) sc_Field_reduced.nd (q_ix (q_v 2) (q_v 3)))
      (x_one (x_if (u_cmp (opr_or op_ne (op_neD hr.units)) ok_ne (q_v 4) q_int (nomark _)) (x_one (x_for 1000 PassesOwn.never rfl (i_enum T.b_enumerate (q_fld 0 1 (T.f_Field_polynomial) (q_v 0))) (g_tup rfl (gs_cons (g_name (i := 5) sc_Field_reduced.nd) (gs_cons (g_name (i := 6) sc_Field_reduced.nd) gs_nil))) (x_one (x_asg (q_sub (q_ix (q_v 2) (q_add (q_sub (q_v 3) (q_fld 0 2 (T.f_Field_degree) (q_v 0))) (q_v 5))) (q_mul (q_v 4) (q_v 6))) (g_sub (q_v 2) (q_add (q_sub (q_v 3) (q_fld 0 2 (T.f_Field_degree) (q_v 0))) (q_v 5))))))) x_nil))))
      (x_one (x_ret (q_tuple T.b_tuple (a_cons (q_sl (q_v 2) o_no (o_at (q_fld 0 2 (T.f_Field_degree) (q_v 0)))) a_nil))))))) hm T.f_Field_degree.1 (fun _ _ _ _ _ _ us hl => match us, hl with | [_, _], _ => rfl)
/-! Field.turned -/
abbrev s_Field_turned : Stmt := inClass (top 17) 3
theorem sc_Field_turned : FnScope ["self", "row", "k"] ["self", "row", "k"] (defScope s_Field_turned) := ⟨rfl, rfl, rfl, by decide +kernel, rfl, by decide +kernel, by decide +kernel⟩
theorem ok_Field_turned {f : Addr} {fd : FuncData} (T : Bs K mg) (F : FunD K "turned" "Field.turned" (defArgs s_Field_turned) (defBody s_Field_turned) (defScope s_Field_turned) [] [] f fd) (hm : Meth K (He.ga K (clsN 0)) "turned" f) (h_Field_reduced : HasM P w K mg base 2 0 "reduced" 1 r_Field_reduced) : HasM P w K mg base 3 0 "turned" 2 r_Field_turned :=
  hasM_of F (fn_run F sc_Field_turned rfl rfl fun cdv A outer s H E hr =>
      (x_one (x_ret (q_meth h_Field_reduced.apart (hr.mono (by first | exact Nat.le_refl _ | omega)) (q_v 0) (a_cons (q_lst (a_star (q_mul (q_lst (a_cons q_int a_nil)) (q_mod (q_v 2) (q_fld 0 0 (T.f_Field_order) (q_v 0)))) (a_star (q_v 1) a_nil))) a_nil))))) hm T.f_Field_degree.1 (fun _ _ _ _ _ _ us hl => match us, hl with | [_, _, _], _ => rfl)
/-! Field.power -/
abbrev s_Field_power : Stmt := inClass (top 17) 2
theorem sc_Field_power : FnScope ["self", "k"] ["self", "k"] (defScope s_Field_power) := ⟨rfl, rfl, rfl, by decide +kernel, rfl, by decide +kernel, by decide +kernel⟩
theorem ok_Field_power {f : Addr} {fd : FuncData} (T : Bs K mg) (F : FunD K "power" "Field.power" (defArgs s_Field_power) (defBody s_Field_power) (defScope s_Field_power) [] [] f fd) (hm : Meth K (He.ga K (clsN 0)) "power" f) (h_Field_turned : HasM P w K mg base 3 0 "turned" 2 r_Field_turned) : HasM P w K mg base 4 0 "power" 1 r_Field_power :=
  hasM_of F (fn_run F sc_Field_power rfl rfl fun cdv A outer s H E hr =>
      (x_one (x_ret (q_meth h_Field_turned.apart (hr.mono (by first | exact Nat.le_refl _ | omega)) (q_v 0) (a_cons (q_tup (a_cons q_int a_nil)) (a_cons (q_v 1) a_nil)))))) hm T.f_Field_degree.1 (fun _ _ _ _ _ _ us hl => match us, hl with | [_, _], _ => rfl)
/-! Field.kin -/
abbrev s_Field_kin : Stmt := inClass (top 17) 5
theorem sc_Field_kin : FnScope ["self", "row", "k"] ["self", "row", "k"] (defScope s_Field_kin) := ⟨rfl, rfl, rfl, by decide +kernel, rfl, by decide +kernel, by decide +kernel⟩
theorem ok_Field_kin {f : Addr} {fd : FuncData} (T : Bs K mg) (F : FunD K "kin" "Field.kin" (defArgs s_Field_kin) (defBody s_Field_kin) (defScope s_Field_kin) [] [] f fd) (hm : Meth K (He.ga K (clsN 0)) "kin" f) (h_moved : Has P w K mg base 1 "moved" 3 r_moved) (h_Field_reduced : HasM P w K mg base 2 0 "reduced" 1 r_Field_reduced) : HasM P w K mg base 3 0 "kin" 2 r_Field_kin :=
  hasM_of F (fn_run F sc_Field_kin rfl rfl fun cdv A outer s H E hr =>
      (x_one (x_ret (q_meth h_Field_reduced.apart (hr.mono (by first | exact Nat.le_refl _ | omega)) (q_v 0) (a_cons (q_call (h_moved.apart) (hr.mono (by first | exact Nat.le_refl _ | omega)) (a_cons (q_v 1) (a_cons (q_fld 0 0 (T.f_Field_order) (q_v 0)) (a_cons (q_v 2) a_nil)))) a_nil))))) hm T.f_Field_degree.1 (fun _ _ _ _ _ _ us hl => match us, hl with | [_, _, _], _ => rfl)
/-! Field.back -/
abbrev s_Field_back : Stmt := inClass (top 17) 4
theorem sc_Field_back : FnScope ["self", "row"] ["self", "row"] (defScope s_Field_back) := ⟨rfl, rfl, rfl, by decide +kernel, rfl, by decide +kernel, by decide +kernel⟩
theorem ok_Field_back {f : Addr} {fd : FuncData} (T : Bs K mg) (F : FunD K "back" "Field.back" (defArgs s_Field_back) (defBody s_Field_back) (defScope s_Field_back) [] [] f fd) (hm : Meth K (He.ga K (clsN 0)) "back" f) (h_Field_kin : HasM P w K mg base 3 0 "kin" 2 r_Field_kin) : HasM P w K mg base 4 0 "back" 1 r_Field_back :=
  hasM_of F (fn_run F sc_Field_back rfl rfl fun cdv A outer s H E hr =>
      (x_one (x_ret (q_meth h_Field_kin.apart (hr.mono (by first | exact Nat.le_refl _ | omega)) (q_v 0) (a_cons (q_v 1) (a_cons (q_neg q_int) a_nil)))))) hm T.f_Field_degree.1 (fun _ _ _ _ _ _ us hl => match us, hl with | [_, _], _ => rfl)
/-! Field.product -/
abbrev s_Field_product : Stmt := inClass (top 17) 6
theorem sc_Field_product : FnScope ["self", "one", "two", "found", "at", "each", "place", "own"] ["self", "one", "two"] (defScope s_Field_product) := ⟨rfl, rfl, rfl, by decide +kernel, rfl, by decide +kernel, by decide +kernel⟩
theorem ok_Field_product {f : Addr} {fd : FuncData} (T : Bs K mg) (F : FunD K "product" "Field.product" (defArgs s_Field_product) (defBody s_Field_product) (defScope s_Field_product) [] [] f fd) (hm : Meth K (He.ga K (clsN 0)) "product" f) (h_Field_reduced : HasM P w K mg base 2 0 "reduced" 1 r_Field_reduced) : HasM P w K mg base 3 0 "product" 2 r_Field_product :=
  hasM_of F (fn_run F sc_Field_product rfl rfl fun cdv A outer s H E hr =>
      (x_cons (x_set (i := 3) sc_Field_product.nd (q_mul (q_lst (a_cons q_int a_nil)) (q_add (q_len T.b_len (a_cons (q_v 1) a_nil)) (q_len T.b_len (a_cons (q_v 2) a_nil)))))
      (x_cons (x_for 1000 PassesOwn.never rfl (i_enum T.b_enumerate (q_v 1)) (g_tup rfl (gs_cons (g_name (i := 4) sc_Field_product.nd) (gs_cons (g_name (i := 5) sc_Field_product.nd) gs_nil))) (x_one (x_for 1000 PassesOwn.never rfl (i_enum T.b_enumerate (q_v 2)) (g_tup rfl (gs_cons (g_name (i := 6) sc_Field_product.nd) (gs_cons (g_name (i := 7) sc_Field_product.nd) gs_nil))) (x_one (x_asg (q_add (q_ix (q_v 3) (q_add (q_v 4) (q_v 6))) (q_mul (q_v 5) (q_v 7))) (g_sub (q_v 3) (q_add (q_v 4) (q_v 6))))))))
      (x_one (x_ret (q_meth h_Field_reduced.apart (hr.mono (by first | exact Nat.le_refl _ | omega)) (q_v 0) (a_cons (q_v 3) a_nil))))))) hm T.f_Field_degree.1 (fun _ _ _ _ _ _ us hl => match us, hl with | [_, _, _], _ => rfl)
/-! Field.lifted -/
abbrev s_Field_lifted : Stmt := inClass (top 17) 7
theorem sc_Field_lifted : FnScope ["self", "row", "order"] ["self", "row", "order"] (defScope s_Field_lifted) := ⟨rfl, rfl, rfl, by decide +kernel, rfl, by decide +kernel, by decide +kernel⟩
theorem ok_Field_lifted {f : Addr} {fd : FuncData} (T : Bs K mg) (F : FunD K "lifted" "Field.lifted" (defArgs s_Field_lifted) (defBody s_Field_lifted) (defScope s_Field_lifted) [] [] f fd) (hm : Meth K (He.ga K (clsN 0)) "lifted" f) (h_moved : Has P w K mg base 1 "moved" 3 r_moved) (h_Field_reduced : HasM P w K mg base 2 0 "reduced" 1 r_Field_reduced) : HasM P w K mg base 3 0 "lifted" 2 r_Field_lifted :=
  hasM_of F (fn_run F sc_Field_lifted rfl rfl fun cdv A outer s H E hr =>
      (x_one (x_ret (q_meth h_Field_reduced.apart (hr.mono (by first | exact Nat.le_refl _ | omega)) (q_v 0) (a_cons (q_call (h_moved.apart) (hr.mono (by first | exact Nat.le_refl _ | omega)) (a_cons (q_v 1) (a_cons (q_fld 0 0 (T.f_Field_order) (q_v 0)) (a_cons (q_div (q_fld 0 0 (T.f_Field_order) (q_v 0)) (q_v 2)) a_nil)))) a_nil))))) hm T.f_Field_degree.1 (fun _ _ _ _ _ _ us hl => match us, hl with | [_, _, _], _ => rfl)
/-! undone -/
abbrev s_undone : Stmt := top 19
theorem sc_undone : FnScope ["number", "order", "each"] ["number", "order"] (defScope s_undone) := ⟨rfl, rfl, rfl, by decide +kernel, rfl, by decide +kernel, by decide +kernel⟩
theorem ok_undone {f : Addr} {fd : FuncData} (T : Bs K mg) (F : FnP K "undone" s_undone f fd) (hm : mg "undone" = some (.ref f)) : Has P w K mg base 1 "undone" 2 r_undone :=
  has_of F (fn_run F sc_undone rfl rfl fun cdv A outer s H E hr =>
      (x_one (x_ret (q_ix (q_lc 1000 [("each", 2)] rfl sc_undone.nd (i_rng1 T.b_range (a_cons (q_v 1) a_nil)) (blkOk_by (by kernel_rfl)) (gc_name (by decide)) (fun _ _ _ _ _ => (pg_n 2 sc_undone.nd)) (fun _ _ _ _ _ => (pts_one (u_cmp (op_eqA hr.units) ok_eq (q_mod (q_sub (q_mul (q_v 2) (q_v 0)) q_int) (q_v 1)) q_int (nomark _)))) (fun _ _ _ _ _ => (q_v 2))) q_int)))) hm (fun _ _ _ _ _ _ us hl => match us, hl with | [_, _], _ => rfl)
/-! by_square -/
abbrev s_by_square : Stmt := top 20
theorem sc_by_square : FnScope ["order", "row", "prime", "at", "each"] ["order", "row", "prime"] (defScope s_by_square) := ⟨rfl, rfl, rfl, by decide +kernel, rfl, by decide +kernel, by decide +kernel⟩
theorem ok_by_square {f : Addr} {fd : FuncData} (T : Bs K mg) (F : FnP K "by_square" s_by_square f fd) (hm : mg "by_square" = some (.ref f)) : Has P w K mg base 1 "by_square" 3 r_by_square :=
  has_of F (fn_run F sc_by_square rfl rfl fun cdv A outer s H E hr =>
      (x_cons (x_if (u_tru (q_any T.b_any rfl (a_cons (q_lc 1000 [("at", 3), ("each", 4)] rfl sc_by_square.nd (i_enum T.b_enumerate (q_v 1)) (blkOk_by (by kernel_rfl)) (gc_tup (gcs_cons (gc_name (by decide)) (gcs_cons (gc_name (by decide)) gcs_nil))) (fun _ _ _ _ _ => (pg_tup rfl (pgs_cons (pg_n 3 sc_by_square.nd) (pgs_cons (pg_n 4 sc_by_square.nd) pgs_nil)))) (fun _ _ _ _ _ => ts_nil) (fun _ _ _ _ _ => (q_and (q_cmp (opr_or op_ne (op_neD hr.units)) ok_ne (q_v 4) q_int (nomark _)) (q_one (q_cmp op_gt ok_gt (q_mod (q_v 3) (q_v 2)) q_int (nomark _)))))) a_nil))) (x_one (x_ret (q_lst a_nil))) x_nil)
      (x_one (x_ret (q_lst (a_cons (q_tup (a_cons (q_div (q_v 0) (q_v 2)) (a_cons (q_tuple T.b_tuple (a_cons (q_stp (q_v 1) (q_v 2)) a_nil)) a_nil))) a_nil)))))) hm (fun _ _ _ _ _ _ us hl => match us, hl with | [_, _, _], _ => rfl)
/-! by_two -/
abbrev s_by_two : Stmt := top 21
theorem sc_by_two : FnScope ["order", "row", "half", "found", "at", "each", "place"] ["order", "row"] (defScope s_by_two) := ⟨rfl, rfl, rfl, by decide +kernel, rfl, by decide +kernel, by decide +kernel⟩
theorem ok_by_two {f : Addr} {fd : FuncData} (T : Bs K mg) (F : FnP K "by_two" s_by_two f fd) (hm : mg "by_two" = some (.ref f)) (h_Field_reduced : HasM P w K mg base 2 0 "reduced" 1 r_Field_reduced) (hc_Field : HasC P w K mg base 4 0 1 r_Field) : Has P w K mg base 6 "by_two" 2 r_by_two :=
  has_of F (fn_run F sc_by_two rfl rfl fun cdv A outer s H E hr =>
      (x_cons (x_set (i := 2) sc_by_two.nd (q_div (q_v 0) q_int))
      (x_cons (x_set (i := 3) sc_by_two.nd (q_mul (q_lst (a_cons q_int a_nil)) (q_v 2)))
      (x_cons (x_for 1000 PassesOwn.never rfl (i_enum T.b_enumerate (q_v 1)) (g_tup rfl (gs_cons (g_name (i := 4) sc_by_two.nd) (gs_cons (g_name (i := 5) sc_by_two.nd) gs_nil))) (x_cons (x_set (i := 6) sc_by_two.nd (q_mod (q_mul (q_v 4) (q_div (q_add (q_v 2) q_int) q_int)) (q_v 2)))
      (x_one (x_asg (q_add (q_ix (q_v 3) (q_v 6)) (q_if (u_cmp (op_eqA hr.units) ok_eq (q_mod (q_v 4) q_int) q_int (nomark _)) (q_v 5) (q_neg (q_v 5)))) (g_sub (q_v 3) (q_v 6))))))
      (x_one (x_ret (q_lst (a_cons (q_tup (a_cons (q_v 2) (a_cons (q_meth h_Field_reduced.apart (hr.mono (by first | exact Nat.le_refl _ | omega)) (q_make hc_Field (hr.mono (by first | exact Nat.le_refl _ | omega)) (Nat.le_refl _) (a_cons (q_v 2) a_nil)) (a_cons (q_v 3) a_nil)) a_nil))) a_nil)))))))) hm (fun _ _ _ _ _ _ us hl => match us, hl with | [_, _], _ => rfl)
/-! by_odd -/
abbrev s_by_odd : Stmt := top 22
theorem sc_by_odd : FnScope ["order", "row", "prime", "rest", "own", "other", "lots", "at", "each", "field", "first", "second", "others", "lot", "place", "_", "one", "two"] ["order", "row", "prime"] (defScope s_by_odd) := ⟨rfl, rfl, rfl, by decide +kernel, rfl, by decide +kernel, by decide +kernel⟩
theorem ok_by_odd {f : Addr} {fd : FuncData} (T : Bs K mg) (F : FnP K "by_odd" s_by_odd f fd) (hm : mg "by_odd" = some (.ref f)) (h_undone : Has P w K mg base 1 "undone" 2 r_undone) (h_Field_reduced : HasM P w K mg base 2 0 "reduced" 1 r_Field_reduced) (hc_Field : HasC P w K mg base 4 0 1 r_Field) : Has P w K mg base 6 "by_odd" 3 r_by_odd :=
  has_of F (fn_run F sc_by_odd rfl rfl fun cdv A outer s H E hr =>
      (x_cons (x_set (i := 3) sc_by_odd.nd (q_div (q_v 0) (q_v 2)))
      (x_cons (x_par (i := 4) (j := 5) rfl sc_by_odd.nd (a_cons (q_call (h_undone.apart) (hr.mono (by first | exact Nat.le_refl _ | omega)) (a_cons (q_v 3) (a_cons (q_v 2) a_nil))) (a_cons (q_call (h_undone.apart) (hr.mono (by first | exact Nat.le_refl _ | omega)) (a_cons (q_v 2) (a_cons (q_v 3) a_nil))) a_nil)))
      (x_cons (x_setlc 6 1000 [("_", 15)] rfl sc_by_odd.nd (i_rng1 T.b_range (a_cons (q_v 2) a_nil)) (blkOk_by (by kernel_rfl)) (gc_name (by decide)) (fun _ _ _ _ _ => (pg_n 15 sc_by_odd.nd)) (fun _ _ _ _ _ => ts_nil) (fun _ _ _ _ _ => (q_mul (q_lst (a_cons q_int a_nil)) (q_v 3))))
      (x_cons (x_for 1000 PassesOwn.never rfl (i_enum T.b_enumerate (q_v 1)) (g_tup rfl (gs_cons (g_name (i := 7) sc_by_odd.nd) (gs_cons (g_name (i := 8) sc_by_odd.nd) gs_nil))) (x_cons (x_par (i := 13) (j := 14) rfl sc_by_odd.nd (a_cons (q_ix (q_v 6) (q_mod (q_mul (q_v 7) (q_v 4)) (q_v 2))) (a_cons (q_mod (q_mul (q_v 7) (q_v 5)) (q_v 3)) a_nil)))
      (x_one (x_asg (q_add (q_ix (q_v 13) (q_v 14)) (q_v 8)) (g_sub (q_v 13) (q_v 14))))))
      (x_cons (x_set (i := 9) sc_by_odd.nd (q_make hc_Field (hr.mono (by first | exact Nat.le_refl _ | omega)) (Nat.le_refl _) (a_cons (q_v 3) a_nil)))
      (x_cons (x_asg (q_lc 1000 [("lot", 13)] rfl sc_by_odd.nd (i_seq (q_v 6)) (blkOk_by (by kernel_rfl)) (gc_name (by decide)) (fun _ _ _ _ _ => (pg_n 13 sc_by_odd.nd)) (fun _ _ _ _ _ => ts_nil) (fun _ _ _ _ _ => (q_meth h_Field_reduced.apart (hr.mono (by first | exact Nat.le_refl _ | omega)) (q_v 9) (a_cons (q_v 13) a_nil)))) (g_str rfl (gs_cons (g_name (i := 10) sc_by_odd.nd) (gs_cons (g_name (i := 11) sc_by_odd.nd) (gs_star (g_name (i := 12) sc_by_odd.nd) gs_nil)))))
      (x_cons (x_if (u_tru (q_any T.b_any rfl (a_cons (q_lc 1000 [("each", 8)] rfl sc_by_odd.nd (i_seq (q_v 12)) (blkOk_by (by kernel_rfl)) (gc_name (by decide)) (fun _ _ _ _ _ => (pg_n 8 sc_by_odd.nd)) (fun _ _ _ _ _ => ts_nil) (fun _ _ _ _ _ => (q_cmp (opr_or op_ne (op_neD hr.units)) ok_ne (q_v 8) (q_v 11) (nomark _)))) a_nil))) (x_one (x_ret (q_lst a_nil))) x_nil)
      (x_one (x_ret (q_lst (a_cons (q_tup (a_cons (q_v 3) (a_cons (q_tuple T.b_tuple (a_cons (q_lc 1000 [("one", 16), ("two", 17)] rfl sc_by_odd.nd (i_zip T.b_zip (q_v 10) (q_v 11)) (blkOk_by (by kernel_rfl)) (gc_tup (gcs_cons (gc_name (by decide)) (gcs_cons (gc_name (by decide)) gcs_nil))) (fun _ _ _ _ _ => (pg_tup rfl (pgs_cons (pg_n 16 sc_by_odd.nd) (pgs_cons (pg_n 17 sc_by_odd.nd) pgs_nil)))) (fun _ _ _ _ _ => ts_nil) (fun _ _ _ _ _ => (q_sub (q_v 16) (q_v 17)))) a_nil)) a_nil))) a_nil)))))))))))) hm (fun _ _ _ _ _ _ us hl => match us, hl with | [_, _, _], _ => rfl)
/-! lowered -/
abbrev s_lowered : Stmt := top 23
theorem sc_lowered : FnScope ["order", "row", "prime", "found"] ["order", "row"] (defScope s_lowered) := ⟨rfl, rfl, rfl, by decide +kernel, rfl, by decide +kernel, by decide +kernel⟩
theorem ok_lowered {f : Addr} {fd : FuncData} (T : Bs K mg) (F : FnP K "lowered" s_lowered f fd) (hm : mg "lowered" = some (.ref f)) (h_by_odd : Has P w K mg base 6 "by_odd" 3 r_by_odd) (h_by_square : Has P w K mg base 1 "by_square" 3 r_by_square) (h_by_two : Has P w K mg base 6 "by_two" 2 r_by_two) (h_primes_of : Has P w K mg base 2 "primes_of" 1 r_primes_of) : Has P w K mg base 7 "lowered" 2 r_lowered :=
  has_of F (fn_run F sc_lowered rfl rfl fun cdv A outer s H E hr =>
      (x_cons (x_for 1000 PassesOwn.never rfl (i_seq (q_call (h_primes_of.apart) (hr.mono (by first | exact Nat.le_refl _ | omega)) (a_cons (q_v 0) a_nil))) (g_name (i := 2) sc_lowered.nd) (x_cons (x_if (u_cmp (op_eqA hr.units) ok_eq (q_mod (q_div (q_v 0) (q_v 2)) (q_v 2)) q_int (nomark _)) (x_one (x_set (i := 3) sc_lowered.nd (q_call (h_by_square.apartR) (hr.mono (by first | exact Nat.le_refl _ | omega)) (a_cons (q_v 0) (a_cons (q_v 1) (a_cons (q_v 2) a_nil)))))) (x_one (x_set (i := 3) sc_lowered.nd (q_if (u_cmp (op_eqA hr.units) ok_eq (q_v 2) q_int (nomark _)) (q_call (h_by_two.apartR) (hr.mono (by first | exact Nat.le_refl _ | omega)) (a_cons (q_v 0) (a_cons (q_v 1) a_nil))) (q_call (h_by_odd.apartR) (hr.mono (by first | exact Nat.le_refl _ | omega)) (a_cons (q_v 0) (a_cons (q_v 1) (a_cons (q_v 2) a_nil))))))))
      (x_one (x_if (u_cmp (opr_or op_ne (op_neD hr.units)) ok_ne (q_v 3) (q_lst a_nil) (nomark _)) (x_one (x_ret (q_v 3))) x_nil))))
      (x_one (x_ret (q_lst a_nil))))) hm (fun _ _ _ _ _ _ us hl => match us, hl with | [_, _], _ => rfl)
/-! lowest -/
abbrev s_lowest : Stmt := top 24
theorem sc_lowest : FnScope ["order", "row", "here", "found"] ["order", "row"] (defScope s_lowest) := ⟨rfl, rfl, rfl, by decide +kernel, rfl, by decide +kernel, by decide +kernel⟩
theorem ok_lowest {f : Addr} {fd : FuncData} (T : Bs K mg) (F : FnP K "lowest" s_lowest f fd) (hm : mg "lowest" = some (.ref f)) (h_lowered : Has P w K mg base 7 "lowered" 2 r_lowered) : Has P w K mg base 8 "lowest" 2 r_lowest :=
  has_of F (fn_run F sc_lowest rfl rfl fun cdv A outer s H E hr =>
      (x_cons (x_par (i := 2) (j := 3) rfl sc_lowest.nd (a_cons (q_tup (a_cons (q_v 0) (a_cons (q_v 1) a_nil))) (a_cons (q_call (h_lowered.apart) (hr.mono (by first | exact Nat.le_refl _ | omega)) (a_cons (q_v 0) (a_cons (q_v 1) a_nil))) a_nil)))
      (x_cons (x_while 1000 PassesOwn.never (u_cmp (opr_or op_ne (op_neD hr.units)) ok_ne (q_v 3) (q_lst a_nil) (nomark _)) (x_cons (x_set (i := 2) sc_lowest.nd (q_ix (q_v 3) q_int))
      (x_one (x_set (i := 3) sc_lowest.nd (q_calls (h_lowered.apart) (hr.mono (by first | exact Nat.le_refl _ | omega)) (q_v 2))))))
      (x_one (x_ret (q_v 2)))))) hm (fun _ _ _ _ _ _ us hl => match us, hl with | [_, _], _ => rfl)
/-! is_whole -/
abbrev s_is_whole : Stmt := top 26
theorem sc_is_whole : FnScope ["value"] ["value"] (defScope s_is_whole) := ⟨rfl, rfl, rfl, by decide +kernel, rfl, by decide +kernel, by decide +kernel⟩
theorem ok_is_whole {f : Addr} {fd : FuncData} (T : Bs K mg) (F : FnP K "is_whole" s_is_whole f fd) (hm : mg "is_whole" = some (.ref f)) : Has P w K mg base 1 "is_whole" 1 r_is_whole :=
  has_of F (fn_run F sc_is_whole rfl rfl fun cdv A outer s H E hr =>
      (x_one (x_ret (q_and (q_isi tab_int (by decide +kernel) T.b_int T.b_isinstance (q_v 0)) (q_one (q_not (q_isi tab_bool (by decide +kernel) T.b_bool T.b_isinstance (q_v 0)))))))) hm (fun _ _ _ _ _ _ us hl => match us, hl with | [_], _ => rfl)
/-! is_from -/
abbrev s_is_from : Stmt := top 27
theorem sc_is_from : FnScope ["value", "least", "most"] ["value", "least", "most"] (defScope s_is_from) := ⟨rfl, rfl, rfl, by decide +kernel, rfl, by decide +kernel, by decide +kernel⟩
theorem ok_is_from {f : Addr} {fd : FuncData} (T : Bs K mg) (F : FnP K "is_from" s_is_from f fd) (hm : mg "is_from" = some (.ref f)) (h_is_whole : Has P w K mg base 1 "is_whole" 1 r_is_whole) : Has P w K mg base 2 "is_from" 3 r_is_from :=
  has_of F (fn_run F sc_is_from rfl rfl fun cdv A outer s H E hr =>
      (x_one (x_ret (q_and (q_call (h_is_whole.apart) (hr.mono (by first | exact Nat.le_refl _ | omega)) (a_cons (q_v 0) a_nil)) (q_one (q_chain op_le op_le ok_le ok_le (q_v 1) (q_v 0) (q_v 2))))))) hm (fun _ _ _ _ _ _ us hl => match us, hl with | [_, _, _], _ => rfl)
/-! is_row_of -/
abbrev s_is_row_of : Stmt := top 28
theorem sc_is_row_of : FnScope ["value", "many"] ["value", "many"] (defScope s_is_row_of) := ⟨rfl, rfl, rfl, by decide +kernel, rfl, by decide +kernel, by decide +kernel⟩
theorem ok_is_row_of {f : Addr} {fd : FuncData} (T : Bs K mg) (F : FnP K "is_row_of" s_is_row_of f fd) (hm : mg "is_row_of" = some (.ref f)) : Has P w K mg base 1 "is_row_of" 2 r_is_row_of :=
  has_of F (fn_run F sc_is_row_of rfl rfl fun cdv A outer s H E hr =>
      (x_one (x_ret (q_and (q_isi tab_tuple (by decide +kernel) T.b_tuple T.b_isinstance (q_v 0)) (q_one (q_cmp (op_eqA hr.units) ok_eq (q_len T.b_len (a_cons (q_v 0) a_nil)) (q_v 1) (nomark _))))))) hm (fun _ _ _ _ _ _ us hl => match us, hl with | [_, _], _ => rfl)
/-! is_fraction -/
abbrev s_is_fraction : Stmt := top 32
theorem sc_is_fraction : FnScope ["value"] ["value"] (defScope s_is_fraction) := ⟨rfl, rfl, rfl, by decide +kernel, rfl, by decide +kernel, by decide +kernel⟩
theorem ok_is_fraction {f : Addr} {fd : FuncData} (T : Bs K mg) (F : FnP K "is_fraction" s_is_fraction f fd) (hm : mg "is_fraction" = some (.ref f)) (h_is_row_of : Has P w K mg base 1 "is_row_of" 2 r_is_row_of) (h_is_whole : Has P w K mg base 1 "is_whole" 1 r_is_whole) : Has P w K mg base 2 "is_fraction" 1 r_is_fraction :=
  has_of F (fn_run F sc_is_fraction rfl rfl fun cdv A outer s H E hr =>
      (x_cons (x_if (PW.pt (w_or (u_not (u_tru (q_call (h_is_row_of.apart) (hr.mono (by first | exact Nat.le_refl _ | omega)) (a_cons (q_v 0) (a_cons (q_gint T.c_PAIR) a_nil))))) (w_or (u_not (u_tru (q_call (h_is_whole.apart) (hr.mono (by first | exact Nat.le_refl _ | omega)) (a_cons (q_ix (q_v 0) q_int) a_nil)))) (w_or1 (u_not (u_tru (q_call (h_is_whole.apart) (hr.mono (by first | exact Nat.le_refl _ | omega)) (a_cons (q_ix (q_v 0) q_int) a_nil)))))))) (x_one (x_ret q_bl)) x_nil)
      (x_one (x_ret (q_and (q_cmp op_gt ok_gt (q_ix (q_v 0) q_int) q_int (nomark _)) (q_one (q_cmp (op_eqA hr.units) ok_eq (q_gcd T.g_gcd (a_cons (q_ix (q_v 0) q_int) (a_cons (q_ix (q_v 0) q_int) a_nil))) q_int (nomark _)))))))) hm (fun _ _ _ _ _ _ us hl => match us, hl with | [_], _ => rfl)
/-! fraction_of -/
abbrev s_fraction_of : Stmt := top 33
theorem sc_fraction_of : FnScope ["above", "below", "common"] ["above", "below"] (defScope s_fraction_of) := ⟨rfl, rfl, rfl, by decide +kernel, rfl, by decide +kernel, by decide +kernel⟩
theorem ok_fraction_of {f : Addr} {fd : FuncData} (T : Bs K mg) (F : FnP K "fraction_of" s_fraction_of f fd) (hm : mg "fraction_of" = some (.ref f)) : Has P w K mg base 1 "fraction_of" 2 r_fraction_of :=
  has_of F (fn_run F sc_fraction_of rfl rfl fun cdv A outer s H E hr =>
      (x_cons (x_set (i := 2) sc_fraction_of.nd (q_gcd T.g_gcd (a_cons (q_v 0) (a_cons (q_v 1) a_nil))))
      (x_one (x_ret (q_tup (a_cons (q_div (q_v 0) (q_v 2)) (a_cons (q_div (q_v 1) (q_v 2)) a_nil))))))) hm (fun _ _ _ _ _ _ us hl => match us, hl with | [_, _], _ => rfl)
/-! is_order -/
abbrev s_is_order : Stmt := top 34
theorem sc_is_order : FnScope ["value"] ["value"] (defScope s_is_order) := ⟨rfl, rfl, rfl, by decide +kernel, rfl, by decide +kernel, by decide +kernel⟩
theorem ok_is_order {f : Addr} {fd : FuncData} (T : Bs K mg) (F : FnP K "is_order" s_is_order f fd) (hm : mg "is_order" = some (.ref f)) (h_is_from : Has P w K mg base 2 "is_from" 3 r_is_from) : Has P w K mg base 3 "is_order" 1 r_is_order :=
  has_of F (fn_run F sc_is_order rfl rfl fun cdv A outer s H E hr =>
      (x_one (x_ret (q_call (h_is_from.apart) (hr.mono (by first | exact Nat.le_refl _ | omega)) (a_cons (q_v 0) (a_cons q_int (a_cons (q_gint T.c_MOST_ORDER) a_nil))))))) hm (fun _ _ _ _ _ _ us hl => match us, hl with | [_], _ => rfl)
/-! wholes_of -/
abbrev s_wholes_of : Stmt := top 35
theorem sc_wholes_of : FnScope ["parts", "below", "_", "own", "above"] ["parts"] (defScope s_wholes_of) := ⟨rfl, rfl, rfl, by decide +kernel, rfl, by decide +kernel, by decide +kernel⟩
theorem ok_wholes_of {f : Addr} {fd : FuncData} (T : Bs K mg) (F : FnP K "wholes_of" s_wholes_of f fd) (hm : mg "wholes_of" = some (.ref f)) (h_multiple : Has P w K mg base 1 "multiple" 2 r_multiple) : Has P w K mg base 2 "wholes_of" 1 r_wholes_of :=
  has_of F (fn_run F sc_wholes_of rfl rfl fun cdv A outer s H E hr =>
      (x_cons (x_set (i := 1) sc_wholes_of.nd q_int)
      (x_cons (x_for 1000 PassesOwn.never rfl (i_seq (q_v 0)) (g_tup rfl (gs_cons (g_name (i := 2) sc_wholes_of.nd) (gs_cons (g_name (i := 3) sc_wholes_of.nd) gs_nil))) (x_one (x_set (i := 1) sc_wholes_of.nd (q_call (h_multiple.apart) (hr.mono (by first | exact Nat.le_refl _ | omega)) (a_cons (q_v 1) (a_cons (q_v 3) a_nil))))))
      (x_one (x_ret (q_tup (a_cons (q_lc 1000 [("above", 4), ("own", 3)] rfl sc_wholes_of.nd (i_seq (q_v 0)) (blkOk_by (by kernel_rfl)) (gc_tup (gcs_cons (gc_name (by decide)) (gcs_cons (gc_name (by decide)) gcs_nil))) (fun _ _ _ _ _ => (pg_tup rfl (pgs_cons (pg_n 4 sc_wholes_of.nd) (pgs_cons (pg_n 3 sc_wholes_of.nd) pgs_nil)))) (fun _ _ _ _ _ => ts_nil) (fun _ _ _ _ _ => (q_mul (q_v 4) (q_div (q_v 1) (q_v 3))))) (a_cons (q_v 1) a_nil)))))))) hm (fun _ _ _ _ _ _ us hl => match us, hl with | [_], _ => rfl)
/-! parts_of -/
abbrev s_parts_of : Stmt := top 36
theorem sc_parts_of : FnScope ["row", "below", "each"] ["row", "below"] (defScope s_parts_of) := ⟨rfl, rfl, rfl, by decide +kernel, rfl, by decide +kernel, by decide +kernel⟩
theorem ok_parts_of {f : Addr} {fd : FuncData} (T : Bs K mg) (F : FnP K "parts_of" s_parts_of f fd) (hm : mg "parts_of" = some (.ref f)) (h_fraction_of : Has P w K mg base 1 "fraction_of" 2 r_fraction_of) : Has P w K mg base 2 "parts_of" 2 r_parts_of :=
  has_of F (fn_run F sc_parts_of rfl rfl fun cdv A outer s H E hr =>
      (x_one (x_ret (q_tuple T.b_tuple (a_cons (q_lc 1000 [("each", 2)] rfl sc_parts_of.nd (i_seq (q_v 0)) (blkOk_by (by kernel_rfl)) (gc_name (by decide)) (fun _ _ _ _ _ => (pg_n 2 sc_parts_of.nd)) (fun _ _ _ _ _ => ts_nil) (fun _ _ _ _ _ => (q_call (h_fraction_of.apart) (hr.mono (by first | exact Nat.le_refl _ | omega)) (a_cons (q_v 2) (a_cons (q_v 1) a_nil))))) a_nil))))) hm (fun _ _ _ _ _ _ us hl => match us, hl with | [_, _], _ => rfl)
/-! at -/
abbrev s_at : Stmt := top 37
theorem sc_at : FnScope ["field", "number", "order", "parts", "wholes", "below"] ["field", "number"] (defScope s_at) := ⟨rfl, rfl, rfl, by decide +kernel, rfl, by decide +kernel, by decide +kernel⟩
theorem ok_at {f : Addr} {fd : FuncData} (T : Bs K mg) (F : FnP K "at" s_at f fd) (hm : mg "at" = some (.ref f)) (h_wholes_of : Has P w K mg base 2 "wholes_of" 1 r_wholes_of) (h_Field_lifted : HasM P w K mg base 3 0 "lifted" 2 r_Field_lifted) : Has P w K mg base 4 "at" 2 r_at :=
  has_of F (fn_run F sc_at rfl rfl fun cdv A outer s H E hr =>
      (x_cons (x_asg (q_v 1) (g_tup rfl (gs_cons (g_name (i := 2) sc_at.nd) (gs_cons (g_name (i := 3) sc_at.nd) gs_nil))))
      (x_cons (x_asg (q_call (h_wholes_of.apart) (hr.mono (by first | exact Nat.le_refl _ | omega)) (a_cons (q_v 3) a_nil)) (g_tup rfl (gs_cons (g_name (i := 4) sc_at.nd) (gs_cons (g_name (i := 5) sc_at.nd) gs_nil))))
      (x_one (x_ret (q_tup (a_cons (q_meth h_Field_lifted.apart (hr.mono (by first | exact Nat.le_refl _ | omega)) (q_v 0) (a_cons (q_v 4) (a_cons (q_v 2) a_nil))) (a_cons (q_v 5) a_nil)))))))) hm (fun _ _ _ _ _ _ us hl => match us, hl with | [_, _], _ => rfl)
/-! least -/
abbrev s_least : Stmt := top 38
theorem sc_least : FnScope ["field", "row", "below", "order", "own"] ["field", "row", "below"] (defScope s_least) := ⟨rfl, rfl, rfl, by decide +kernel, rfl, by decide +kernel, by decide +kernel⟩
theorem ok_least {f : Addr} {fd : FuncData} (T : Bs K mg) (F : FnP K "least" s_least f fd) (hm : mg "least" = some (.ref f)) (h_lowest : Has P w K mg base 8 "lowest" 2 r_lowest) (h_parts_of : Has P w K mg base 2 "parts_of" 2 r_parts_of) : Has P w K mg base 9 "least" 3 r_least :=
  has_of F (fn_run F sc_least rfl rfl fun cdv A outer s H E hr =>
      (x_cons (x_asg (q_call (h_lowest.apart) (hr.mono (by first | exact Nat.le_refl _ | omega)) (a_cons (q_fld 0 0 (T.f_Field_order) (q_v 0)) (a_cons (q_v 1) a_nil))) (g_tup rfl (gs_cons (g_name (i := 3) sc_least.nd) (gs_cons (g_name (i := 4) sc_least.nd) gs_nil))))
      (x_one (x_ret (q_tup (a_cons (q_v 3) (a_cons (q_call (h_parts_of.apart) (hr.mono (by first | exact Nat.le_refl _ | omega)) (a_cons (q_v 4) (a_cons (q_v 2) a_nil))) a_nil))))))) hm (fun _ _ _ _ _ _ us hl => match us, hl with | [_, _, _], _ => rfl)
/-! is_number_by -/
abbrev s_is_number_by : Stmt := top 39
theorem sc_is_number_by : FnScope ["value", "order", "parts", "field", "each"] ["value"] (defScope s_is_number_by) := ⟨rfl, rfl, rfl, by decide +kernel, rfl, by decide +kernel, by decide +kernel⟩
theorem ok_is_number_by {f : Addr} {fd : FuncData} (T : Bs K mg) (F : FnP K "is_number_by" s_is_number_by f fd) (hm : mg "is_number_by" = some (.ref f)) (h_is_fraction : Has P w K mg base 2 "is_fraction" 1 r_is_fraction) (h_is_order : Has P w K mg base 3 "is_order" 1 r_is_order) (h_is_row_of : Has P w K mg base 1 "is_row_of" 2 r_is_row_of) (h_lowest : Has P w K mg base 8 "lowest" 2 r_lowest) (h_wholes_of : Has P w K mg base 2 "wholes_of" 1 r_wholes_of) (hc_Field : HasC P w K mg base 4 0 1 r_Field) : Has P w K mg base 9 "is_number_by" 1 r_is_number_by :=
  has_of F (fn_run F sc_is_number_by rfl rfl fun cdv A outer s H E hr =>
      (x_cons (x_if (PW.pt (w_or (u_not (u_tru (q_call (h_is_row_of.apart) (hr.mono (by first | exact Nat.le_refl _ | omega)) (a_cons (q_v 0) (a_cons (q_gint T.c_PAIR) a_nil))))) (w_or1 (u_not (u_tru (q_call (h_is_order.apart) (hr.mono (by first | exact Nat.le_refl _ | omega)) (a_cons (q_ix (q_v 0) q_int) a_nil))))))) (x_one (x_ret q_bl)) x_nil)
      (x_cons (x_asg (q_v 0) (g_tup rfl (gs_cons (g_name (i := 1) sc_is_number_by.nd) (gs_cons (g_name (i := 2) sc_is_number_by.nd) gs_nil))))
      (x_cons (x_set (i := 3) sc_is_number_by.nd (q_make hc_Field (hr.mono (by first | exact Nat.le_refl _ | omega)) (Nat.le_refl _) (a_cons (q_v 1) a_nil)))
      (x_cons (x_if (PW.pt (w_or (u_not (u_tru (q_call (h_is_row_of.apart) (hr.mono (by first | exact Nat.le_refl _ | omega)) (a_cons (q_v 2) (a_cons (q_fld 0 2 (T.f_Field_degree) (q_v 3)) a_nil))))) (w_or1 (u_not (u_tru (q_all T.b_all rfl (a_cons (q_lc 1000 [("each", 4)] rfl sc_is_number_by.nd (i_seq (q_v 2)) (blkOk_by (by kernel_rfl)) (gc_name (by decide)) (fun _ _ _ _ _ => (pg_n 4 sc_is_number_by.nd)) (fun _ _ _ _ _ => ts_nil) (fun _ _ _ _ _ => (q_call (h_is_fraction.apart) (hr.mono (by first | exact Nat.le_refl _ | omega)) (a_cons (q_v 4) a_nil)))) a_nil))))))) (x_one (x_ret q_bl)) x_nil)
      (x_one (x_ret (q_cmp (op_eqA hr.units) ok_eq (q_ix (q_call (h_lowest.apart) (hr.mono (by first | exact Nat.le_refl _ | omega)) (a_cons (q_v 1) (a_cons (q_ix (q_call (h_wholes_of.apart) (hr.mono (by first | exact Nat.le_refl _ | omega)) (a_cons (q_v 2) a_nil)) q_int) a_nil))) q_int) (q_v 1) (nomark _))))))))) hm (fun _ _ _ _ _ _ us hl => match us, hl with | [_], _ => rfl)
/-! both_orders -/
abbrev s_both_orders : Stmt := top 40
theorem sc_both_orders : FnScope ["number", "number2"] ["number", "number2"] (defScope s_both_orders) := ⟨rfl, rfl, rfl, by decide +kernel, rfl, by decide +kernel, by decide +kernel⟩
theorem ok_both_orders {f : Addr} {fd : FuncData} (T : Bs K mg) (F : FnP K "both_orders" s_both_orders f fd) (hm : mg "both_orders" = some (.ref f)) (h_multiple : Has P w K mg base 1 "multiple" 2 r_multiple) : Has P w K mg base 2 "both_orders" 2 r_both_orders :=
  has_of F (fn_run F sc_both_orders rfl rfl fun cdv A outer s H E hr =>
      (x_one (x_ret (q_call (h_multiple.apart) (hr.mono (by first | exact Nat.le_refl _ | omega)) (a_cons (q_ix (q_v 0) q_int) (a_cons (q_ix (q_v 1) q_int) a_nil)))))) hm (fun _ _ _ _ _ _ us hl => match us, hl with | [_, _], _ => rfl)
/-! both_rows -/
abbrev s_both_rows : Stmt := top 41
theorem sc_both_rows : FnScope ["number", "number2", "field", "one", "below", "two", "below2", "common", "first", "each"] ["number", "number2"] (defScope s_both_rows) := ⟨rfl, rfl, rfl, by decide +kernel, rfl, by decide +kernel, by decide +kernel⟩
theorem ok_both_rows {f : Addr} {fd : FuncData} (T : Bs K mg) (F : FnP K "both_rows" s_both_rows f fd) (hm : mg "both_rows" = some (.ref f)) (h_at : Has P w K mg base 4 "at" 2 r_at) (h_both_orders : Has P w K mg base 2 "both_orders" 2 r_both_orders) (h_multiple : Has P w K mg base 1 "multiple" 2 r_multiple) (hc_Field : HasC P w K mg base 4 0 1 r_Field) : Has P w K mg base 6 "both_rows" 2 r_both_rows :=
  has_of F (fn_run F sc_both_rows rfl rfl fun cdv A outer s H E hr =>
      (x_cons (x_set (i := 2) sc_both_rows.nd (q_make hc_Field (hr.mono (by first | exact Nat.le_refl _ | omega)) (Nat.le_refl _) (a_cons (q_call (h_both_orders.apart) (hr.mono (by first | exact Nat.le_refl _ | omega)) (a_cons (q_v 0) (a_cons (q_v 1) a_nil))) a_nil)))
      (x_cons (x_asg (q_call (h_at.apart) (hr.mono (by first | exact Nat.le_refl _ | omega)) (a_cons (q_v 2) (a_cons (q_v 0) a_nil))) (g_tup rfl (gs_cons (g_name (i := 3) sc_both_rows.nd) (gs_cons (g_name (i := 4) sc_both_rows.nd) gs_nil))))
      (x_cons (x_asg (q_call (h_at.apart) (hr.mono (by first | exact Nat.le_refl _ | omega)) (a_cons (q_v 2) (a_cons (q_v 1) a_nil))) (g_tup rfl (gs_cons (g_name (i := 5) sc_both_rows.nd) (gs_cons (g_name (i := 6) sc_both_rows.nd) gs_nil))))
      (x_cons (x_set (i := 7) sc_both_rows.nd (q_call (h_multiple.apart) (hr.mono (by first | exact Nat.le_refl _ | omega)) (a_cons (q_v 4) (a_cons (q_v 6) a_nil))))
      (x_cons (x_set (i := 8) sc_both_rows.nd (q_tuple T.b_tuple (a_cons (q_lc 1000 [("each", 9)] rfl sc_both_rows.nd (i_seq (q_v 3)) (blkOk_by (by kernel_rfl)) (gc_name (by decide)) (fun _ _ _ _ _ => (pg_n 9 sc_both_rows.nd)) (fun _ _ _ _ _ => ts_nil) (fun _ _ _ _ _ => (q_mul (q_v 9) (q_div (q_v 7) (q_v 4))))) a_nil)))
      (x_one (x_ret (q_tup (a_cons (q_v 2) (a_cons (q_v 8) (a_cons (q_tuple T.b_tuple (a_cons (q_lc 1000 [("each", 9)] rfl sc_both_rows.nd (i_seq (q_v 5)) (blkOk_by (by kernel_rfl)) (gc_name (by decide)) (fun _ _ _ _ _ => (pg_n 9 sc_both_rows.nd)) (fun _ _ _ _ _ => ts_nil) (fun _ _ _ _ _ => (q_mul (q_v 9) (q_div (q_v 7) (q_v 6))))) a_nil)) (a_cons (q_v 7) a_nil))))))))))))) hm (fun _ _ _ _ _ _ us hl => match us, hl with | [_, _], _ => rfl)
/-! sum_of -/
abbrev s_sum_of : Stmt := top 42
theorem sc_sum_of : FnScope ["number", "number2", "field", "one", "two", "below", "each", "own"] ["number", "number2"] (defScope s_sum_of) := ⟨rfl, rfl, rfl, by decide +kernel, rfl, by decide +kernel, by decide +kernel⟩
theorem ok_sum_of {f : Addr} {fd : FuncData} (T : Bs K mg) (F : FnP K "sum_of" s_sum_of f fd) (hm : mg "sum_of" = some (.ref f)) (h_both_rows : Has P w K mg base 6 "both_rows" 2 r_both_rows) (h_least : Has P w K mg base 9 "least" 3 r_least) : Has P w K mg base 10 "sum_of" 2 r_sum_of :=
  has_of F (fn_run F sc_sum_of rfl rfl fun cdv A outer s H E hr =>
      (x_cons (x_asg (q_call (h_both_rows.apart) (hr.mono (by first | exact Nat.le_refl _ | omega)) (a_cons (q_v 0) (a_cons (q_v 1) a_nil))) (g_tup rfl (gs_cons (g_name (i := 2) sc_sum_of.nd) (gs_cons (g_name (i := 3) sc_sum_of.nd) (gs_cons (g_name (i := 4) sc_sum_of.nd) (gs_cons (g_name (i := 5) sc_sum_of.nd) gs_nil))))))
      (x_one (x_ret (q_call (h_least.apart) (hr.mono (by first | exact Nat.le_refl _ | omega)) (a_cons (q_v 2) (a_cons (q_tuple T.b_tuple (a_cons (q_lc 1000 [("each", 6), ("own", 7)] rfl sc_sum_of.nd (i_zip T.b_zip (q_v 3) (q_v 4)) (blkOk_by (by kernel_rfl)) (gc_tup (gcs_cons (gc_name (by decide)) (gcs_cons (gc_name (by decide)) gcs_nil))) (fun _ _ _ _ _ => (pg_tup rfl (pgs_cons (pg_n 6 sc_sum_of.nd) (pgs_cons (pg_n 7 sc_sum_of.nd) pgs_nil)))) (fun _ _ _ _ _ => ts_nil) (fun _ _ _ _ _ => (q_add (q_v 6) (q_v 7)))) a_nil)) (a_cons (q_v 5) a_nil)))))))) hm (fun _ _ _ _ _ _ us hl => match us, hl with | [_, _], _ => rfl)
/-! difference_of -/
abbrev s_difference_of : Stmt := top 43
theorem sc_difference_of : FnScope ["number", "number2", "field", "one", "two", "below", "each", "own"] ["number", "number2"] (defScope s_difference_of) := ⟨rfl, rfl, rfl, by decide +kernel, rfl, by decide +kernel, by decide +kernel⟩
theorem ok_difference_of {f : Addr} {fd : FuncData} (T : Bs K mg) (F : FnP K "difference_of" s_difference_of f fd) (hm : mg "difference_of" = some (.ref f)) (h_both_rows : Has P w K mg base 6 "both_rows" 2 r_both_rows) (h_least : Has P w K mg base 9 "least" 3 r_least) : Has P w K mg base 10 "difference_of" 2 r_difference_of :=
  has_of F (fn_run F sc_difference_of rfl rfl fun cdv A outer s H E hr =>
      (x_cons (x_asg (q_call (h_both_rows.apart) (hr.mono (by first | exact Nat.le_refl _ | omega)) (a_cons (q_v 0) (a_cons (q_v 1) a_nil))) (g_tup rfl (gs_cons (g_name (i := 2) sc_difference_of.nd) (gs_cons (g_name (i := 3) sc_difference_of.nd) (gs_cons (g_name (i := 4) sc_difference_of.nd) (gs_cons (g_name (i := 5) sc_difference_of.nd) gs_nil))))))
      (x_one (x_ret (q_call (h_least.apart) (hr.mono (by first | exact Nat.le_refl _ | omega)) (a_cons (q_v 2) (a_cons (q_tuple T.b_tuple (a_cons (q_lc 1000 [("each", 6), ("own", 7)] rfl sc_difference_of.nd (i_zip T.b_zip (q_v 3) (q_v 4)) (blkOk_by (by kernel_rfl)) (gc_tup (gcs_cons (gc_name (by decide)) (gcs_cons (gc_name (by decide)) gcs_nil))) (fun _ _ _ _ _ => (pg_tup rfl (pgs_cons (pg_n 6 sc_difference_of.nd) (pgs_cons (pg_n 7 sc_difference_of.nd) pgs_nil)))) (fun _ _ _ _ _ => ts_nil) (fun _ _ _ _ _ => (q_sub (q_v 6) (q_v 7)))) a_nil)) (a_cons (q_v 5) a_nil)))))))) hm (fun _ _ _ _ _ _ us hl => match us, hl with | [_, _], _ => rfl)
/-! product_of -/
abbrev s_product_of : Stmt := top 44
theorem sc_product_of : FnScope ["number", "number2", "field", "one", "two", "below"] ["number", "number2"] (defScope s_product_of) := ⟨rfl, rfl, rfl, by decide +kernel, rfl, by decide +kernel, by decide +kernel⟩
theorem ok_product_of {f : Addr} {fd : FuncData} (T : Bs K mg) (F : FnP K "product_of" s_product_of f fd) (hm : mg "product_of" = some (.ref f)) (h_both_rows : Has P w K mg base 6 "both_rows" 2 r_both_rows) (h_least : Has P w K mg base 9 "least" 3 r_least) (h_Field_product : HasM P w K mg base 3 0 "product" 2 prodF) : Has P w K mg base 10 "product_of" 2 r_product_of :=
  has_of F (fn_run F sc_product_of rfl rfl fun cdv A outer s H E hr =>
      (x_cons (x_asg (q_call (h_both_rows.apart) (hr.mono (by first | exact Nat.le_refl _ | omega)) (a_cons (q_v 0) (a_cons (q_v 1) a_nil))) (g_tup rfl (gs_cons (g_name (i := 2) sc_product_of.nd) (gs_cons (g_name (i := 3) sc_product_of.nd) (gs_cons (g_name (i := 4) sc_product_of.nd) (gs_cons (g_name (i := 5) sc_product_of.nd) gs_nil))))))
      (x_one (x_ret (q_call (h_least.apart) (hr.mono (by first | exact Nat.le_refl _ | omega)) (a_cons (q_v 2) (a_cons (q_meth h_Field_product.apart (hr.mono (by first | exact Nat.le_refl _ | omega)) (q_v 2) (a_cons (q_v 3) (a_cons (q_v 4) a_nil))) (a_cons (q_mul (q_v 5) (q_v 5)) a_nil)))))))) hm (fun _ _ _ _ _ _ us hl => match us, hl with | [_, _], _ => rfl)
/-! back_of -/
abbrev s_back_of : Stmt := top 45
theorem sc_back_of : FnScope ["number", "field", "row", "below"] ["number"] (defScope s_back_of) := ⟨rfl, rfl, rfl, by decide +kernel, rfl, by decide +kernel, by decide +kernel⟩
theorem ok_back_of {f : Addr} {fd : FuncData} (T : Bs K mg) (F : FnP K "back_of" s_back_of f fd) (hm : mg "back_of" = some (.ref f)) (h_at : Has P w K mg base 4 "at" 2 r_at) (h_least : Has P w K mg base 9 "least" 3 r_least) (h_Field_back : HasM P w K mg base 4 0 "back" 1 r_Field_back) (hc_Field : HasC P w K mg base 4 0 1 r_Field) : Has P w K mg base 10 "back_of" 1 r_back_of :=
  has_of F (fn_run F sc_back_of rfl rfl fun cdv A outer s H E hr =>
      (x_cons (x_set (i := 1) sc_back_of.nd (q_make hc_Field (hr.mono (by first | exact Nat.le_refl _ | omega)) (Nat.le_refl _) (a_cons (q_ix (q_v 0) q_int) a_nil)))
      (x_cons (x_asg (q_call (h_at.apart) (hr.mono (by first | exact Nat.le_refl _ | omega)) (a_cons (q_v 1) (a_cons (q_v 0) a_nil))) (g_tup rfl (gs_cons (g_name (i := 2) sc_back_of.nd) (gs_cons (g_name (i := 3) sc_back_of.nd) gs_nil))))
      (x_one (x_ret (q_call (h_least.apart) (hr.mono (by first | exact Nat.le_refl _ | omega)) (a_cons (q_v 1) (a_cons (q_meth h_Field_back.apart (hr.mono (by first | exact Nat.le_refl _ | omega)) (q_v 1) (a_cons (q_v 2) a_nil)) (a_cons (q_v 3) a_nil))))))))) hm (fun _ _ _ _ _ _ us hl => match us, hl with | [_], _ => rfl)
/-! least_parts -/
abbrev s_least_parts : Stmt := top 47
theorem sc_least_parts : FnScope ["order", "parts", "wholes", "below"] ["order", "parts"] (defScope s_least_parts) := ⟨rfl, rfl, rfl, by decide +kernel, rfl, by decide +kernel, by decide +kernel⟩
theorem ok_least_parts {f : Addr} {fd : FuncData} (T : Bs K mg) (F : FnP K "least_parts" s_least_parts f fd) (hm : mg "least_parts" = some (.ref f)) (h_least : Has P w K mg base 9 "least" 3 r_least) (h_wholes_of : Has P w K mg base 2 "wholes_of" 1 r_wholes_of) (hc_Field : HasC P w K mg base 4 0 1 r_Field) : Has P w K mg base 10 "least_parts" 2 r_least_parts :=
  has_of F (fn_run F sc_least_parts rfl rfl fun cdv A outer s H E hr =>
      (x_cons (x_asg (q_call (h_wholes_of.apart) (hr.mono (by first | exact Nat.le_refl _ | omega)) (a_cons (q_v 1) a_nil)) (g_tup rfl (gs_cons (g_name (i := 2) sc_least_parts.nd) (gs_cons (g_name (i := 3) sc_least_parts.nd) gs_nil))))
      (x_one (x_ret (q_call (h_least.apart) (hr.mono (by first | exact Nat.le_refl _ | omega)) (a_cons (q_make hc_Field (hr.mono (by first | exact Nat.le_refl _ | omega)) (Nat.le_refl _) (a_cons (q_v 0) a_nil)) (a_cons (q_tuple T.b_tuple (a_cons (q_v 2) a_nil)) (a_cons (q_v 3) a_nil)))))))) hm (fun _ _ _ _ _ _ us hl => match us, hl with | [_, _], _ => rfl)
/-! scaled_by -/
abbrev s_scaled_by : Stmt := top 46
theorem sc_scaled_by : FnScope ["number", "fraction", "above", "below", "own", "other"] ["number", "fraction"] (defScope s_scaled_by) := ⟨rfl, rfl, rfl, by decide +kernel, rfl, by decide +kernel, by decide +kernel⟩
theorem ok_scaled_by {f : Addr} {fd : FuncData} (T : Bs K mg) (F : FnP K "scaled_by" s_scaled_by f fd) (hm : mg "scaled_by" = some (.ref f)) (h_fraction_of : Has P w K mg base 1 "fraction_of" 2 r_fraction_of) (h_least_parts : Has P w K mg base 10 "least_parts" 2 r_least_parts) : Has P w K mg base 11 "scaled_by" 2 r_scaled_by :=
  has_of F (fn_run F sc_scaled_by rfl rfl fun cdv A outer s H E hr =>
      (x_cons (x_asg (q_v 1) (g_tup rfl (gs_cons (g_name (i := 2) sc_scaled_by.nd) (gs_cons (g_name (i := 3) sc_scaled_by.nd) gs_nil))))
      (x_one (x_ret (q_call (h_least_parts.apart) (hr.mono (by first | exact Nat.le_refl _ | omega)) (a_cons (q_ix (q_v 0) q_int) (a_cons (q_lc 1000 [("own", 4), ("other", 5)] rfl sc_scaled_by.nd (i_seq (q_ix (q_v 0) q_int)) (blkOk_by (by kernel_rfl)) (gc_tup (gcs_cons (gc_name (by decide)) (gcs_cons (gc_name (by decide)) gcs_nil))) (fun _ _ _ _ _ => (pg_tup rfl (pgs_cons (pg_n 4 sc_scaled_by.nd) (pgs_cons (pg_n 5 sc_scaled_by.nd) pgs_nil)))) (fun _ _ _ _ _ => ts_nil) (fun _ _ _ _ _ => (q_call (h_fraction_of.apart) (hr.mono (by first | exact Nat.le_refl _ | omega)) (a_cons (q_mul (q_v 4) (q_v 2)) (a_cons (q_mul (q_v 5) (q_v 3)) a_nil))))) a_nil))))))) hm (fun _ _ _ _ _ _ us hl => match us, hl with | [_, _], _ => rfl)
/-! root_of -/
abbrev s_root_of : Stmt := top 48
theorem sc_root_of : FnScope ["order", "k", "field"] ["order", "k"] (defScope s_root_of) := ⟨rfl, rfl, rfl, by decide +kernel, rfl, by decide +kernel, by decide +kernel⟩
theorem ok_root_of {f : Addr} {fd : FuncData} (T : Bs K mg) (F : FnP K "root_of" s_root_of f fd) (hm : mg "root_of" = some (.ref f)) (h_least : Has P w K mg base 9 "least" 3 r_least) (h_Field_power : HasM P w K mg base 4 0 "power" 1 r_Field_power) (hc_Field : HasC P w K mg base 4 0 1 r_Field) : Has P w K mg base 10 "root_of" 2 r_root_of :=
  has_of F (fn_run F sc_root_of rfl rfl fun cdv A outer s H E hr =>
      (x_cons (x_set (i := 2) sc_root_of.nd (q_make hc_Field (hr.mono (by first | exact Nat.le_refl _ | omega)) (Nat.le_refl _) (a_cons (q_v 0) a_nil)))
      (x_one (x_ret (q_call (h_least.apart) (hr.mono (by first | exact Nat.le_refl _ | omega)) (a_cons (q_v 2) (a_cons (q_meth h_Field_power.apart (hr.mono (by first | exact Nat.le_refl _ | omega)) (q_v 2) (a_cons (q_v 1) a_nil)) (a_cons q_int a_nil)))))))) hm (fun _ _ _ _ _ _ us hl => match us, hl with | [_, _], _ => rfl)
/-! check_number -/
abbrev s_check_number : Stmt := top 50
theorem sc_check_number : FnScope ["number"] ["number"] (defScope s_check_number) := ⟨rfl, rfl, rfl, by decide +kernel, rfl, by decide +kernel, by decide +kernel⟩
theorem ok_check_number {f : Addr} {fd : FuncData} (T : Bs K mg) (F : FnP K "check_number" s_check_number f fd) (hm : mg "check_number" = some (.ref f)) (h_is_number_by : Has P w K mg base 9 "is_number_by" 1 r_is_number_by) : Has P w K mg base 10 "check_number" 1 r_check_number :=
  has_of F (fn_run F sc_check_number rfl rfl fun cdv A outer s H E hr =>
      (x_one (x_if (u_not (u_tru (q_call (h_is_number_by.apart) (hr.mono (by first | exact Nat.le_refl _ | omega)) (a_cons (q_v 0) a_nil)))) (x_one x_no) x_nil))) hm (fun _ _ _ _ _ _ us hl => match us, hl with | [_], _ => rfl)
/-! check_order -/
abbrev s_check_order : Stmt := top 51
theorem sc_check_order : FnScope ["order"] ["order"] (defScope s_check_order) := ⟨rfl, rfl, rfl, by decide +kernel, rfl, by decide +kernel, by decide +kernel⟩
theorem ok_check_order {f : Addr} {fd : FuncData} (T : Bs K mg) (F : FnP K "check_order" s_check_order f fd) (hm : mg "check_order" = some (.ref f)) (h_is_order : Has P w K mg base 3 "is_order" 1 r_is_order) : Has P w K mg base 4 "check_order" 1 r_check_order :=
  has_of F (fn_run F sc_check_order rfl rfl fun cdv A outer s H E hr =>
      (x_one (x_if (u_not (u_tru (q_call (h_is_order.apart) (hr.mono (by first | exact Nat.le_refl _ | omega)) (a_cons (q_v 0) a_nil)))) (x_one x_no) x_nil))) hm (fun _ _ _ _ _ _ us hl => match us, hl with | [_], _ => rfl)
/-! is_number -/
abbrev s_is_number : Stmt := top 52
theorem sc_is_number : FnScope ["value"] ["value"] (defScope s_is_number) := ⟨rfl, rfl, rfl, by decide +kernel, rfl, by decide +kernel, by decide +kernel⟩
theorem ok_is_number {f : Addr} {fd : FuncData} (T : Bs K mg) (F : FnP K "is_number" s_is_number f fd) (hm : mg "is_number" = some (.ref f)) (h_is_number_by : Has P w K mg base 9 "is_number_by" 1 r_is_number_by) : Has P w K mg base 10 "is_number" 1 r_is_number :=
  has_of F (fn_run F sc_is_number rfl rfl fun cdv A outer s H E hr =>
      (x_one (x_ret (q_call (h_is_number_by.apart) (hr.mono (by first | exact Nat.le_refl _ | omega)) (a_cons (q_v 0) a_nil))))) hm (fun _ _ _ _ _ _ us hl => match us, hl with | [_], _ => rfl)
/-! check_both -/
abbrev s_check_both : Stmt := top 54
theorem sc_check_both : FnScope ["number", "number2"] ["number", "number2"] (defScope s_check_both) := ⟨rfl, rfl, rfl, by decide +kernel, rfl, by decide +kernel, by decide +kernel⟩
theorem ok_check_both {f : Addr} {fd : FuncData} (T : Bs K mg) (F : FnP K "check_both" s_check_both f fd) (hm : mg "check_both" = some (.ref f)) (h_both_orders : Has P w K mg base 2 "both_orders" 2 r_both_orders) (h_check_number : Has P w K mg base 10 "check_number" 1 r_check_number) : Has P w K mg base 11 "check_both" 2 r_check_both :=
  has_of F (fn_run F sc_check_both rfl rfl fun cdv A outer s H E hr =>
      (x_cons (x_drop (q_call (h_check_number.apart) (hr.mono (by first | exact Nat.le_refl _ | omega)) (a_cons (q_v 0) a_nil)))
      (x_cons (x_drop (q_call (h_check_number.apart) (hr.mono (by first | exact Nat.le_refl _ | omega)) (a_cons (q_v 1) a_nil)))
      (x_one (x_if (u_cmp op_gt ok_gt (q_call (h_both_orders.apart) (hr.mono (by first | exact Nat.le_refl _ | omega)) (a_cons (q_v 0) (a_cons (q_v 1) a_nil))) (q_gint T.c_MOST_ORDER) (nomark _)) (x_one x_no) x_nil))))) hm (fun _ _ _ _ _ _ us hl => match us, hl with | [_, _], _ => rfl)
/-! added -/
abbrev s_added : Stmt := top 55
theorem sc_added : FnScope ["number", "number2"] ["number", "number2"] (defScope s_added) := ⟨rfl, rfl, rfl, by decide +kernel, rfl, by decide +kernel, by decide +kernel⟩
theorem ok_added {f : Addr} {fd : FuncData} (T : Bs K mg) (F : FnP K "added" s_added f fd) (hm : mg "added" = some (.ref f)) (h_check_both : Has P w K mg base 11 "check_both" 2 r_check_both) (h_sum_of : Has P w K mg base 10 "sum_of" 2 r_sum_of) : Has P w K mg base 12 "added" 2 r_added :=
  has_of F (fn_run F sc_added rfl rfl fun cdv A outer s H E hr =>
      (x_cons (x_drop (q_call (h_check_both.apart) (hr.mono (by first | exact Nat.le_refl _ | omega)) (a_cons (q_v 0) (a_cons (q_v 1) a_nil))))
      (x_one (x_ret (q_call (h_sum_of.apart) (hr.mono (by first | exact Nat.le_refl _ | omega)) (a_cons (q_v 0) (a_cons (q_v 1) a_nil))))))) hm (fun _ _ _ _ _ _ us hl => match us, hl with | [_, _], _ => rfl)
/-! less -/
abbrev s_less : Stmt := top 56
theorem sc_less : FnScope ["number", "number2"] ["number", "number2"] (defScope s_less) := ⟨rfl, rfl, rfl, by decide +kernel, rfl, by decide +kernel, by decide +kernel⟩
theorem ok_less {f : Addr} {fd : FuncData} (T : Bs K mg) (F : FnP K "less" s_less f fd) (hm : mg "less" = some (.ref f)) (h_check_both : Has P w K mg base 11 "check_both" 2 r_check_both) (h_difference_of : Has P w K mg base 10 "difference_of" 2 r_difference_of) : Has P w K mg base 12 "less" 2 r_less :=
  has_of F (fn_run F sc_less rfl rfl fun cdv A outer s H E hr =>
      (x_cons (x_drop (q_call (h_check_both.apart) (hr.mono (by first | exact Nat.le_refl _ | omega)) (a_cons (q_v 0) (a_cons (q_v 1) a_nil))))
      (x_one (x_ret (q_call (h_difference_of.apart) (hr.mono (by first | exact Nat.le_refl _ | omega)) (a_cons (q_v 0) (a_cons (q_v 1) a_nil))))))) hm (fun _ _ _ _ _ _ us hl => match us, hl with | [_, _], _ => rfl)
/-! times -/
abbrev s_times : Stmt := top 57
theorem sc_times : FnScope ["number", "number2"] ["number", "number2"] (defScope s_times) := ⟨rfl, rfl, rfl, by decide +kernel, rfl, by decide +kernel, by decide +kernel⟩
theorem ok_times {f : Addr} {fd : FuncData} (T : Bs K mg) (F : FnP K "times" s_times f fd) (hm : mg "times" = some (.ref f)) (h_check_both : Has P w K mg base 11 "check_both" 2 r_check_both) (h_product_of : Has P w K mg base 10 "product_of" 2 r_product_of) : Has P w K mg base 12 "times" 2 r_times :=
  has_of F (fn_run F sc_times rfl rfl fun cdv A outer s H E hr =>
      (x_cons (x_drop (q_call (h_check_both.apart) (hr.mono (by first | exact Nat.le_refl _ | omega)) (a_cons (q_v 0) (a_cons (q_v 1) a_nil))))
      (x_one (x_ret (q_call (h_product_of.apart) (hr.mono (by first | exact Nat.le_refl _ | omega)) (a_cons (q_v 0) (a_cons (q_v 1) a_nil))))))) hm (fun _ _ _ _ _ _ us hl => match us, hl with | [_, _], _ => rfl)
/-! turned_back -/
abbrev s_turned_back : Stmt := top 58
theorem sc_turned_back : FnScope ["number"] ["number"] (defScope s_turned_back) := ⟨rfl, rfl, rfl, by decide +kernel, rfl, by decide +kernel, by decide +kernel⟩
theorem ok_turned_back {f : Addr} {fd : FuncData} (T : Bs K mg) (F : FnP K "turned_back" s_turned_back f fd) (hm : mg "turned_back" = some (.ref f)) (h_back_of : Has P w K mg base 10 "back_of" 1 r_back_of) (h_check_number : Has P w K mg base 10 "check_number" 1 r_check_number) : Has P w K mg base 11 "turned_back" 1 r_turned_back :=
  has_of F (fn_run F sc_turned_back rfl rfl fun cdv A outer s H E hr =>
      (x_cons (x_drop (q_call (h_check_number.apart) (hr.mono (by first | exact Nat.le_refl _ | omega)) (a_cons (q_v 0) a_nil)))
      (x_one (x_ret (q_call (h_back_of.apart) (hr.mono (by first | exact Nat.le_refl _ | omega)) (a_cons (q_v 0) a_nil)))))) hm (fun _ _ _ _ _ _ us hl => match us, hl with | [_], _ => rfl)
/-! scaled -/
abbrev s_scaled : Stmt := top 59
theorem sc_scaled : FnScope ["number", "fraction"] ["number", "fraction"] (defScope s_scaled) := ⟨rfl, rfl, rfl, by decide +kernel, rfl, by decide +kernel, by decide +kernel⟩
theorem ok_scaled {f : Addr} {fd : FuncData} (T : Bs K mg) (F : FnP K "scaled" s_scaled f fd) (hm : mg "scaled" = some (.ref f)) (h_check_number : Has P w K mg base 10 "check_number" 1 r_check_number) (h_is_fraction : Has P w K mg base 2 "is_fraction" 1 r_is_fraction) (h_scaled_by : Has P w K mg base 11 "scaled_by" 2 r_scaled_by) : Has P w K mg base 12 "scaled" 2 r_scaled :=
  has_of F (fn_run F sc_scaled rfl rfl fun cdv A outer s H E hr =>
      (x_cons (x_drop (q_call (h_check_number.apart) (hr.mono (by first | exact Nat.le_refl _ | omega)) (a_cons (q_v 0) a_nil)))
      (x_cons (x_if (u_not (u_tru (q_call (h_is_fraction.apart) (hr.mono (by first | exact Nat.le_refl _ | omega)) (a_cons (q_v 1) a_nil)))) (x_one x_no) x_nil)
      (x_one (x_ret (q_call (h_scaled_by.apart) (hr.mono (by first | exact Nat.le_refl _ | omega)) (a_cons (q_v 0) (a_cons (q_v 1) a_nil)))))))) hm (fun _ _ _ _ _ _ us hl => match us, hl with | [_, _], _ => rfl)
/-! is_real -/
abbrev s_is_real : Stmt := top 60
theorem sc_is_real : FnScope ["number"] ["number"] (defScope s_is_real) := ⟨rfl, rfl, rfl, by decide +kernel, rfl, by decide +kernel, by decide +kernel⟩
theorem ok_is_real {f : Addr} {fd : FuncData} (T : Bs K mg) (F : FnP K "is_real" s_is_real f fd) (hm : mg "is_real" = some (.ref f)) (h_turned_back : Has P w K mg base 11 "turned_back" 1 r_turned_back) : Has P w K mg base 12 "is_real" 1 r_is_real :=
  has_of F (fn_run F sc_is_real rfl rfl fun cdv A outer s H E hr =>
      (x_one (x_ret (q_cmp (op_eqA hr.units) ok_eq (q_call (h_turned_back.apart) (hr.mono (by first | exact Nat.le_refl _ | omega)) (a_cons (q_v 0) a_nil)) (q_v 0) (nomark _))))) hm (fun _ _ _ _ _ _ us hl => match us, hl with | [_], _ => rfl)
/-! root -/
abbrev s_root : Stmt := top 61
theorem sc_root : FnScope ["order", "k"] ["order", "k"] (defScope s_root) := ⟨rfl, rfl, rfl, by decide +kernel, rfl, by decide +kernel, by decide +kernel⟩
theorem ok_root {f : Addr} {fd : FuncData} (T : Bs K mg) (F : FnP K "root" s_root f fd) (hm : mg "root" = some (.ref f)) (h_check_order : Has P w K mg base 4 "check_order" 1 r_check_order) (h_is_whole : Has P w K mg base 1 "is_whole" 1 r_is_whole) (h_root_of : Has P w K mg base 10 "root_of" 2 r_root_of) : Has P w K mg base 11 "root" 2 r_root :=
  has_of F (fn_run F sc_root rfl rfl fun cdv A outer s H E hr =>
      (x_cons (x_drop (q_call (h_check_order.apart) (hr.mono (by first | exact Nat.le_refl _ | omega)) (a_cons (q_v 0) a_nil)))
      (x_cons (x_if (u_not (u_tru (q_call (h_is_whole.apart) (hr.mono (by first | exact Nat.le_refl _ | omega)) (a_cons (q_v 1) a_nil)))) (x_one x_no) x_nil)
      (x_one (x_ret (q_call (h_root_of.apart) (hr.mono (by first | exact Nat.le_refl _ | omega)) (a_cons (q_v 0) (a_cons (q_v 1) a_nil)))))))) hm (fun _ _ _ _ _ _ us hl => match us, hl with | [_, _], _ => rfl)
/-! rows_of_kin -/
abbrev s_rows_of_kin : Stmt := top 63
theorem sc_rows_of_kin : FnScope ["number", "field", "row", "below", "powers", "each"] ["number"] (defScope s_rows_of_kin) := ⟨rfl, rfl, rfl, by decide +kernel, rfl, by decide +kernel, by decide +kernel⟩
theorem ok_rows_of_kin {f : Addr} {fd : FuncData} (T : Bs K mg) (F : FnP K "rows_of_kin" s_rows_of_kin f fd) (hm : mg "rows_of_kin" = some (.ref f)) (h_at : Has P w K mg base 4 "at" 2 r_at) (h_Field_kin : HasM P w K mg base 3 0 "kin" 2 r_Field_kin) (hc_Field : HasC P w K mg base 4 0 1 r_Field) : Has P w K mg base 6 "rows_of_kin" 1 r_rows_of_kin :=
  has_of F (fn_run F sc_rows_of_kin rfl rfl fun cdv A outer s H E hr =>
      (x_cons (x_set (i := 1) sc_rows_of_kin.nd (q_make hc_Field (hr.mono (by first | exact Nat.le_refl _ | omega)) (Nat.le_refl _) (a_cons (q_ix (q_v 0) q_int) a_nil)))
      (x_cons (x_asg (q_call (h_at.apart) (hr.mono (by first | exact Nat.le_refl _ | omega)) (a_cons (q_v 1) (a_cons (q_v 0) a_nil))) (g_tup rfl (gs_cons (g_name (i := 2) sc_rows_of_kin.nd) (gs_cons (g_name (i := 3) sc_rows_of_kin.nd) gs_nil))))
      (x_cons (x_setlc 4 1000 [("each", 5)] rfl sc_rows_of_kin.nd (i_rng2 T.b_range (a_cons q_int (a_cons (q_add (q_fld 0 0 (T.f_Field_order) (q_v 1)) q_int) a_nil))) (blkOk_by (by kernel_rfl)) (gc_name (by decide)) (fun _ _ _ _ _ => (pg_n 5 sc_rows_of_kin.nd)) (fun _ _ _ _ _ => (pts_one (u_cmp (op_eqA hr.units) ok_eq (q_gcd T.g_gcd (a_cons (q_v 5) (a_cons (q_fld 0 0 (T.f_Field_order) (q_v 1)) a_nil))) q_int (nomark _)))) (fun _ _ _ _ _ => (q_v 5)))
      (x_one (x_ret (q_tup (a_cons (q_sdc 1000 [("each", 5)] hr.units0 rfl sc_rows_of_kin.nd T.b_sorted (i_seq (q_v 4)) (blkOk_by (by kernel_rfl)) (gc_name (by decide)) (fun _ _ _ _ _ => (pg_n 5 sc_rows_of_kin.nd)) (fun _ _ _ _ _ => ts_nil) (fun _ _ _ _ _ => (q_meth h_Field_kin.apart (hr.mono (by first | exact Nat.le_refl _ | omega)) (q_v 1) (a_cons (q_v 2) (a_cons (q_v 5) a_nil)))) (fun _ _ _ _ _ => pe_bl)) (a_cons (q_v 3) a_nil))))))))) hm (fun _ _ _ _ _ _ us hl => match us, hl with | [_], _ => rfl)
/-! kin_of -/
abbrev s_kin_of : Stmt := top 64
theorem sc_kin_of : FnScope ["number", "rows", "below", "row"] ["number"] (defScope s_kin_of) := ⟨rfl, rfl, rfl, by decide +kernel, rfl, by decide +kernel, by decide +kernel⟩
theorem ok_kin_of {f : Addr} {fd : FuncData} (T : Bs K mg) (F : FnP K "kin_of" s_kin_of f fd) (hm : mg "kin_of" = some (.ref f)) (h_parts_of : Has P w K mg base 2 "parts_of" 2 r_parts_of) (h_rows_of_kin : Has P w K mg base 6 "rows_of_kin" 1 r_rows_of_kin) : Has P w K mg base 7 "kin_of" 1 r_kin_of :=
  has_of F (fn_run F sc_kin_of rfl rfl fun cdv A outer s H E hr =>
      (x_cons (x_asg (q_call (h_rows_of_kin.apart) (hr.mono (by first | exact Nat.le_refl _ | omega)) (a_cons (q_v 0) a_nil)) (g_tup rfl (gs_cons (g_name (i := 1) sc_kin_of.nd) (gs_cons (g_name (i := 2) sc_kin_of.nd) gs_nil))))
      (x_one (x_ret (q_lc 1000 [("row", 3)] rfl sc_kin_of.nd (i_seq (q_v 1)) (blkOk_by (by kernel_rfl)) (gc_name (by decide)) (fun _ _ _ _ _ => (pg_n 3 sc_kin_of.nd)) (fun _ _ _ _ _ => ts_nil) (fun _ _ _ _ _ => (q_tup (a_cons (q_ix (q_v 0) q_int) (a_cons (q_call (h_parts_of.apart) (hr.mono (by first | exact Nat.le_refl _ | omega)) (a_cons (q_v 3) (a_cons (q_v 2) a_nil))) a_nil))))))))) hm (fun _ _ _ _ _ _ us hl => match us, hl with | [_], _ => rfl)
/-! trace_of -/
abbrev s_trace_of : Stmt := top 65
theorem sc_trace_of : FnScope ["number", "rows", "below", "row"] ["number"] (defScope s_trace_of) := ⟨rfl, rfl, rfl, by decide +kernel, rfl, by decide +kernel, by decide +kernel⟩
theorem ok_trace_of {f : Addr} {fd : FuncData} (T : Bs K mg) (F : FnP K "trace_of" s_trace_of f fd) (hm : mg "trace_of" = some (.ref f)) (h_fraction_of : Has P w K mg base 1 "fraction_of" 2 r_fraction_of) (h_rows_of_kin : Has P w K mg base 6 "rows_of_kin" 1 r_rows_of_kin) : Has P w K mg base 7 "trace_of" 1 r_trace_of :=
  has_of F (fn_run F sc_trace_of rfl rfl fun cdv A outer s H E hr =>
      (x_cons (x_asg (q_call (h_rows_of_kin.apart) (hr.mono (by first | exact Nat.le_refl _ | omega)) (a_cons (q_v 0) a_nil)) (g_tup rfl (gs_cons (g_name (i := 1) sc_trace_of.nd) (gs_cons (g_name (i := 2) sc_trace_of.nd) gs_nil))))
      (x_one (x_ret (q_call (h_fraction_of.apart) (hr.mono (by first | exact Nat.le_refl _ | omega)) (a_cons (q_sum T.b_sum rfl (a_cons (q_lc 1000 [("row", 3)] rfl sc_trace_of.nd (i_seq (q_v 1)) (blkOk_by (by kernel_rfl)) (gc_name (by decide)) (fun _ _ _ _ _ => (pg_n 3 sc_trace_of.nd)) (fun _ _ _ _ _ => ts_nil) (fun _ _ _ _ _ => (q_ix (q_v 3) q_int))) a_nil)) (a_cons (q_v 2) a_nil))))))) hm (fun _ _ _ _ _ _ us hl => match us, hl with | [_], _ => rfl)
/-! kin -/
abbrev s_kin : Stmt := top 67
theorem sc_kin : FnScope ["number"] ["number"] (defScope s_kin) := ⟨rfl, rfl, rfl, by decide +kernel, rfl, by decide +kernel, by decide +kernel⟩
theorem ok_kin {f : Addr} {fd : FuncData} (T : Bs K mg) (F : FnP K "kin" s_kin f fd) (hm : mg "kin" = some (.ref f)) (h_check_number : Has P w K mg base 10 "check_number" 1 r_check_number) (h_kin_of : Has P w K mg base 7 "kin_of" 1 r_kin_of) : Has P w K mg base 11 "kin" 1 r_kin :=
  has_of F (fn_run F sc_kin rfl rfl fun cdv A outer s H E hr =>
      (x_cons (x_drop (q_call (h_check_number.apart) (hr.mono (by first | exact Nat.le_refl _ | omega)) (a_cons (q_v 0) a_nil)))
      (x_one (x_ret (q_tuple T.b_tuple (a_cons (q_call (h_kin_of.apart) (hr.mono (by first | exact Nat.le_refl _ | omega)) (a_cons (q_v 0) a_nil)) a_nil)))))) hm (fun _ _ _ _ _ _ us hl => match us, hl with | [_], _ => rfl)
/-! trace -/
abbrev s_trace : Stmt := top 68
theorem sc_trace : FnScope ["number"] ["number"] (defScope s_trace) := ⟨rfl, rfl, rfl, by decide +kernel, rfl, by decide +kernel, by decide +kernel⟩
theorem ok_trace {f : Addr} {fd : FuncData} (T : Bs K mg) (F : FnP K "trace" s_trace f fd) (hm : mg "trace" = some (.ref f)) (h_check_number : Has P w K mg base 10 "check_number" 1 r_check_number) (h_trace_of : Has P w K mg base 7 "trace_of" 1 r_trace_of) : Has P w K mg base 11 "trace" 1 r_trace :=
  has_of F (fn_run F sc_trace rfl rfl fun cdv A outer s H E hr =>
      (x_cons (x_drop (q_call (h_check_number.apart) (hr.mono (by first | exact Nat.le_refl _ | omega)) (a_cons (q_v 0) a_nil)))
      (x_one (x_ret (q_call (h_trace_of.apart) (hr.mono (by first | exact Nat.le_refl _ | omega)) (a_cons (q_v 0) a_nil)))))) hm (fun _ _ _ _ _ _ us hl => match us, hl with | [_], _ => rfl)
/-! _law_bowl -/
abbrev s__law_bowl : Stmt := top 70
theorem sc__law_bowl : FnScope ["script", "lap", "own", "stir", "cell", "far"] ["script", "lap"] (defScope s__law_bowl) := ⟨rfl, rfl, rfl, by decide +kernel, rfl, by decide +kernel, by decide +kernel⟩
theorem ok__law_bowl {f : Addr} {fd : FuncData} (T : Bs K mg) (F : FnP K "_law_bowl" s__law_bowl f fd) (hm : mg "_law_bowl" = some (.ref f)) : Has P w K mg base 1 "_law_bowl" 2 r__law_bowl :=
  has_of F (fn_run F sc__law_bowl rfl rfl fun cdv A outer s H E hr =>
      (x_cons (x_par (i := 2) (j := 3) rfl sc__law_bowl.nd (a_cons (q_if (u_cmp op_lt ok_lt (q_v 1) (q_len T.b_len (a_cons (q_v 0) a_nil)) (nomark _)) (q_toInt T.b_int (a_cons (q_ix (q_v 0) (q_v 1)) a_nil)) q_int) (a_cons (q_add q_int (q_mul q_int (q_v 1))) a_nil)))
      (x_cons (x_for 1000 PassesOwn.never rfl (i_seq (q_sl (q_v 0) o_no (o_at q_int))) (g_name (i := 4) sc__law_bowl.nd) (x_one (x_set (i := 3) sc__law_bowl.nd (q_mod (q_toInt T.b_int (a_cons (q_add (q_add (q_mul (q_v 3) q_int) (q_mul (q_mod (q_toInt T.b_int (a_cons (q_v 4) a_nil)) q_int) q_int)) q_int) a_nil)) q_int))))
      (x_cons (x_set (i := 5) sc__law_bowl.nd (q_if (PW.pt (w_or (u_cmp op_lt ok_lt (q_v 2) q_int (nomark _)) (w_or1 (u_cmp op_ge ok_ge (q_v 2) (q_pow q_int q_int) (nomark _))))) (q_mod (q_abs T.b_abs (a_cons (q_v 2) a_nil)) (q_pow q_int q_int)) q_int))
      (x_one (x_ret (q_lst (a_cons (q_v 5) (a_cons (q_mod (q_toInt T.b_int (a_cons (q_add (q_add (q_mul (q_v 3) q_int) (q_mod (q_toInt T.b_int (a_cons (q_v 2) a_nil)) q_int)) q_int) a_nil)) q_int) a_nil))))))))) hm (fun _ _ _ _ _ _ us hl => match us, hl with | [_, _], _ => rfl)
/-! _law_draw -/
abbrev s__law_draw : Stmt := top 71
theorem sc__law_draw : FnScope ["bowl", "many", "figure"] ["bowl", "many"] (defScope s__law_draw) := ⟨rfl, rfl, rfl, by decide +kernel, rfl, by decide +kernel, by decide +kernel⟩
theorem ok__law_draw {f : Addr} {fd : FuncData} (T : Bs K mg) (F : FnP K "_law_draw" s__law_draw f fd) (hm : mg "_law_draw" = some (.ref f)) : Has P w K mg base 1 "_law_draw" 2 r__law_draw :=
  has_of F (fn_run F sc__law_draw rfl rfl fun cdv A outer s H E hr =>
      (x_cons (x_if (u_cmp op_gt ok_gt (q_ix (q_v 0) q_int) q_int (nomark _)) (x_cons (x_asg (q_divmod T.b_divmod (a_cons (q_ix (q_v 0) q_int) (a_cons (q_v 1) a_nil))) (g_tup rfl (gs_cons (g_sub (q_v 0) q_int) (gs_cons (g_name (i := 2) sc__law_draw.nd) gs_nil))))
      (x_one (x_ret (q_v 2)))) x_nil)
      (x_cons (x_asg (q_mod (q_toInt T.b_int (a_cons (q_add (q_mul (q_ix (q_v 0) q_int) q_int) q_int) a_nil)) q_int) (g_sub (q_v 0) q_int))
      (x_cons (x_asg (q_mod (q_toInt T.b_int (a_cons (q_add (q_mul (q_ix (q_v 0) q_int) q_int) (q_div (q_ix (q_v 0) q_int) q_int)) a_nil)) q_int) (g_sub (q_v 0) q_int))
      (x_one (x_ret (q_mod (q_toInt T.b_int (a_cons (q_div (q_ix (q_v 0) q_int) q_int) a_nil)) (q_v 1)))))))) hm (fun _ _ _ _ _ _ us hl => match us, hl with | [_, _], _ => rfl)
/-! _law_of -/
abbrev s__law_of : Stmt := top 72
theorem sc__law_of : FnScope ["bowl", "some"] ["bowl", "some"] (defScope s__law_of) := ⟨rfl, rfl, rfl, by decide +kernel, rfl, by decide +kernel, by decide +kernel⟩
theorem ok__law_of {f : Addr} {fd : FuncData} (T : Bs K mg) (F : FnP K "_law_of" s__law_of f fd) (hm : mg "_law_of" = some (.ref f)) (h__law_draw : Has P w K mg base 1 "_law_draw" 2 r__law_draw) : Has P w K mg base 2 "_law_of" 2 r__law_of :=
  has_of F (fn_run F sc__law_of rfl rfl fun cdv A outer s H E hr =>
      (x_one (x_ret (q_ix (q_v 1) (q_call h__law_draw (hr.mono (by first | exact Nat.le_refl _ | omega)) (a_cons (q_v 0) (a_cons (q_len T.b_len (a_cons (q_v 1) a_nil)) a_nil))))))) hm (fun _ _ _ _ _ _ us hl => match us, hl with | [_, _], _ => rfl)
/-! _law_same -/
abbrev s__law_same : Stmt := top 73
theorem sc__law_same : FnScope ["told", "due", "k"] ["told", "due"] (defScope s__law_same) := ⟨rfl, rfl, rfl, by decide +kernel, rfl, by decide +kernel, by decide +kernel⟩
theorem ok__law_same {f : Addr} {fd : FuncData} (T : Bs K mg) (F : FnP K "_law_same" s__law_same f fd) (hm : mg "_law_same" = some (.ref f)) : ∀ d, Has P w K mg base (d + 1) "_law_same" 2 (r__law_same d)
  | 0 => ⟨⟨CX0, f, fd, ["told", "due"], ⟨fun vs H Q E ⟨_, _, _, _, _, _, g⟩ => g.elim, fun A outer s H args us vs Q E _ _ _ _ ⟨_, _, _, _, _, _, g⟩ => g.elim⟩, hm, F.kp, F.bindsN (fun _ _ _ _ _ _ us hl => match us, hl with | [_, _], _ => rfl), fun _ _ _ => pass0⟩⟩
  | d + 1 => by
    have h__law_same := ok__law_same T F hm  d
    exact has_of F (fn_run F sc__law_same rfl rfl fun cdv A outer s H E hr =>
      (x_cons (x_if (PW.pt (w_or (u_tru (q_isi tab_tuple (by decide +kernel) T.b_tuple T.b_isinstance (q_v 1))) (w_or1 (u_tru (q_isi tab_tuple (by decide +kernel) T.b_tuple T.b_isinstance (q_v 0)))))) (x_cons (x_if (PW.pt (w_or (u_not (u_tru (q_isi tab_tuple (by decide +kernel) T.b_tuple T.b_isinstance (q_v 1)))) (w_or (u_not (u_tru (q_isi tab_tuple (by decide +kernel) T.b_tuple T.b_isinstance (q_v 0)))) (w_or1 (u_cmp (opr_or op_ne (op_neD hr.units)) ok_ne (q_len T.b_len (a_cons (q_v 0) a_nil)) (q_len T.b_len (a_cons (q_v 1) a_nil)) (nomark _)))))) (x_one (x_ret q_bl)) x_nil)
      (x_one (x_ret (q_cmp (op_eqA hr.units) ok_eq (q_lc 1000 [("k", 2)] rfl sc__law_same.nd (i_rng1 T.b_range (a_cons (q_len T.b_len (a_cons (q_v 1) a_nil)) a_nil)) (blkOk_by (by kernel_rfl)) (gc_name (by decide)) (fun _ _ _ _ _ => (pg_n 2 sc__law_same.nd)) (fun _ _ _ _ _ => (pts_one (u_not (u_tru (q_call h__law_same (hr.mono (by first | exact Nat.le_refl _ | omega)) (a_cons (q_ix (q_v 0) (q_v 2)) (a_cons (q_ix (q_v 1) (q_v 2)) a_nil))))))) (fun _ _ _ _ _ => (q_v 2))) (q_lst a_nil) (nomark _))))) x_nil)
      (x_cons (x_if (PW.pt (w_or (u_cmp op_isN ok_isN (q_v 1) q_non (nomark _)) (w_or1 (u_cmp op_isN ok_isN (q_v 0) q_non (nomark _))))) (x_one (x_ret (q_and (q_cmp op_isN ok_isN (q_v 1) q_non (nomark _)) (q_one (q_cmp op_isN ok_isN (q_v 0) q_non (nomark _)))))) x_nil)
      (x_cons (x_if (PW.pt (w_or (u_cmp (opr_or op_ne (op_neD hr.units)) ok_ne (q_isi tab_bool (by decide +kernel) T.b_bool T.b_isinstance (q_v 1)) (q_isi tab_bool (by decide +kernel) T.b_bool T.b_isinstance (q_v 0)) (nomark _)) (w_or (u_cmp (opr_or op_ne (op_neD hr.units)) ok_ne (q_isi tab_int (by decide +kernel) T.b_int T.b_isinstance (q_v 1)) (q_isi tab_int (by decide +kernel) T.b_int T.b_isinstance (q_v 0)) (nomark _)) (w_or1 (u_cmp (opr_or op_ne (op_neD hr.units)) ok_ne (q_isi tab_str (by decide +kernel) T.b_str T.b_isinstance (q_v 1)) (q_isi tab_str (by decide +kernel) T.b_str T.b_isinstance (q_v 0)) (nomark _)))))) (x_one (x_ret q_bl)) x_nil)
      (x_one (x_ret (q_cmp op_isBl ok_isB (q_cmp (op_eqA hr.units) ok_eq (q_v 0) (q_v 1) (nomark _)) q_bl (nomark _)))))))) hm (fun _ _ _ _ _ _ us hl => match us, hl with | [_, _], _ => rfl)
/-! _law_gcd -/
abbrev s__law_gcd : Stmt := top 74
theorem sc__law_gcd : FnScope ["one", "two", "turn"] ["one", "two"] (defScope s__law_gcd) := ⟨rfl, rfl, rfl, by decide +kernel, rfl, by decide +kernel, by decide +kernel⟩
theorem ok__law_gcd {f : Addr} {fd : FuncData} (T : Bs K mg) (F : FnP K "_law_gcd" s__law_gcd f fd) (hm : mg "_law_gcd" = some (.ref f)) : Has P w K mg base 1 "_law_gcd" 2 r__law_gcd :=
  has_of F (fn_run F sc__law_gcd rfl rfl fun cdv A outer s H E hr =>
      (x_cons (x_for 1000 PassesOwn.never rfl (i_rng1 T.b_range (a_cons q_int a_nil)) (g_name (i := 2) sc__law_gcd.nd) (x_one (x_asg (q_if (u_cmp op_gt ok_gt (q_v 1) q_int (nomark _)) (q_tup (a_cons (q_v 1) (a_cons (q_mod (q_toInt T.b_int (a_cons (q_v 0) a_nil)) (q_v 1)) a_nil))) (q_tup (a_cons (q_v 0) (a_cons q_int a_nil)))) (g_tup rfl (gs_cons (g_name (i := 0) sc__law_gcd.nd) (gs_cons (g_name (i := 1) sc__law_gcd.nd) gs_nil))))))
      (x_one (x_ret (q_v 0))))) hm (fun _ _ _ _ _ _ us hl => match us, hl with | [_, _], _ => rfl)
/-! _law_fraction -/
abbrev s__law_fraction : Stmt := top 75
theorem sc__law_fraction : FnScope ["above", "below", "part"] ["above", "below"] (defScope s__law_fraction) := ⟨rfl, rfl, rfl, by decide +kernel, rfl, by decide +kernel, by decide +kernel⟩
theorem ok__law_fraction {f : Addr} {fd : FuncData} (T : Bs K mg) (F : FnP K "_law_fraction" s__law_fraction f fd) (hm : mg "_law_fraction" = some (.ref f)) (h__law_gcd : Has P w K mg base 1 "_law_gcd" 2 gcdF) : Has P w K mg base 2 "_law_fraction" 2 r__law_fraction :=
  has_of F (fn_run F sc__law_fraction rfl rfl fun cdv A outer s H E hr =>
      (x_cons (x_set (i := 2) sc__law_fraction.nd (q_call (h__law_gcd.apart) (hr.mono (by first | exact Nat.le_refl _ | omega)) (a_cons (q_abs T.b_abs (a_cons (q_v 0) a_nil)) (a_cons (q_v 1) a_nil))))
      (x_one (x_ret (q_tup (a_cons (q_div (q_v 0) (q_v 2)) (a_cons (q_div (q_v 1) (q_v 2)) a_nil))))))) hm (fun _ _ _ _ _ _ us hl => match us, hl with | [_, _], _ => rfl)
/-! _law_primes -/
abbrev s__law_primes : Stmt := top 76
theorem sc__law_primes : FnScope ["order", "p", "q"] ["order"] (defScope s__law_primes) := ⟨rfl, rfl, rfl, by decide +kernel, rfl, by decide +kernel, by decide +kernel⟩
theorem ok__law_primes {f : Addr} {fd : FuncData} (T : Bs K mg) (F : FnP K "_law_primes" s__law_primes f fd) (hm : mg "_law_primes" = some (.ref f)) : Has P w K mg base 1 "_law_primes" 1 r__law_primes :=
  has_of F (fn_run F sc__law_primes rfl rfl fun cdv A outer s H E hr =>
      (x_one (x_ret (q_lc 1000 [("p", 1)] rfl sc__law_primes.nd (i_rng2 T.b_range (a_cons q_int (a_cons (q_add (q_v 0) q_int) a_nil))) (blkOk_by (by kernel_rfl)) (gc_name (by decide)) (fun _ _ _ _ _ => (pg_n 1 sc__law_primes.nd)) (fun _ _ _ _ _ => (pts_one (PW.pt (w_and (u_cmp (op_eqA hr.units) ok_eq (q_mod (q_toInt T.b_int (a_cons (q_v 0) a_nil)) (q_v 1)) q_int (nomark _)) (w_and1 (u_cmp (op_eqA hr.units) ok_eq (q_lc 1000 [("q", 2)] rfl sc__law_primes.nd (i_rng2 T.b_range (a_cons q_int (a_cons (q_v 1) a_nil))) (blkOk_by (by kernel_rfl)) (gc_name (by decide)) (fun _ _ _ _ _ => (pg_n 2 sc__law_primes.nd)) (fun _ _ _ _ _ => (pts_one (u_cmp (op_eqA hr.units) ok_eq (q_mod (q_toInt T.b_int (a_cons (q_v 1) a_nil)) (q_v 2)) q_int (nomark _)))) (fun _ _ _ _ _ => (q_v 2))) (q_lst a_nil) (nomark _))))))) (fun _ _ _ _ _ => (q_v 1)))))) hm (fun _ _ _ _ _ _ us hl => match us, hl with | [_], _ => rfl)
/-! _law_degree -/
abbrev s__law_degree : Stmt := top 77
theorem sc__law_degree : FnScope ["order", "k"] ["order"] (defScope s__law_degree) := ⟨rfl, rfl, rfl, by decide +kernel, rfl, by decide +kernel, by decide +kernel⟩
theorem ok__law_degree {f : Addr} {fd : FuncData} (T : Bs K mg) (F : FnP K "_law_degree" s__law_degree f fd) (hm : mg "_law_degree" = some (.ref f)) (h__law_gcd : Has P w K mg base 1 "_law_gcd" 2 gcdF) : Has P w K mg base 2 "_law_degree" 1 r__law_degree :=
  has_of F (fn_run F sc__law_degree rfl rfl fun cdv A outer s H E hr =>
      (x_one (x_ret (q_len T.b_len (a_cons (q_lc 1000 [("k", 1)] rfl sc__law_degree.nd (i_rng2 T.b_range (a_cons q_int (a_cons (q_add (q_v 0) q_int) a_nil))) (blkOk_by (by kernel_rfl)) (gc_name (by decide)) (fun _ _ _ _ _ => (pg_n 1 sc__law_degree.nd)) (fun _ _ _ _ _ => (pts_one (u_cmp (op_eqA hr.units) ok_eq (q_call (h__law_gcd.apart) (hr.mono (by first | exact Nat.le_refl _ | omega)) (a_cons (q_v 1) (a_cons (q_v 0) a_nil))) q_int (nomark _)))) (fun _ _ _ _ _ => (q_v 1))) a_nil))))) hm (fun _ _ _ _ _ _ us hl => match us, hl with | [_], _ => rfl)
/-! _law_spread -/
abbrev s__law_spread : Stmt := top 79
theorem sc__law_spread : FnScope ["cells", "many", "found", "cell"] ["cells", "many"] (defScope s__law_spread) := ⟨rfl, rfl, rfl, by decide +kernel, rfl, by decide +kernel, by decide +kernel⟩
theorem ok__law_spread {f : Addr} {fd : FuncData} (T : Bs K mg) (F : FnP K "_law_spread" s__law_spread f fd) (hm : mg "_law_spread" = some (.ref f)) : Has P w K mg base 1 "_law_spread" 2 r__law_spread :=
  has_of F (fn_run F sc__law_spread rfl rfl fun cdv A outer s H E hr =>
      (x_cons (x_set (i := 2) sc__law_spread.nd (q_lst a_nil))
      (x_cons (x_for 1000 PassesOwn.never rfl (i_seq (q_v 0)) (g_name (i := 3) sc__law_spread.nd) (x_one (x_set (i := 2) sc__law_spread.nd (q_add (q_add (q_v 2) (q_lst (a_cons (q_v 3) a_nil))) (q_mul (q_lst (a_cons q_int a_nil)) (q_sub (q_v 1) q_int))))))
      (x_one (x_ret (q_sl (q_v 2) o_no (o_at (q_add (q_mul (q_v 1) (q_sub (q_len T.b_len (a_cons (q_v 0) a_nil)) q_int)) q_int)))))))) hm (fun _ _ _ _ _ _ us hl => match us, hl with | [_, _], _ => rfl)
/-! _law_divided -/
abbrev s__law_divided : Stmt := top 80
theorem sc__law_divided : FnScope ["cells", "least_v", "left", "many", "quotient", "k", "part", "j"] ["cells", "least_v"] (defScope s__law_divided) := ⟨rfl, rfl, rfl, by decide +kernel, rfl, by decide +kernel, by decide +kernel⟩
theorem ok__law_divided {f : Addr} {fd : FuncData} (T : Bs K mg) (F : FnP K "_law_divided" s__law_divided f fd) (hm : mg "_law_divided" = some (.ref f)) : Has P w K mg base 1 "_law_divided" 2 r__law_divided :=
  has_of F (fn_run F sc__law_divided rfl rfl fun cdv A outer s H E hr =>
      (x_cons (x_par (i := 2) (j := 3) rfl sc__law_divided.nd (a_cons (q_list T.b_list (a_cons (q_v 0) a_nil)) (a_cons (q_sub (q_len T.b_len (a_cons (q_v 1) a_nil)) q_int) a_nil)))
      (x_cons (x_set (i := 4) sc__law_divided.nd (q_mul (q_lst (a_cons q_int a_nil)) (q_max T.b_max rfl (a_cons q_int (a_cons (q_sub (q_len T.b_len (a_cons (q_v 2) a_nil)) (q_v 3)) a_nil)))))
      (x_cons (x_for 1000 PassesOwn.never rfl (i_rng3 T.b_range (a_cons (q_sub (q_len T.b_len (a_cons (q_v 2) a_nil)) q_int) (a_cons (q_sub (q_v 3) q_int) (a_cons (q_sub q_int q_int) a_nil)))) (g_name (i := 5) sc__law_divided.nd) (x_cons (x_set (i := 6) sc__law_divided.nd (q_ix (q_v 2) (q_v 5)))
      (x_cons (x_asg (q_v 6) (g_sub (q_v 4) (q_sub (q_v 5) (q_v 3))))
      (x_one (x_if (u_cmp (opr_or op_ne (op_neD hr.units)) ok_ne (q_v 6) q_int (nomark _)) (x_one (x_for 1000 PassesOwn.never rfl (i_rng1 T.b_range (a_cons (q_add (q_v 3) q_int) a_nil)) (g_name (i := 7) sc__law_divided.nd) (x_one (x_asg (q_sub (q_ix (q_v 2) (q_add (q_sub (q_v 5) (q_v 3)) (q_v 7))) (q_mul (q_v 6) (q_ix (q_v 1) (q_v 7)))) (g_sub (q_v 2) (q_add (q_sub (q_v 5) (q_v 3)) (q_v 7))))))) x_nil)))))
      (x_one (x_ret (q_tup (a_cons (q_v 4) (a_cons (q_sl (q_v 2) o_no (o_at (q_v 3))) a_nil))))))))) hm (fun _ _ _ _ _ _ us hl => match us, hl with | [_, _], _ => rfl)
/-! _law_polynomial -/
abbrev s__law_polynomial : Stmt := top 78
theorem sc__law_polynomial : FnScope ["order", "found", "done", "p", "wide", "cell"] ["order"] (defScope s__law_polynomial) := ⟨rfl, rfl, rfl, by decide +kernel, rfl, by decide +kernel, by decide +kernel⟩
theorem ok__law_polynomial {f : Addr} {fd : FuncData} (T : Bs K mg) (F : FnP K "_law_polynomial" s__law_polynomial f fd) (hm : mg "_law_polynomial" = some (.ref f)) (h__law_divided : Has P w K mg base 1 "_law_divided" 2 r__law_divided) (h__law_primes : Has P w K mg base 1 "_law_primes" 1 r__law_primes) (h__law_spread : Has P w K mg base 1 "_law_spread" 2 r__law_spread) : Has P w K mg base 2 "_law_polynomial" 1 r__law_polynomial :=
  has_of F (fn_run F sc__law_polynomial rfl rfl fun cdv A outer s H E hr =>
      (x_cons (x_par (i := 1) (j := 2) rfl sc__law_polynomial.nd (a_cons (q_lst (a_cons (q_sub q_int q_int) (a_cons q_int a_nil))) (a_cons q_int a_nil)))
      (x_cons (x_for 1000 PassesOwn.never rfl (i_seq (q_call (h__law_primes.apart) (hr.mono (by first | exact Nat.le_refl _ | omega)) (a_cons (q_v 0) a_nil))) (g_name (i := 3) sc__law_polynomial.nd) (x_cons (x_set (i := 4) sc__law_polynomial.nd (q_lst a_nil))
      (x_cons (x_for 1000 PassesOwn.never rfl (i_seq (q_v 1)) (g_name (i := 5) sc__law_polynomial.nd) (x_one (x_set (i := 4) sc__law_polynomial.nd (q_add (q_add (q_v 4) (q_lst (a_cons (q_v 5) a_nil))) (q_mul (q_lst (a_cons q_int a_nil)) (q_sub (q_v 3) q_int))))))
      (x_one (x_par (i := 1) (j := 2) rfl sc__law_polynomial.nd (a_cons (q_ix (q_call (h__law_divided.apart) (hr.mono (by first | exact Nat.le_refl _ | omega)) (a_cons (q_sl (q_v 4) o_no (o_at (q_add (q_mul (q_v 3) (q_sub (q_len T.b_len (a_cons (q_v 1) a_nil)) q_int)) q_int))) (a_cons (q_v 1) a_nil))) q_int) (a_cons (q_mul (q_v 2) (q_v 3)) a_nil)))))))
      (x_one (x_ret (q_tuple T.b_tuple (a_cons (q_call (h__law_spread.apart) (hr.mono (by first | exact Nat.le_refl _ | omega)) (a_cons (q_v 1) (a_cons (q_div (q_v 0) (q_v 2)) a_nil))) a_nil))))))) hm (fun _ _ _ _ _ _ us hl => match us, hl with | [_], _ => rfl)
/-! _law_parts -/
abbrev s__law_parts : Stmt := top 81
theorem sc__law_parts : FnScope ["cells", "order"] ["cells", "order"] (defScope s__law_parts) := ⟨rfl, rfl, rfl, by decide +kernel, rfl, by decide +kernel, by decide +kernel⟩
theorem ok__law_parts {f : Addr} {fd : FuncData} (T : Bs K mg) (F : FnP K "_law_parts" s__law_parts f fd) (hm : mg "_law_parts" = some (.ref f)) (h__law_degree : Has P w K mg base 2 "_law_degree" 1 r__law_degree) (h__law_divided : Has P w K mg base 1 "_law_divided" 2 r__law_divided) (h__law_polynomial : Has P w K mg base 2 "_law_polynomial" 1 r__law_polynomial) : Has P w K mg base 3 "_law_parts" 2 r__law_parts :=
  has_of F (fn_run F sc__law_parts rfl rfl fun cdv A outer s H E hr =>
      (x_one (x_ret (q_tuple T.b_tuple (a_cons (q_sl (q_add (q_ix (q_call (h__law_divided.apart) (hr.mono (by first | exact Nat.le_refl _ | omega)) (a_cons (q_v 0) (a_cons (q_call (h__law_polynomial.apart) (hr.mono (by first | exact Nat.le_refl _ | omega)) (a_cons (q_v 1) a_nil)) a_nil))) q_int) (q_mul (q_lst (a_cons q_int a_nil)) q_int)) o_no (o_at (q_call (h__law_degree.apart) (hr.mono (by first | exact Nat.le_refl _ | omega)) (a_cons (q_v 1) a_nil)))) a_nil))))) hm (fun _ _ _ _ _ _ us hl => match us, hl with | [_, _], _ => rfl)
/-! _law_down -/
abbrev s__law_down : Stmt := top 82
theorem sc__law_down : FnScope ["cells", "order", "p", "low", "found", "k", "j"] ["cells", "order", "p"] (defScope s__law_down) := ⟨rfl, rfl, rfl, by decide +kernel, rfl, by decide +kernel, by decide +kernel⟩
theorem ok__law_down {f : Addr} {fd : FuncData} (T : Bs K mg) (F : FnP K "_law_down" s__law_down f fd) (hm : mg "_law_down" = some (.ref f)) : Has P w K mg base 1 "_law_down" 3 r__law_down :=
  has_of F (fn_run F sc__law_down rfl rfl fun cdv A outer s H E hr =>
      (x_cons (x_asg (q_tup (a_cons (q_div (q_v 1) (q_v 2)) (a_cons (q_mul (q_lst (a_cons q_int a_nil)) (q_div (q_v 1) (q_v 2))) a_nil))) (g_tup rfl (gs_cons (g_name (i := 3) sc__law_down.nd) (gs_cons (g_name (i := 4) sc__law_down.nd) gs_nil))))
      (x_cons (x_if (u_cmp (op_eqA hr.units) ok_eq (q_mod (q_toInt T.b_int (a_cons (q_v 3) a_nil)) (q_v 2)) q_int (nomark _)) (x_cons (x_for 1000 PassesOwn.never rfl (i_rng1 T.b_range (a_cons (q_v 3) a_nil)) (g_name (i := 5) sc__law_down.nd) (x_one (x_asg (q_mul (q_v 2) (q_ix (q_v 0) (q_mul (q_v 2) (q_v 5)))) (g_sub (q_v 4) (q_v 5)))))
      (x_one (x_ret (q_tup (a_cons (q_v 4) (a_cons (q_v 2) a_nil)))))) x_nil)
      (x_cons (x_for 1000 PassesOwn.never rfl (i_rng1 T.b_range (a_cons (q_v 1) a_nil)) (g_name (i := 5) sc__law_down.nd) (x_one (x_if (u_cmp (opr_or op_ne (op_neD hr.units)) ok_ne (q_ix (q_v 0) (q_v 5)) q_int (nomark _)) (x_cons (x_set (i := 6) sc__law_down.nd (q_ix (q_lc 1000 [("j", 6)] rfl sc__law_down.nd (i_rng1 T.b_range (a_cons (q_v 3) a_nil)) (blkOk_by (by kernel_rfl)) (gc_name (by decide)) (fun _ _ _ _ _ => (pg_n 6 sc__law_down.nd)) (fun _ _ _ _ _ => (pts_one (u_cmp (op_eqA hr.units) ok_eq (q_mod (q_toInt T.b_int (a_cons (q_sub (q_mul (q_v 6) (q_v 2)) (q_v 5)) a_nil)) (q_v 3)) q_int (nomark _)))) (fun _ _ _ _ _ => (q_v 6))) q_int))
      (x_one (x_asg (q_add (q_ix (q_v 4) (q_v 6)) (q_mul (q_ix (q_v 0) (q_v 5)) (q_if (u_cmp (op_eqA hr.units) ok_eq (q_mod (q_toInt T.b_int (a_cons (q_v 5) a_nil)) (q_v 2)) q_int (nomark _)) (q_sub (q_v 2) q_int) (q_sub q_int q_int)))) (g_sub (q_v 4) (q_v 6))))) x_nil)))
      (x_one (x_ret (q_tup (a_cons (q_v 4) (a_cons (q_sub (q_v 2) q_int) a_nil))))))))) hm (fun _ _ _ _ _ _ us hl => match us, hl with | [_, _, _], _ => rfl)
/-! _law_lifted -/
abbrev s__law_lifted : Stmt := top 83
theorem sc__law_lifted : FnScope ["cells", "order", "high", "found", "k"] ["cells", "order", "high"] (defScope s__law_lifted) := ⟨rfl, rfl, rfl, by decide +kernel, rfl, by decide +kernel, by decide +kernel⟩
theorem ok__law_lifted {f : Addr} {fd : FuncData} (T : Bs K mg) (F : FnP K "_law_lifted" s__law_lifted f fd) (hm : mg "_law_lifted" = some (.ref f)) : Has P w K mg base 1 "_law_lifted" 3 r__law_lifted :=
  has_of F (fn_run F sc__law_lifted rfl rfl fun cdv A outer s H E hr =>
      (x_cons (x_set (i := 3) sc__law_lifted.nd (q_mul (q_lst (a_cons q_int a_nil)) (q_v 2)))
      (x_cons (x_for 1000 PassesOwn.never rfl (i_rng1 T.b_range (a_cons (q_v 1) a_nil)) (g_name (i := 4) sc__law_lifted.nd) (x_one (x_asg (q_ix (q_v 0) (q_v 4)) (g_sub (q_v 3) (q_mul (q_v 4) (q_div (q_v 2) (q_v 1)))))))
      (x_one (x_ret (q_v 3)))))) hm (fun _ _ _ _ _ _ us hl => match us, hl with | [_, _, _], _ => rfl)
/-! _law_form -/
abbrev s__law_form : Stmt := top 84
theorem sc__law_form : FnScope ["cells", "below", "order", "step", "turn", "p", "low", "many", "cell"] ["cells", "below", "order"] (defScope s__law_form) := ⟨rfl, rfl, rfl, by decide +kernel, rfl, by decide +kernel, by decide +kernel⟩
theorem ok__law_form {f : Addr} {fd : FuncData} (T : Bs K mg) (F : FnP K "_law_form" s__law_form f fd) (hm : mg "_law_form" = some (.ref f)) (h__law_down : Has P w K mg base 1 "_law_down" 3 r__law_down) (h__law_fraction : Has P w K mg base 2 "_law_fraction" 2 r__law_fraction) (h__law_lifted : Has P w K mg base 1 "_law_lifted" 3 r__law_lifted) (h__law_parts : Has P w K mg base 3 "_law_parts" 2 r__law_parts) (h__law_primes : Has P w K mg base 1 "_law_primes" 1 r__law_primes) : Has P w K mg base 4 "_law_form" 3 r__law_form :=
  has_of F (fn_run F sc__law_form rfl rfl fun cdv A outer s H E hr =>
      (x_cons (x_par (i := 0) (j := 3) rfl sc__law_form.nd (a_cons (q_list T.b_list (a_cons (q_v 0) a_nil)) (a_cons q_bl a_nil)))
      (x_cons (x_for 1000 PassesOwn.never rfl (i_rng1 T.b_range (a_cons q_int a_nil)) (g_name (i := 4) sc__law_form.nd) (x_one (x_if (u_tru (q_v 3)) (x_cons (x_set (i := 3) sc__law_form.nd q_bl)
      (x_one (x_for 1000 PassesOwn.never rfl (i_seq (q_call (h__law_primes.apart) (hr.mono (by first | exact Nat.le_refl _ | omega)) (a_cons (q_v 2) a_nil))) (g_name (i := 5) sc__law_form.nd) (x_cons (x_asg (q_if (u_not (u_tru (q_v 3))) (q_call (h__law_down.apart) (hr.mono (by first | exact Nat.le_refl _ | omega)) (a_cons (q_v 0) (a_cons (q_v 2) (a_cons (q_v 5) a_nil)))) (q_tup (a_cons (q_lst a_nil) (a_cons q_int a_nil)))) (g_tup rfl (gs_cons (g_name (i := 6) sc__law_form.nd) (gs_cons (g_name (i := 7) sc__law_form.nd) gs_nil))))
      (x_one (x_if (PW.pt (w_and (u_not (u_tru (q_v 3))) (w_and1 (u_cmp (op_eqA hr.units) ok_eq (q_call (h__law_parts.apart) (hr.mono (by first | exact Nat.le_refl _ | omega)) (a_cons (q_call (h__law_lifted.apart) (hr.mono (by first | exact Nat.le_refl _ | omega)) (a_cons (q_v 6) (a_cons (q_div (q_v 2) (q_v 5)) (a_cons (q_v 2) a_nil)))) (a_cons (q_v 2) a_nil))) (q_tuple T.b_tuple (a_cons (q_lc 1000 [("cell", 8)] rfl sc__law_form.nd (i_seq (q_call (h__law_parts.apart) (hr.mono (by first | exact Nat.le_refl _ | omega)) (a_cons (q_v 0) (a_cons (q_v 2) a_nil)))) (blkOk_by (by kernel_rfl)) (gc_name (by decide)) (fun _ _ _ _ _ => (pg_n 8 sc__law_form.nd)) (fun _ _ _ _ _ => ts_nil) (fun _ _ _ _ _ => (q_mul (q_v 7) (q_v 8)))) a_nil)) (nomark _))))) (x_one (x_asg (q_tup (a_cons (q_v 6) (a_cons (q_mul (q_v 1) (q_v 7)) (a_cons (q_div (q_v 2) (q_v 5)) (a_cons q_bl a_nil))))) (g_tup rfl (gs_cons (g_name (i := 0) sc__law_form.nd) (gs_cons (g_name (i := 1) sc__law_form.nd) (gs_cons (g_name (i := 2) sc__law_form.nd) (gs_cons (g_name (i := 3) sc__law_form.nd) gs_nil))))))) x_nil)))))) x_nil)))
      (x_one (x_ret (q_tup (a_cons (q_v 2) (a_cons (q_tuple T.b_tuple (a_cons (q_lc 1000 [("cell", 8)] rfl sc__law_form.nd (i_seq (q_call (h__law_parts.apart) (hr.mono (by first | exact Nat.le_refl _ | omega)) (a_cons (q_v 0) (a_cons (q_v 2) a_nil)))) (blkOk_by (by kernel_rfl)) (gc_name (by decide)) (fun _ _ _ _ _ => (pg_n 8 sc__law_form.nd)) (fun _ _ _ _ _ => ts_nil) (fun _ _ _ _ _ => (q_call (h__law_fraction.apart) (hr.mono (by first | exact Nat.le_refl _ | omega)) (a_cons (q_v 8) (a_cons (q_v 1) a_nil))))) a_nil)) a_nil)))))))) hm (fun _ _ _ _ _ _ us hl => match us, hl with | [_, _, _], _ => rfl)
/-! _law_row -/
abbrev s__law_row : Stmt := top 85
theorem sc__law_row : FnScope ["number", "order", "below", "found", "above", "part", "k"] ["number", "order"] (defScope s__law_row) := ⟨rfl, rfl, rfl, by decide +kernel, rfl, by decide +kernel, by decide +kernel⟩
theorem ok__law_row {f : Addr} {fd : FuncData} (T : Bs K mg) (F : FnP K "_law_row" s__law_row f fd) (hm : mg "_law_row" = some (.ref f)) (h__law_gcd : Has P w K mg base 1 "_law_gcd" 2 gcdF) : Has P w K mg base 2 "_law_row" 2 r__law_row :=
  has_of F (fn_run F sc__law_row rfl rfl fun cdv A outer s H E hr =>
      (x_cons (x_par (i := 2) (j := 3) rfl sc__law_row.nd (a_cons q_int (a_cons (q_mul (q_lst (a_cons q_int a_nil)) (q_v 1)) a_nil)))
      (x_cons (x_for 1000 PassesOwn.never rfl (i_seq (q_ix (q_v 0) q_int)) (g_tup rfl (gs_cons (g_name (i := 4) sc__law_row.nd) (gs_cons (g_name (i := 5) sc__law_row.nd) gs_nil))) (x_one (x_set (i := 2) sc__law_row.nd (q_mul (q_v 2) (q_div (q_v 5) (q_call (h__law_gcd.apart) (hr.mono (by first | exact Nat.le_refl _ | omega)) (a_cons (q_v 2) (a_cons (q_v 5) a_nil))))))))
      (x_cons (x_for 1000 PassesOwn.never rfl (i_rng1 T.b_range (a_cons (q_len T.b_len (a_cons (q_ix (q_v 0) q_int) a_nil)) a_nil)) (g_name (i := 6) sc__law_row.nd) (x_one (x_asg (q_mul (q_ix (q_ix (q_ix (q_v 0) q_int) (q_v 6)) q_int) (q_div (q_v 2) (q_ix (q_ix (q_ix (q_v 0) q_int) (q_v 6)) q_int))) (g_sub (q_v 3) (q_mul (q_v 6) (q_div (q_v 1) (q_ix (q_v 0) q_int)))))))
      (x_one (x_ret (q_tup (a_cons (q_v 3) (a_cons (q_v 2) a_nil))))))))) hm (fun _ _ _ _ _ _ us hl => match us, hl with | [_, _], _ => rfl)
/-! _law_both -/
abbrev s__law_both : Stmt := top 86
theorem sc__law_both : FnScope ["one", "two"] ["one", "two"] (defScope s__law_both) := ⟨rfl, rfl, rfl, by decide +kernel, rfl, by decide +kernel, by decide +kernel⟩
theorem ok__law_both {f : Addr} {fd : FuncData} (T : Bs K mg) (F : FnP K "_law_both" s__law_both f fd) (hm : mg "_law_both" = some (.ref f)) (h__law_gcd : Has P w K mg base 1 "_law_gcd" 2 gcdF) : Has P w K mg base 2 "_law_both" 2 r__law_both :=
  has_of F (fn_run F sc__law_both rfl rfl fun cdv A outer s H E hr =>
      (x_one (x_ret (q_mul (q_v 0) (q_div (q_v 1) (q_call (h__law_gcd.apart) (hr.mono (by first | exact Nat.le_refl _ | omega)) (a_cons (q_v 0) (a_cons (q_v 1) a_nil)))))))) hm (fun _ _ _ _ _ _ us hl => match us, hl with | [_, _], _ => rfl)
/-! _law_added -/
abbrev s__law_added : Stmt := top 87
theorem sc__law_added : FnScope ["one", "two", "sign", "order", "x", "low", "y", "far", "k"] ["one", "two", "sign"] (defScope s__law_added) := ⟨rfl, rfl, rfl, by decide +kernel, rfl, by decide +kernel, by decide +kernel⟩
theorem ok__law_added {f : Addr} {fd : FuncData} (T : Bs K mg) (F : FnP K "_law_added" s__law_added f fd) (hm : mg "_law_added" = some (.ref f)) (h__law_both : Has P w K mg base 2 "_law_both" 2 r__law_both) (h__law_form : Has P w K mg base 4 "_law_form" 3 r__law_form) (h__law_row : Has P w K mg base 2 "_law_row" 2 r__law_row) : Has P w K mg base 5 "_law_added" 3 r__law_added :=
  has_of F (fn_run F sc__law_added rfl rfl fun cdv A outer s H E hr =>
      (x_cons (x_set (i := 3) sc__law_added.nd (q_call (h__law_both.apart) (hr.mono (by first | exact Nat.le_refl _ | omega)) (a_cons (q_ix (q_v 0) q_int) (a_cons (q_ix (q_v 1) q_int) a_nil))))
      (x_cons (x_asg (q_call (h__law_row.apart) (hr.mono (by first | exact Nat.le_refl _ | omega)) (a_cons (q_v 0) (a_cons (q_v 3) a_nil))) (g_tup rfl (gs_cons (g_name (i := 4) sc__law_added.nd) (gs_cons (g_name (i := 5) sc__law_added.nd) gs_nil))))
      (x_cons (x_asg (q_call (h__law_row.apart) (hr.mono (by first | exact Nat.le_refl _ | omega)) (a_cons (q_v 1) (a_cons (q_v 3) a_nil))) (g_tup rfl (gs_cons (g_name (i := 6) sc__law_added.nd) (gs_cons (g_name (i := 7) sc__law_added.nd) gs_nil))))
      (x_one (x_ret (q_call (h__law_form.apart) (hr.mono (by first | exact Nat.le_refl _ | omega)) (a_cons (q_lc 1000 [("k", 8)] rfl sc__law_added.nd (i_rng1 T.b_range (a_cons (q_v 3) a_nil)) (blkOk_by (by kernel_rfl)) (gc_name (by decide)) (fun _ _ _ _ _ => (pg_n 8 sc__law_added.nd)) (fun _ _ _ _ _ => ts_nil) (fun _ _ _ _ _ => (q_add (q_mul (q_ix (q_v 4) (q_v 8)) (q_v 7)) (q_mul (q_mul (q_v 2) (q_ix (q_v 6) (q_v 8))) (q_v 5))))) (a_cons (q_mul (q_v 5) (q_v 7)) (a_cons (q_v 3) a_nil)))))))))) hm (fun _ _ _ _ _ _ us hl => match us, hl with | [_, _, _], _ => rfl)
/-! _law_scaled -/
abbrev s__law_scaled : Stmt := top 88
theorem sc__law_scaled : FnScope ["number", "part", "above", "below"] ["number", "part"] (defScope s__law_scaled) := ⟨rfl, rfl, rfl, by decide +kernel, rfl, by decide +kernel, by decide +kernel⟩
theorem ok__law_scaled {f : Addr} {fd : FuncData} (T : Bs K mg) (F : FnP K "_law_scaled" s__law_scaled f fd) (hm : mg "_law_scaled" = some (.ref f)) (h__law_fraction : Has P w K mg base 2 "_law_fraction" 2 r__law_fraction) : Has P w K mg base 3 "_law_scaled" 2 r__law_scaled :=
  has_of F (fn_run F sc__law_scaled rfl rfl fun cdv A outer s H E hr =>
      (x_cons (x_if (u_cmp (op_eqA hr.units) ok_eq (q_ix (q_v 1) q_int) q_int (nomark _)) (x_one (x_ret (q_tup (a_cons q_int (a_cons (q_tup (a_cons (q_tup (a_cons q_int (a_cons q_int a_nil))) a_nil)) a_nil))))) x_nil)
      (x_one (x_ret (q_tup (a_cons (q_ix (q_v 0) q_int) (a_cons (q_tuple T.b_tuple (a_cons (q_lc 1000 [("above", 2), ("below", 3)] rfl sc__law_scaled.nd (i_seq (q_ix (q_v 0) q_int)) (blkOk_by (by kernel_rfl)) (gc_tup (gcs_cons (gc_name (by decide)) (gcs_cons (gc_name (by decide)) gcs_nil))) (fun _ _ _ _ _ => (pg_tup rfl (pgs_cons (pg_n 2 sc__law_scaled.nd) (pgs_cons (pg_n 3 sc__law_scaled.nd) pgs_nil)))) (fun _ _ _ _ _ => ts_nil) (fun _ _ _ _ _ => (q_call (h__law_fraction.apart) (hr.mono (by first | exact Nat.le_refl _ | omega)) (a_cons (q_mul (q_v 2) (q_ix (q_v 1) q_int)) (a_cons (q_mul (q_v 3) (q_ix (q_v 1) q_int)) a_nil))))) a_nil)) a_nil))))))) hm (fun _ _ _ _ _ _ us hl => match us, hl with | [_, _], _ => rfl)
/-! _law_root -/
abbrev s__law_root : Stmt := top 89
theorem sc__law_root : FnScope ["order", "k", "cells"] ["order", "k"] (defScope s__law_root) := ⟨rfl, rfl, rfl, by decide +kernel, rfl, by decide +kernel, by decide +kernel⟩
theorem ok__law_root {f : Addr} {fd : FuncData} (T : Bs K mg) (F : FnP K "_law_root" s__law_root f fd) (hm : mg "_law_root" = some (.ref f)) (h__law_form : Has P w K mg base 4 "_law_form" 3 r__law_form) : Has P w K mg base 5 "_law_root" 2 r__law_root :=
  has_of F (fn_run F sc__law_root rfl rfl fun cdv A outer s H E hr =>
      (x_cons (x_set (i := 2) sc__law_root.nd (q_mul (q_lst (a_cons q_int a_nil)) (q_v 0)))
      (x_cons (x_asg q_int (g_sub (q_v 2) (q_mod (q_toInt T.b_int (a_cons (q_v 1) a_nil)) (q_v 0))))
      (x_one (x_ret (q_call (h__law_form.apart) (hr.mono (by first | exact Nat.le_refl _ | omega)) (a_cons (q_v 2) (a_cons q_int (a_cons (q_v 0) a_nil))))))))) hm (fun _ _ _ _ _ _ us hl => match us, hl with | [_, _], _ => rfl)
/-! _law_right -/
abbrev s__law_right : Stmt := top 90
theorem sc__law_right : FnScope ["bowl", "lap", "eight", "three", "prime", "total", "squares", "k", "sign", "signed", "other", "far", "both", "way", "half", "due"] ["bowl"] (defScope s__law_right) := ⟨rfl, rfl, rfl, by decide +kernel, rfl, by decide +kernel, by decide +kernel⟩
theorem ok__law_right {f : Addr} {fd : FuncData} (T : Bs K mg) (F : FnP K "_law_right" s__law_right f fd) (hm : mg "_law_right" = some (.ref f)) (h__law_added : Has P w K mg base 5 "_law_added" 3 r__law_added) (h__law_of : Has P w K mg base 2 "_law_of" 2 r__law_of) (h__law_root : Has P w K mg base 5 "_law_root" 2 r__law_root) (h__law_same : Has P w K mg base 7 "_law_same" 2 (r__law_same 6)) (h__law_scaled : Has P w K mg base 3 "_law_scaled" 2 r__law_scaled) (h_added : Has P w K mg base 12 "added" 2 r_added) (h_is_number : Has P w K mg base 10 "is_number" 1 r_is_number) (h_is_real : Has P w K mg base 12 "is_real" 1 r_is_real) (h_kin : Has P w K mg base 11 "kin" 1 r_kin) (h_less : Has P w K mg base 12 "less" 2 r_less) (h_root : Has P w K mg base 11 "root" 2 r_root) (h_scaled : Has P w K mg base 12 "scaled" 2 r_scaled) (h_times : Has P w K mg base 12 "times" 2 r_times) (h_trace : Has P w K mg base 11 "trace" 1 r_trace) (h_turned_back : Has P w K mg base 11 "turned_back" 1 r_turned_back) : Has P w K mg base 13 "_law_right" 1 r__law_right :=
  has_of F (fn_run F sc__law_right rfl rfl fun cdv A outer s H E hr =>
      (x_cons (x_for 1000 PassesOwn.never rfl (i_rng1 T.b_range (a_cons q_int a_nil)) (g_name (i := 1) sc__law_right.nd) (x_sub 0 (x_cons (x_set (i := 4) sc__law_right.nd (q_call h__law_of (hr.mono (by first | exact Nat.le_refl _ | omega)) (a_cons (q_v 0) (a_cons (q_tup (a_cons q_int (a_cons q_int (a_cons q_int (a_cons q_int (a_cons q_int a_nil)))))) a_nil))))
      (x_cons (x_asg (q_tup (a_cons (q_tup (a_cons q_int (a_cons (q_tup (a_cons (q_tup (a_cons q_int (a_cons q_int a_nil))) a_nil)) a_nil))) (a_cons (q_lc 1000 [("k", 7)] rfl sc__law_right.nd (i_rng2 T.b_range (a_cons q_int (a_cons (q_v 4) a_nil))) (blkOk_by (by kernel_rfl)) (gc_name (by decide)) (fun _ _ _ _ _ => (pg_n 7 sc__law_right.nd)) (fun _ _ _ _ _ => ts_nil) (fun _ _ _ _ _ => (q_mod (q_toInt T.b_int (a_cons (q_mul (q_v 7) (q_v 7)) a_nil)) (q_v 4)))) a_nil))) (g_tup rfl (gs_cons (g_name (i := 5) sc__law_right.nd) (gs_cons (g_name (i := 6) sc__law_right.nd) gs_nil))))
      (x_cons (x_for 1000 PassesOwn.never rfl (i_rng1 T.b_range (a_cons (q_v 4) a_nil)) (g_name (i := 7) sc__law_right.nd) (x_one (x_set (i := 5) sc__law_right.nd (q_call (h_added.apart) (hr.mono (by first | exact Nat.le_refl _ | omega)) (a_cons (q_v 5) (a_cons (q_call (h_root.apart) (hr.mono (by first | exact Nat.le_refl _ | omega)) (a_cons (q_v 4) (a_cons (q_mul (q_v 7) (q_v 7)) a_nil))) a_nil))))))
      (x_cons (x_set (i := 8) sc__law_right.nd (q_if (u_cmp (op_eqA hr.units) ok_eq (q_mod (q_toInt T.b_int (a_cons (q_v 4) a_nil)) q_int) q_int (nomark _)) q_int (q_sub q_int q_int)))
      (x_cons (x_if (u_not (u_tru (q_call (h__law_same.apart) (hr.mono (by first | exact Nat.le_refl _ | omega)) (a_cons (q_tup (a_cons (q_call (h_times.apart) (hr.mono (by first | exact Nat.le_refl _ | omega)) (a_cons (q_v 5) (a_cons (q_v 5) a_nil))) (a_cons (q_call (h_is_real.apart) (hr.mono (by first | exact Nat.le_refl _ | omega)) (a_cons (q_v 5) a_nil)) (a_cons (q_call (h_turned_back.apart) (hr.mono (by first | exact Nat.le_refl _ | omega)) (a_cons (q_v 5) a_nil)) (a_cons (q_ix (q_v 5) q_int) a_nil))))) (a_cons (q_tup (a_cons (q_tup (a_cons q_int (a_cons (q_tup (a_cons (q_tup (a_cons (q_mul (q_v 8) (q_v 4)) (a_cons q_int a_nil))) a_nil)) a_nil))) (a_cons (q_cmp (op_eqA hr.units) ok_eq (q_v 8) q_int (nomark _)) (a_cons (q_call (h_scaled.apart) (hr.mono (by first | exact Nat.le_refl _ | omega)) (a_cons (q_v 5) (a_cons (q_tup (a_cons (q_v 8) (a_cons q_int a_nil))) a_nil))) (a_cons (q_v 4) a_nil))))) a_nil))))) (x_one (x_ret q_bl)) x_nil)
      (x_cons (x_if (u_not (u_tru (q_call (h__law_same.apart) (hr.mono (by first | exact Nat.le_refl _ | omega)) (a_cons (q_tup (a_cons (q_len T.b_len (a_cons (q_call (h_kin.apart) (hr.mono (by first | exact Nat.le_refl _ | omega)) (a_cons (q_v 5) a_nil)) a_nil)) (a_cons (q_call (h_trace.apart) (hr.mono (by first | exact Nat.le_refl _ | omega)) (a_cons (q_v 5) a_nil)) (a_cons (q_cmp (op_inA (units65 hr)) ok_in (q_call (h_scaled.apart) (hr.mono (by first | exact Nat.le_refl _ | omega)) (a_cons (q_v 5) (a_cons (q_tup (a_cons (q_sub q_int q_int) (a_cons q_int a_nil))) a_nil))) (q_call (h_kin.apart) (hr.mono (by first | exact Nat.le_refl _ | omega)) (a_cons (q_v 5) a_nil)) (by rfl)) (a_cons (q_call (h_is_number.apart) (hr.mono (by first | exact Nat.le_refl _ | omega)) (a_cons (q_v 5) a_nil)) a_nil))))) (a_cons (q_tup (a_cons q_int (a_cons (q_tup (a_cons q_int (a_cons q_int a_nil))) (a_cons q_bl (a_cons q_bl a_nil))))) a_nil))))) (x_one (x_ret q_bl)) x_nil)
      (x_cons (x_set (i := 9) sc__law_right.nd (q_tup (a_cons q_int (a_cons (q_tup (a_cons (q_tup (a_cons q_int (a_cons q_int a_nil))) a_nil)) a_nil))))
      (x_cons (x_for 1000 PassesOwn.never rfl (i_rng2 T.b_range (a_cons q_int (a_cons (q_v 4) a_nil))) (g_name (i := 7) sc__law_right.nd) (x_one (x_set (i := 9) sc__law_right.nd (q_if (u_cmp (op_inA (units65 hr)) ok_in (q_v 7) (q_v 6) (by rfl)) (q_call (h_added.apart) (hr.mono (by first | exact Nat.le_refl _ | omega)) (a_cons (q_v 9) (a_cons (q_call (h_root.apart) (hr.mono (by first | exact Nat.le_refl _ | omega)) (a_cons (q_v 4) (a_cons (q_v 7) a_nil))) a_nil))) (q_call (h_less.apart) (hr.mono (by first | exact Nat.le_refl _ | omega)) (a_cons (q_v 9) (a_cons (q_call (h_root.apart) (hr.mono (by first | exact Nat.le_refl _ | omega)) (a_cons (q_v 4) (a_cons (q_v 7) a_nil))) a_nil)))))))
      (x_cons (x_if (u_not (u_tru (q_call (h__law_same.apart) (hr.mono (by first | exact Nat.le_refl _ | omega)) (a_cons (q_tup (a_cons (q_v 9) (a_cons (q_v 5) a_nil))) (a_cons (q_tup (a_cons (q_v 5) (a_cons (q_tup (a_cons (q_v 4) (a_cons (q_tuple T.b_tuple (a_cons (q_lc 1000 [("k", 7)] rfl sc__law_right.nd (i_rng1 T.b_range (a_cons (q_sub (q_v 4) q_int) a_nil)) (blkOk_by (by kernel_rfl)) (gc_name (by decide)) (fun _ _ _ _ _ => (pg_n 7 sc__law_right.nd)) (fun _ _ _ _ _ => ts_nil) (fun _ _ _ _ _ => (q_tup (a_cons (q_add (q_sub (q_if (u_cmp (op_inA (units65 hr)) ok_in (q_v 7) (q_v 6) (by rfl)) q_int q_int) (q_if (u_cmp (op_inA (units65 hr)) ok_in (q_sub (q_v 4) q_int) (q_v 6) (by rfl)) q_int q_int)) (q_if (u_cmp (op_eqA hr.units) ok_eq (q_v 7) q_int (nomark _)) q_int q_int)) (a_cons q_int a_nil))))) a_nil)) a_nil))) a_nil))) a_nil))))) (x_one (x_ret q_bl)) x_nil)
      (x_sub 0 (x_cons (x_set (i := 10) sc__law_right.nd (q_call h__law_of (hr.mono (by first | exact Nat.le_refl _ | omega)) (a_cons (q_v 0) (a_cons (q_tup (a_cons q_int (a_cons q_int (a_cons q_int a_nil)))) a_nil))))
      (x_cons (x_set (i := 11) sc__law_right.nd (q_tup (a_cons q_int (a_cons (q_tup (a_cons (q_tup (a_cons q_int (a_cons q_int a_nil))) a_nil)) a_nil))))
      (x_cons (x_for 1000 PassesOwn.never rfl (i_rng1 T.b_range (a_cons (q_v 10) a_nil)) (g_name (i := 7) sc__law_right.nd) (x_one (x_set (i := 11) sc__law_right.nd (q_call (h_added.apart) (hr.mono (by first | exact Nat.le_refl _ | omega)) (a_cons (q_v 11) (a_cons (q_call (h_root.apart) (hr.mono (by first | exact Nat.le_refl _ | omega)) (a_cons (q_v 10) (a_cons (q_mul (q_v 7) (q_v 7)) a_nil))) a_nil))))))
      (x_cons (x_set (i := 12) sc__law_right.nd (q_call (h_times.apart) (hr.mono (by first | exact Nat.le_refl _ | omega)) (a_cons (q_v 5) (a_cons (q_v 11) a_nil))))
      (x_cons (x_set (i := 13) sc__law_right.nd (q_mul (q_v 8) (q_if (u_cmp (op_eqA hr.units) ok_eq (q_mod (q_toInt T.b_int (a_cons (q_v 10) a_nil)) q_int) q_int (nomark _)) q_int (q_sub q_int q_int))))
      (x_cons (x_if (u_not (u_tru (q_call (h__law_same.apart) (hr.mono (by first | exact Nat.le_refl _ | omega)) (a_cons (q_tup (a_cons (q_call (h_times.apart) (hr.mono (by first | exact Nat.le_refl _ | omega)) (a_cons (q_v 12) (a_cons (q_v 12) a_nil))) (a_cons (q_if (u_cmp (op_eqA hr.units) ok_eq (q_v 10) (q_v 4) (nomark _)) (q_v 12) (q_ix (q_v 12) q_int)) a_nil))) (a_cons (q_tup (a_cons (q_tup (a_cons q_int (a_cons (q_tup (a_cons (q_tup (a_cons (q_mul (q_mul (q_v 13) (q_v 4)) (q_v 10)) (a_cons q_int a_nil))) a_nil)) a_nil))) (a_cons (q_if (u_cmp (op_eqA hr.units) ok_eq (q_v 10) (q_v 4) (nomark _)) (q_tup (a_cons q_int (a_cons (q_tup (a_cons (q_tup (a_cons (q_mul (q_v 8) (q_v 4)) (a_cons q_int a_nil))) a_nil)) a_nil))) (q_mul (q_v 4) (q_v 10))) a_nil))) a_nil))))) (x_one (x_ret q_bl)) x_nil)
      (x_cons (x_set (i := 14) sc__law_right.nd (q_call (h_scaled.apart) (hr.mono (by first | exact Nat.le_refl _ | omega)) (a_cons (q_call (h_added.apart) (hr.mono (by first | exact Nat.le_refl _ | omega)) (a_cons (q_v 5) (a_cons (q_tup (a_cons q_int (a_cons (q_tup (a_cons (q_tup (a_cons q_int (a_cons q_int a_nil))) a_nil)) a_nil))) a_nil))) (a_cons (q_tup (a_cons q_int (a_cons q_int a_nil))) a_nil))))
      (x_cons (x_set (i := 15) sc__law_right.nd (q_call (h__law_scaled.apart) (hr.mono (by first | exact Nat.le_refl _ | omega)) (a_cons (q_call (h__law_added.apart) (hr.mono (by first | exact Nat.le_refl _ | omega)) (a_cons (q_tup (a_cons q_int (a_cons (q_tup (a_cons (q_tup (a_cons (q_sub (q_mul (q_v 8) (q_v 4)) q_int) (a_cons q_int a_nil))) a_nil)) a_nil))) (a_cons (q_tup (a_cons q_int (a_cons (q_tup (a_cons (q_tup (a_cons q_int (a_cons q_int a_nil))) a_nil)) a_nil))) (a_cons q_int a_nil)))) (a_cons (q_tup (a_cons q_int (a_cons q_int a_nil))) a_nil))))
      (x_one (x_if (u_not (u_tru (q_call (h__law_same.apart) (hr.mono (by first | exact Nat.le_refl _ | omega)) (a_cons (q_call (h_less.apart) (hr.mono (by first | exact Nat.le_refl _ | omega)) (a_cons (q_call (h_times.apart) (hr.mono (by first | exact Nat.le_refl _ | omega)) (a_cons (q_v 14) (a_cons (q_v 14) a_nil))) (a_cons (q_v 14) a_nil))) (a_cons (q_v 15) a_nil))))) (x_one (x_ret q_bl)) x_nil))))))))))))))))))))))
      (x_cons (x_set (i := 2) sc__law_right.nd (q_call (h_added.apart) (hr.mono (by first | exact Nat.le_refl _ | omega)) (a_cons (q_call (h_root.apart) (hr.mono (by first | exact Nat.le_refl _ | omega)) (a_cons q_int (a_cons q_int a_nil))) (a_cons (q_call (h_root.apart) (hr.mono (by first | exact Nat.le_refl _ | omega)) (a_cons q_int (a_cons q_int a_nil))) a_nil))))
      (x_cons (x_set (i := 3) sc__law_right.nd (q_call (h_less.apart) (hr.mono (by first | exact Nat.le_refl _ | omega)) (a_cons (q_call (h_root.apart) (hr.mono (by first | exact Nat.le_refl _ | omega)) (a_cons q_int (a_cons q_int a_nil))) (a_cons (q_call (h_root.apart) (hr.mono (by first | exact Nat.le_refl _ | omega)) (a_cons q_int (a_cons q_int a_nil))) a_nil))))
      (x_one (x_ret (q_call (h__law_same.apart) (hr.mono (by first | exact Nat.le_refl _ | omega)) (a_cons (q_tup (a_cons (q_call (h_times.apart) (hr.mono (by first | exact Nat.le_refl _ | omega)) (a_cons (q_v 2) (a_cons (q_v 2) a_nil))) (a_cons (q_call (h_trace.apart) (hr.mono (by first | exact Nat.le_refl _ | omega)) (a_cons (q_v 2) a_nil)) (a_cons (q_ix (q_call (h_added.apart) (hr.mono (by first | exact Nat.le_refl _ | omega)) (a_cons (q_call (h_root.apart) (hr.mono (by first | exact Nat.le_refl _ | omega)) (a_cons q_int (a_cons q_int a_nil))) (a_cons (q_call (h_root.apart) (hr.mono (by first | exact Nat.le_refl _ | omega)) (a_cons q_int (a_cons q_int a_nil))) a_nil))) q_int) (a_cons (q_call (h_times.apart) (hr.mono (by first | exact Nat.le_refl _ | omega)) (a_cons (q_v 3) (a_cons (q_v 3) a_nil))) a_nil))))) (a_cons (q_tup (a_cons (q_tup (a_cons q_int (a_cons (q_tup (a_cons (q_tup (a_cons q_int (a_cons q_int a_nil))) a_nil)) a_nil))) (a_cons (q_tup (a_cons q_int (a_cons q_int a_nil))) (a_cons q_int (a_cons (q_call (h__law_scaled.apart) (hr.mono (by first | exact Nat.le_refl _ | omega)) (a_cons (q_call (h__law_root.apart) (hr.mono (by first | exact Nat.le_refl _ | omega)) (a_cons q_int (a_cons q_int a_nil))) (a_cons (q_tup (a_cons q_int (a_cons q_int a_nil))) a_nil))) a_nil))))) a_nil))))))))) hm (fun _ _ _ _ _ _ us hl => match us, hl with | [_], _ => rfl)
/-! law -/
abbrev s_law : Stmt := top 91
theorem sc_law : FnScope ["script", "lap"] ["script"] (defScope s_law) := ⟨rfl, rfl, rfl, by decide +kernel, rfl, by decide +kernel, by decide +kernel⟩
theorem ok_law {f : Addr} {fd : FuncData} (T : Bs K mg) (F : FnP K "law" s_law f fd) (hm : mg "law" = some (.ref f)) (h__law_bowl : Has P w K mg base 1 "_law_bowl" 2 r__law_bowl) (h__law_right : Has P w K mg base 13 "_law_right" 1 r__law_right) : Has P w K mg base 14 "law" 1 r_law :=
  has_of F (fn_run F sc_law rfl rfl fun cdv A outer s H E hr =>
      (x_one (x_ret (q_all T.b_all rfl (a_cons (q_lc 1000 [("lap", 1)] rfl sc_law.nd (i_rng1 T.b_range (a_cons (q_max T.b_max rfl (a_cons q_int (a_cons (q_min T.b_min rfl (a_cons (q_len T.b_len (a_cons (q_v 0) a_nil)) (a_cons q_int a_nil))) a_nil))) a_nil)) (blkOk_by (by kernel_rfl)) (gc_name (by decide)) (fun _ _ _ _ _ => (pg_n 1 sc_law.nd)) (fun _ _ _ _ _ => ts_nil) (fun _ _ _ _ _ => (q_call (h__law_right.lend) (hr.mono (by first | exact Nat.le_refl _ | omega)) (a_cons (q_call (h__law_bowl.apartR) (hr.mono (by first | exact Nat.le_refl _ | omega)) (a_cons (q_v 0) (a_cons (q_v 1) a_nil))) a_nil)))) a_nil))))) hm (fun _ _ _ _ _ _ us hl => match us, hl with | [_], _ => rfl)
theorem fok_law {f : Addr} {fd : FuncData} (T : Bs K mg) (F : FnP K "law" s_law f fd) (h__law_bowl : Has P w K mg base 1 "_law_bowl" 2 r__law_bowl) (h__law_right : Has P w K mg base 13 "_law_right" 1 r__law_right) : FnOk P w K mg base CX0 14 f fd ["script"] (spR K 1 r_law) :=
  fn_run F sc_law rfl rfl fun cdv A outer s H E hr =>
      (x_one (x_ret (q_all T.b_all rfl (a_cons (q_lc 1000 [("lap", 1)] rfl sc_law.nd (i_rng1 T.b_range (a_cons (q_max T.b_max rfl (a_cons q_int (a_cons (q_min T.b_min rfl (a_cons (q_len T.b_len (a_cons (q_v 0) a_nil)) (a_cons q_int a_nil))) a_nil))) a_nil)) (blkOk_by (by kernel_rfl)) (gc_name (by decide)) (fun _ _ _ _ _ => (pg_n 1 sc_law.nd)) (fun _ _ _ _ _ => ts_nil) (fun _ _ _ _ _ => (q_call (h__law_right.lend) (hr.mono (by first | exact Nat.le_refl _ | omega)) (a_cons (q_call (h__law_bowl.apartR) (hr.mono (by first | exact Nat.le_refl _ | omega)) (a_cons (q_v 0) (a_cons (q_v 1) a_nil))) a_nil)))) a_nil))))
end
end Sm
/-! Gf: Field(order) -/
namespace Sm
open PySem PySem.Spec PyProof.Rows L2
theorem isI_of {w : W} (h : isI w = true) : ∃ i, w = .int i := by
  cases w with
  | int i => exact ⟨i, rfl⟩
  | _ => cases h
theorem RpL.isI {K : PySem.W.Frag} {ρ ρ' : List Addr} {H H' : Hp} : ∀ {ws : List W} {vs : List V}, ws.all Sm.isI = true → RpL K ρ H ws vs → RpL K ρ' H' ws vs
  | _, _, _, .nil => .nil
  | _, _, h, .cons r t => by
    rw [List.all_cons] at h
    obtain ⟨h1, h2⟩ := Bool.and_eq_true_iff.mp h
    obtain ⟨i, rfl⟩ := isI_of h1
    cases r with
    | int i => exact .cons (.int i) (RpL.isI h2 t)
section
variable {P : Program} {w : World} {K : PySem.W.Frag} {mg : Str → Option Value} {base : Heap}
abbrev s_Field_init : Stmt := inClass (top 17) 0
theorem sc_Field_init : FnScope ["self", "order"] ["self", "order"] (defScope s_Field_init) := ⟨rfl, rfl, rfl, by decide +kernel, rfl, by decide +kernel, by decide +kernel⟩
noncomputable def tFieldI (K : PySem.W.Frag) : TS := tSeq (sFld K (tVar 0) (tV K (eVar 1)) "order") (tSeq (sFld K (tVar 0) (tV K (eCall 1 (apart r_polynomial_by) (aCons (eVar 1) aNil))) "polynomial") (sFld K (tVar 0) (tOp (rI0 fun i j => .int (i - j)) (tCB (rLen K) (tCons (tFld K (tVar 0) "polynomial") tNil)) (tC (.int 1))) "degree"))
def spFieldI (K : PySem.W.Frag) : Sp := fun vs H Q E => vs.length = 2 ∧ tFieldI K { nx := fun _ H' => Q .non H', rt := Q } (start ["self", "order"] vs) H
theorem fn_Field_init {f : Addr} {fd : FuncData} (T : Bs K mg) (F : FunD K "__init__" "Field.__init__" (defArgs s_Field_init) (defBody s_Field_init) (defScope s_Field_init) [] [] f fd) (hp : Has P w K mg base 3 "polynomial_by" 1 r_polynomial_by) : FnOk P w K mg base CX0 4 f fd ["self", "order"] (spFieldI K) :=
  F.ok sc_Field_init (fun vs H Q E h => h.1) fun cdv A outer s H vs Q E hr h => ⟨tFieldI K, pss_cons (ps_fld (pe_var (x := "self") rfl (Or.inl rfl)) (q_v 1) (by rfl)) (pss_cons (ps_fld (pe_var (x := "self") rfl (Or.inl rfl)) (q_call hp.apart (hr.mono (by omega)) (a_cons (q_v 1) a_nil)) (by rfl))
    (pss_one (ps_fld (pe_var (x := "self") rfl (Or.inl rfl)) (pe_op op_sub (pe_callB call_len (by rfl) T.b_len boot_len (pa_cons (pe_fld (pe_var (x := "self") rfl (Or.inl rfl)) (by rfl)) pa_nil)) pe_int) (by rfl)))), h.2⟩
/-- all stays, but at x -/
theorem keep_upd {H H1 : Hp} {x : Addr} {o : HO} (hx : H x = none) (p : ∀ a u, H a = some u → H1 a = some u) : ∀ a u, H a = some u → upd H1 x o a = some u := fun a u e => by rw [upd_ne (ne_of_none e hx)]; exact p a u e
theorem relH_keep {K : PySem.W.Frag} {ρ : List Addr} {H H' : Hp} {c : Ch} (r : RelH K ρ H c) (k : ∀ a u, H a = some u → H' a = some u) (p : Post ρ H ρ H') : RelH K ρ H' c := ⟨r.len, r.nd, fun a ha => by
    obtain ⟨vs, e⟩ := r.mem a ha
    exact ⟨vs, k _ _ e⟩, fun n ws e => by
    obtain ⟨a, vs, e1, e2, e3⟩ := r.at_ n ws e
    exact ⟨a, vs, e1, k _ _ e2, e3.mono r p⟩⟩
theorem hasC_Field {f : Addr} {fd : FuncData} (T : Bs K mg) (F : FunD K "__init__" "Field.__init__" (defArgs s_Field_init) (defBody s_Field_init) (defScope s_Field_init) [] [] f fd) (hp : Has P w K mg base 3 "polynomial_by" 1 r_polynomial_by) (M : Mk K (He.ga K (clsN 0)) f) (hm : mg (clsN 0) = some (.ref (He.ga K (clsN 0)))) : HasC P w K mg base 4 0 1 (fieldF (apart r_polynomial_by)) := by
  refine ⟨CX0, f, fd, ["self", "order"], spFieldI K, fn_Field_init T F hp, M, hm, F.bindsN (fun _ _ _ _ _ _ us hl => match us, hl with | [_, _], _ => rfl), fun _ _ _ => pass0, ?_⟩
  intro ρ H c ws vs Q hr rx hl g x dx h1 h2 h3
  match ws, rx, hl, g with
  | [w0], .cons (v := v0) r0 .nil, _, g =>
    cases r0 with
    | int n =>
      have g : Got K (Rp K) (match apart r_polynomial_by [.int n] Ch.nil with
        | .ok (.tup ps) _ => (match ps.all isI with
          | true => R.ok (.obj 0 [.int n, .tup ps, .int ((lenK ps : Nat) - 1)]) c
          | false => .no)
        | _ => .no) ρ H Q := g
      cases e1 : apart r_polynomial_by [.int n] Ch.nil with
      | no => rw [e1] at g; exact g.elim
      | ok w1 c1 =>
        rw [e1] at g
        cases w1 with
        | tup ps =>
          have g : Got K (Rp K) (match ps.all isI with
            | true => R.ok (.obj 0 [.int n, .tup ps, .int ((lenK ps : Nat) - 1)]) c
            | false => .no) ρ H Q := g
          cases e2 : ps.all isI with
          | false => rw [e2] at g; exact g.elim
          | true =>
            rw [e2] at g
            refine ⟨rfl, ?_⟩
            have hx0 : ∀ o, (upd (upd H dx (.own x)) x o) x = some o := fun o => upd_same
            -- self.order = order
            refine ⟨[], [some .any, some (.int n)], Ch.nil, nil_relH, .cons .any (.cons (.int n) .nil), fun v H1 ρ1 p1 hr1 rv => ?_⟩
            refine ⟨.ref x, rfl, x, _, dx, [], rfl, p1.keep _ _ (hx0 _) List.not_mem_nil, T.f_Field_order.1, T.f_Field_order.2, by decide, ?_⟩
            have rv : Rp K ρ1 H1 (.int n) v := rv
            cases rv with
            | int _ =>
            generalize e3 : upd H1 x (HO.ins (He.ga K (clsN 0)) dx (putF "order" (.int n) [])) = H2
            have hx2 : H2 x = some (.ins (He.ga K (clsN 0)) dx [("order", .int n)]) := by rw [← e3, upd_same]; rfl
            refine ⟨[], [some .any, some (.int n)], Ch.nil, nil_relH, .cons .any (.cons (.int n) .nil), ?_⟩
            show Got K (Rp K) (apart r_polynomial_by [.int n] Ch.nil) [] H2 _
            rw [e1]
            intro v3 H3 ρ3 p3 hr3 rv3
            cases rv3 with
            | @tup _ vs3 a3 hs3 l3 =>
            have hx3 := p3.keep _ _ hx2 List.not_mem_nil
            refine ⟨.ref x, rfl, x, _, dx, _, rfl, hx3, T.f_Field_polynomial.1, T.f_Field_polynomial.2, by simp, ?_⟩
            generalize e4 : upd H3 x (HO.ins (He.ga K (clsN 0)) dx (putF "polynomial" (.ref a3) [("order", .int n)])) = H4
            have hx4 : H4 x = some (.ins (He.ga K (clsN 0)) dx [("order", .int n), ("polynomial", .ref a3)]) := by rw [← e4, upd_same]; rfl
            have hs4 : SqT K H4 a3 vs3 := by
              rcases hs3 with (h | ⟨o, h⟩) | h
              · exact .inl (.inl (by rw [← e4, upd_ne (fun z => by rw [z, hx3] at h; cases h)]; exact h))
              · exact .inl (.inr ⟨o, by rw [← e4, upd_ne (fun z => by rw [z, hx3] at h; cases h)]; exact h⟩)
              · exact .inr h
            refine ⟨.ref x, rfl, x, _, dx, _, .ref a3, rfl, hx4, T.f_Field_polynomial.1, T.f_Field_polynomial.2, rfl, ?_⟩
            refine ⟨.ref a3, _, rfl, .inr ⟨_, hs4, rfl⟩, ?_⟩
            refine ⟨_, _, rfl, rfl, ?_⟩
            refine ⟨.ref x, rfl, x, _, dx, _, rfl, hx4, T.f_Field_degree.1, T.f_Field_degree.2, by simp, rfl, ?_⟩
            generalize e5 : upd H4 x (HO.ins (He.ga K (clsN 0)) dx (putF "degree" (.int ((vs3.length : Nat) - 1)) [("order", .int n), ("polynomial", .ref a3)])) = H5
            have hx5 : H5 x = some (.ins (He.ga K (clsN 0)) dx [("order", .int n), ("polynomial", .ref a3), ("degree", .int ((vs3.length : Nat) - 1))]) := by rw [← e5, upd_same]; rfl
            have k0 : ∀ a u, H a = some u → upd (upd H dx (.own x)) x (HO.ins (He.ga K (clsN 0)) dx []) a = some u := fun a u e => by rw [upd_ne (ne_of_none e h1), upd_ne (ne_of_none e h2)]; exact e
            have k2 : ∀ a u, H a = some u → H2 a = some u := by rw [← e3]; exact keep_upd h1 fun a u e => p1.keep _ _ (k0 a u e) List.not_mem_nil
            have k4 : ∀ a u, H a = some u → H4 a = some u := by rw [← e4]; exact keep_upd h1 fun a u e => p3.keep _ _ (k2 a u e) List.not_mem_nil
            have k5 : ∀ a u, H a = some u → H5 a = some u := by rw [← e5]; exact keep_upd h1 k4
            have po : Post ρ H ρ H5 := ⟨⟨[], by simp, by simp⟩, fun a u e _ => k5 a u e, fun a e => by
              cases z : H a with
              | none => rfl
              | some u => rw [k5 a u z] at e; cases e⟩
            refine g (.ref x) H5 ρ po (relH_keep hr k5 po) (.obj hx5 rfl (.cons (.int n) (.cons (.tup ?_ (RpL.isI e2 l3)) (.cons ?_ .nil))))
            · rcases hs4 with (h | ⟨o, h⟩) | h
              · exact .inl (.inl (by rw [← e5, upd_ne (fun z => by rw [z, hx4] at h; cases h)]; exact h))
              · exact .inl (.inr ⟨o, by rw [← e5, upd_ne (fun z => by rw [z, hx4] at h; cases h)]; exact h⟩)
              · exact .inr h
            · rw [lenK_eq, l3.length]
              exact .int _
        | _ => exact g.elim
    | _ => exact g.elim
end
end Sm
namespace Sm
open PySem PySem.Spec PyProof.Rows L2


noncomputable def kA : EvS := (sSeq (sAsg (eTup (aCons (eTup (aCons (eC (.int 1)) (aCons (eTup (aCons (eTup (aCons (eC (.int 0)) (aCons (eC (.int 1)) aNil))) aNil)) aNil))) (aCons (eLc 1000 [7] (iR2 (aCons (eC (.int 1)) (aCons (eVar 4) aNil))) (gN 7) bYes (eBin fMod (eCB cInt (aCons (eBin fMul (eVar 7) (eVar 7)) aNil)) (eVar 4))) aNil))) (gT 2 (gsCons (gN 5) (gsCons (gN 6) gsNil)))) (sSeq (sFor 1000 (iR1 (aCons (eVar 4) aNil)) (gN 7) (sSet 5 (eCall 2 (apart r_added) (aCons (eVar 5) (aCons (eCall 2 (apart r_root) (aCons (eVar 4) (aCons (eBin fMul (eVar 7) (eVar 7)) aNil))) aNil))))) (sSeq (sSet 8 (eIf (toB (eBin fEq (eBin fMod (eCB cInt (aCons (eVar 4) aNil)) (eC (.int 4))) (eC (.int 1)))) (eC (.int 1)) (eBin fSub (eC (.int 0)) (eC (.int 1))))) (sSeq (sIf (bNot (bTru (eCall 2 (apart (r__law_same 6)) (aCons (eTup (aCons (eCall 2 (apart r_times) (aCons (eVar 5) (aCons (eVar 5) aNil))) (aCons (eCall 1 (apart r_is_real) (aCons (eVar 5) aNil)) (aCons (eCall 1 (apart r_turned_back) (aCons (eVar 5) aNil)) (aCons (eBin fIx (eVar 5) (eC (.int 0))) aNil))))) (aCons (eTup (aCons (eTup (aCons (eC (.int 1)) (aCons (eTup (aCons (eTup (aCons (eBin fMul (eVar 8) (eVar 4)) (aCons (eC (.int 1)) aNil))) aNil)) aNil))) (aCons (eBin fEq (eVar 8) (eC (.int 1))) (aCons (eCall 2 (apart r_scaled) (aCons (eVar 5) (aCons (eTup (aCons (eVar 8) (aCons (eC (.int 1)) aNil))) aNil))) (aCons (eVar 4) aNil))))) aNil))))) (sRet (eC (.bl false))) sNext) (sSeq (sIf (bNot (bTru (eCall 2 (apart (r__law_same 6)) (aCons (eTup (aCons (eCB cLen (aCons (eCall 1 (apart r_kin) (aCons (eVar 5) aNil)) aNil)) (aCons (eCall 1 (apart r_trace) (aCons (eVar 5) aNil)) (aCons (eBin fIn (eCall 2 (apart r_scaled) (aCons (eVar 5) (aCons (eTup (aCons (eBin fSub (eC (.int 0)) (eC (.int 1))) (aCons (eC (.int 1)) aNil))) aNil))) (eCall 1 (apart r_kin) (aCons (eVar 5) aNil))) (aCons (eCall 1 (apart r_is_number) (aCons (eVar 5) aNil)) aNil))))) (aCons (eTup (aCons (eC (.int 2)) (aCons (eTup (aCons (eC (.int 0)) (aCons (eC (.int 1)) aNil))) (aCons (eC (.bl true)) (aCons (eC (.bl true)) aNil))))) aNil))))) (sRet (eC (.bl false))) sNext) (sSeq (sSet 9 (eTup (aCons (eC (.int 1)) (aCons (eTup (aCons (eTup (aCons (eC (.int 0)) (aCons (eC (.int 1)) aNil))) aNil)) aNil)))) (sSeq (sFor 1000 (iR2 (aCons (eC (.int 1)) (aCons (eVar 4) aNil))) (gN 7) (sSet 9 (eIf (toB (eBin fIn (eVar 7) (eVar 6))) (eCall 2 (apart r_added) (aCons (eVar 9) (aCons (eCall 2 (apart r_root) (aCons (eVar 4) (aCons (eVar 7) aNil))) aNil))) (eCall 2 (apart r_less) (aCons (eVar 9) (aCons (eCall 2 (apart r_root) (aCons (eVar 4) (aCons (eVar 7) aNil))) aNil)))))) (sIf (bNot (bTru (eCall 2 (apart (r__law_same 6)) (aCons (eTup (aCons (eVar 9) (aCons (eVar 5) aNil))) (aCons (eTup (aCons (eVar 5) (aCons (eTup (aCons (eVar 4) (aCons (eCB cTuple (aCons (eLc 1000 [7] (iR1 (aCons (eBin fSub (eVar 4) (eC (.int 1))) aNil)) (gN 7) bYes (eTup (aCons (eBin fAdd (eBin fSub (eIf (toB (eBin fIn (eVar 7) (eVar 6))) (eC (.int 2)) (eC (.int 0))) (eIf (toB (eBin fIn (eBin fSub (eVar 4) (eC (.int 1))) (eVar 6))) (eC (.int 2)) (eC (.int 0)))) (eIf (toB (eBin fEq (eVar 7) (eC (.int 0)))) (eC (.int 1)) (eC (.int 0)))) (aCons (eC (.int 1)) aNil)))) aNil)) aNil))) aNil))) aNil))))) (sRet (eC (.bl false))) sNext))))))))
noncomputable def kB : EvS := (sSeq (sSet 11 (eTup (aCons (eC (.int 1)) (aCons (eTup (aCons (eTup (aCons (eC (.int 0)) (aCons (eC (.int 1)) aNil))) aNil)) aNil)))) (sSeq (sFor 1000 (iR1 (aCons (eVar 10) aNil)) (gN 7) (sSet 11 (eCall 2 (apart r_added) (aCons (eVar 11) (aCons (eCall 2 (apart r_root) (aCons (eVar 10) (aCons (eBin fMul (eVar 7) (eVar 7)) aNil))) aNil))))) (sSeq (sSet 12 (eCall 2 (apart r_times) (aCons (eVar 5) (aCons (eVar 11) aNil)))) (sSeq (sSet 13 (eBin fMul (eVar 8) (eIf (toB (eBin fEq (eBin fMod (eCB cInt (aCons (eVar 10) aNil)) (eC (.int 4))) (eC (.int 1)))) (eC (.int 1)) (eBin fSub (eC (.int 0)) (eC (.int 1)))))) (sSeq (sIf (bNot (bTru (eCall 2 (apart (r__law_same 6)) (aCons (eTup (aCons (eCall 2 (apart r_times) (aCons (eVar 12) (aCons (eVar 12) aNil))) (aCons (eIf (toB (eBin fEq (eVar 10) (eVar 4))) (eVar 12) (eBin fIx (eVar 12) (eC (.int 0)))) aNil))) (aCons (eTup (aCons (eTup (aCons (eC (.int 1)) (aCons (eTup (aCons (eTup (aCons (eBin fMul (eBin fMul (eVar 13) (eVar 4)) (eVar 10)) (aCons (eC (.int 1)) aNil))) aNil)) aNil))) (aCons (eIf (toB (eBin fEq (eVar 10) (eVar 4))) (eTup (aCons (eC (.int 1)) (aCons (eTup (aCons (eTup (aCons (eBin fMul (eVar 8) (eVar 4)) (aCons (eC (.int 1)) aNil))) aNil)) aNil))) (eBin fMul (eVar 4) (eVar 10))) aNil))) aNil))))) (sRet (eC (.bl false))) sNext) (sSeq (sSet 14 (eCall 2 (apart r_scaled) (aCons (eCall 2 (apart r_added) (aCons (eVar 5) (aCons (eTup (aCons (eC (.int 1)) (aCons (eTup (aCons (eTup (aCons (eC (.int 1)) (aCons (eC (.int 1)) aNil))) aNil)) aNil))) aNil))) (aCons (eTup (aCons (eC (.int 1)) (aCons (eC (.int 2)) aNil))) aNil)))) (sSeq (sSet 15 (eCall 2 (apart r__law_scaled) (aCons (eCall 3 (apart r__law_added) (aCons (eTup (aCons (eC (.int 1)) (aCons (eTup (aCons (eTup (aCons (eBin fSub (eBin fMul (eVar 8) (eVar 4)) (eC (.int 1))) (aCons (eC (.int 1)) aNil))) aNil)) aNil))) (aCons (eTup (aCons (eC (.int 1)) (aCons (eTup (aCons (eTup (aCons (eC (.int 0)) (aCons (eC (.int 1)) aNil))) aNil)) aNil))) (aCons (eC (.int 1)) aNil)))) (aCons (eTup (aCons (eC (.int 1)) (aCons (eC (.int 4)) aNil))) aNil)))) (sIf (bNot (bTru (eCall 2 (apart (r__law_same 6)) (aCons (eCall 2 (apart r_less) (aCons (eCall 2 (apart r_times) (aCons (eVar 14) (aCons (eVar 14) aNil))) (aCons (eVar 14) aNil))) (aCons (eVar 15) aNil))))) (sRet (eC (.bl false))) sNext))))))))
noncomputable def kE : EvS := (sSeq (sSet 2 (eCall 2 (apart r_added) (aCons (eCall 2 (apart r_root) (aCons (eC (.int 8)) (aCons (eC (.int 1)) aNil))) (aCons (eCall 2 (apart r_root) (aCons (eC (.int 8)) (aCons (eC (.int 7)) aNil))) aNil)))) (sSeq (sSet 3 (eCall 2 (apart r_less) (aCons (eCall 2 (apart r_root) (aCons (eC (.int 12)) (aCons (eC (.int 1)) aNil))) (aCons (eCall 2 (apart r_root) (aCons (eC (.int 12)) (aCons (eC (.int 7)) aNil))) aNil)))) (sRet (eCall 2 (apart (r__law_same 6)) (aCons (eTup (aCons (eCall 2 (apart r_times) (aCons (eVar 2) (aCons (eVar 2) aNil))) (aCons (eCall 1 (apart r_trace) (aCons (eVar 2) aNil)) (aCons (eBin fIx (eCall 2 (apart r_added) (aCons (eCall 2 (apart r_root) (aCons (eC (.int 12)) (aCons (eC (.int 1)) aNil))) (aCons (eCall 2 (apart r_root) (aCons (eC (.int 12)) (aCons (eC (.int 11)) aNil))) aNil))) (eC (.int 0))) (aCons (eCall 2 (apart r_times) (aCons (eVar 3) (aCons (eVar 3) aNil))) aNil))))) (aCons (eTup (aCons (eTup (aCons (eC (.int 1)) (aCons (eTup (aCons (eTup (aCons (eC (.int 2)) (aCons (eC (.int 1)) aNil))) aNil)) aNil))) (aCons (eTup (aCons (eC (.int 0)) (aCons (eC (.int 1)) aNil))) (aCons (eC (.int 12)) (aCons (eCall 2 (apart r__law_scaled) (aCons (eCall 2 (apart r__law_root) (aCons (eC (.int 6)) (aCons (eC (.int 1)) aNil))) (aCons (eTup (aCons (eC (.int 4)) (aCons (eC (.int 1)) aNil))) aNil))) aNil))))) aNil))))))
noncomputable def kf (o : Option W) : Option W := match o with
  | some w => match flatA 9 w with
    | true => some w
    | false => none
  | none => none
noncomputable def get2 (l : Sl) (i : Nat) : Option W := match getK l i with
  | some o => kf o
  | none => none
noncomputable def outA (r : RS) : Option (Option (Option W) × Nat × Option (List W) × Option W × Option W × Option W) := match r with
  | .nx ω c => some (ω[0]?, lenI ω, c.get 0, get2 ω 4, get2 ω 5, get2 ω 8)
  | _ => none
noncomputable def outS (r : RS) : Option (Option (Option W) × Nat × Option (List W)) := match r with
  | .nx ω c => some (ω[0]?, lenI ω, c.get 0)
  | _ => none
noncomputable def outR (r : RS) : Option (W × Option (List W)) := match r with
  | .rt w c => some (w, c.get 0)
  | _ => none
noncomputable abbrev tot3 : W := (.tup [(.int (3)), (.tup [(.tup [(.int (1)), (.int (1))]), (.tup [(.int (2)), (.int (1))])])])
noncomputable abbrev tot5 : W := (.tup [(.int (5)), (.tup [(.tup [(.int (-1)), (.int (1))]), (.tup [(.int (0)), (.int (1))]), (.tup [(.int (-2)), (.int (1))]), (.tup [(.int (-2)), (.int (1))])])])
noncomputable abbrev tot7 : W := (.tup [(.int (7)), (.tup [(.tup [(.int (1)), (.int (1))]), (.tup [(.int (2)), (.int (1))]), (.tup [(.int (2)), (.int (1))]), (.tup [(.int (0)), (.int (1))]), (.tup [(.int (2)), (.int (1))]), (.tup [(.int (0)), (.int (1))])])])
noncomputable abbrev tot11 : W := (.tup [(.int (11)), (.tup [(.tup [(.int (1)), (.int (1))]), (.tup [(.int (2)), (.int (1))]), (.tup [(.int (0)), (.int (1))]), (.tup [(.int (2)), (.int (1))]), (.tup [(.int (2)), (.int (1))]), (.tup [(.int (2)), (.int (1))]), (.tup [(.int (0)), (.int (1))]), (.tup [(.int (0)), (.int (1))]), (.tup [(.int (0)), (.int (1))]), (.tup [(.int (2)), (.int (1))])])])
noncomputable abbrev tot13 : W := (.tup [(.int (13)), (.tup [(.tup [(.int (-1)), (.int (1))]), (.tup [(.int (0)), (.int (1))]), (.tup [(.int (-2)), (.int (1))]), (.tup [(.int (0)), (.int (1))]), (.tup [(.int (0)), (.int (1))]), (.tup [(.int (-2)), (.int (1))]), (.tup [(.int (-2)), (.int (1))]), (.tup [(.int (-2)), (.int (1))]), (.tup [(.int (-2)), (.int (1))]), (.tup [(.int (0)), (.int (1))]), (.tup [(.int (0)), (.int (1))]), (.tup [(.int (-2)), (.int (1))])])])
theorem tA_3 (o1 o2 o3 o5 o6 o7 o8 o9 o10 o11 o12 o13 o14 o15 : Option W) (far stir : Int) : outA (kA [some (.ref 0), o1, o2, o3, some (.int 3), o5, o6, o7, o8, o9, o10, o11, o12, o13, o14, o15] (c0 far stir)) = some (some (some (.ref 0)), 16, some [.int far, .int stir], some (.int 3), some tot3, some (.int (-1))) := by kernel_rfl
theorem tA_5 (o1 o2 o3 o5 o6 o7 o8 o9 o10 o11 o12 o13 o14 o15 : Option W) (far stir : Int) : outA (kA [some (.ref 0), o1, o2, o3, some (.int 5), o5, o6, o7, o8, o9, o10, o11, o12, o13, o14, o15] (c0 far stir)) = some (some (some (.ref 0)), 16, some [.int far, .int stir], some (.int 5), some tot5, some (.int (1))) := by kernel_rfl
theorem tA_7 (o1 o2 o3 o5 o6 o7 o8 o9 o10 o11 o12 o13 o14 o15 : Option W) (far stir : Int) : outA (kA [some (.ref 0), o1, o2, o3, some (.int 7), o5, o6, o7, o8, o9, o10, o11, o12, o13, o14, o15] (c0 far stir)) = some (some (some (.ref 0)), 16, some [.int far, .int stir], some (.int 7), some tot7, some (.int (-1))) := by kernel_rfl
theorem tA_11 (o1 o2 o3 o5 o6 o7 o8 o9 o10 o11 o12 o13 o14 o15 : Option W) (far stir : Int) : outA (kA [some (.ref 0), o1, o2, o3, some (.int 11), o5, o6, o7, o8, o9, o10, o11, o12, o13, o14, o15] (c0 far stir)) = some (some (some (.ref 0)), 16, some [.int far, .int stir], some (.int 11), some tot11, some (.int (-1))) := by kernel_rfl
theorem tA_13 (o1 o2 o3 o5 o6 o7 o8 o9 o10 o11 o12 o13 o14 o15 : Option W) (far stir : Int) : outA (kA [some (.ref 0), o1, o2, o3, some (.int 13), o5, o6, o7, o8, o9, o10, o11, o12, o13, o14, o15] (c0 far stir)) = some (some (some (.ref 0)), 16, some [.int far, .int stir], some (.int 13), some tot13, some (.int (1))) := by kernel_rfl
theorem tB_3_3 (o1 o2 o3 o6 o7 o9 o11 o12 o13 o14 o15 : Option W) (far stir : Int) : outS (kB [some (.ref 0), o1, o2, o3, some (.int 3), some tot3, o6, o7, some (.int (-1)), o9, some (.int 3), o11, o12, o13, o14, o15] (c0 far stir)) = some (some (some (.ref 0)), 16, some [.int far, .int stir]) := by kernel_rfl
theorem tB_3_5 (o1 o2 o3 o6 o7 o9 o11 o12 o13 o14 o15 : Option W) (far stir : Int) : outS (kB [some (.ref 0), o1, o2, o3, some (.int 3), some tot3, o6, o7, some (.int (-1)), o9, some (.int 5), o11, o12, o13, o14, o15] (c0 far stir)) = some (some (some (.ref 0)), 16, some [.int far, .int stir]) := by kernel_rfl
theorem tB_3_7 (o1 o2 o3 o6 o7 o9 o11 o12 o13 o14 o15 : Option W) (far stir : Int) : outS (kB [some (.ref 0), o1, o2, o3, some (.int 3), some tot3, o6, o7, some (.int (-1)), o9, some (.int 7), o11, o12, o13, o14, o15] (c0 far stir)) = some (some (some (.ref 0)), 16, some [.int far, .int stir]) := by kernel_rfl
theorem tB_5_3 (o1 o2 o3 o6 o7 o9 o11 o12 o13 o14 o15 : Option W) (far stir : Int) : outS (kB [some (.ref 0), o1, o2, o3, some (.int 5), some tot5, o6, o7, some (.int (1)), o9, some (.int 3), o11, o12, o13, o14, o15] (c0 far stir)) = some (some (some (.ref 0)), 16, some [.int far, .int stir]) := by kernel_rfl
theorem tB_5_5 (o1 o2 o3 o6 o7 o9 o11 o12 o13 o14 o15 : Option W) (far stir : Int) : outS (kB [some (.ref 0), o1, o2, o3, some (.int 5), some tot5, o6, o7, some (.int (1)), o9, some (.int 5), o11, o12, o13, o14, o15] (c0 far stir)) = some (some (some (.ref 0)), 16, some [.int far, .int stir]) := by kernel_rfl
theorem tB_5_7 (o1 o2 o3 o6 o7 o9 o11 o12 o13 o14 o15 : Option W) (far stir : Int) : outS (kB [some (.ref 0), o1, o2, o3, some (.int 5), some tot5, o6, o7, some (.int (1)), o9, some (.int 7), o11, o12, o13, o14, o15] (c0 far stir)) = some (some (some (.ref 0)), 16, some [.int far, .int stir]) := by kernel_rfl
theorem tB_7_3 (o1 o2 o3 o6 o7 o9 o11 o12 o13 o14 o15 : Option W) (far stir : Int) : outS (kB [some (.ref 0), o1, o2, o3, some (.int 7), some tot7, o6, o7, some (.int (-1)), o9, some (.int 3), o11, o12, o13, o14, o15] (c0 far stir)) = some (some (some (.ref 0)), 16, some [.int far, .int stir]) := by kernel_rfl
theorem tB_7_5 (o1 o2 o3 o6 o7 o9 o11 o12 o13 o14 o15 : Option W) (far stir : Int) : outS (kB [some (.ref 0), o1, o2, o3, some (.int 7), some tot7, o6, o7, some (.int (-1)), o9, some (.int 5), o11, o12, o13, o14, o15] (c0 far stir)) = some (some (some (.ref 0)), 16, some [.int far, .int stir]) := by kernel_rfl
theorem tB_7_7 (o1 o2 o3 o6 o7 o9 o11 o12 o13 o14 o15 : Option W) (far stir : Int) : outS (kB [some (.ref 0), o1, o2, o3, some (.int 7), some tot7, o6, o7, some (.int (-1)), o9, some (.int 7), o11, o12, o13, o14, o15] (c0 far stir)) = some (some (some (.ref 0)), 16, some [.int far, .int stir]) := by kernel_rfl
theorem tB_11_3 (o1 o2 o3 o6 o7 o9 o11 o12 o13 o14 o15 : Option W) (far stir : Int) : outS (kB [some (.ref 0), o1, o2, o3, some (.int 11), some tot11, o6, o7, some (.int (-1)), o9, some (.int 3), o11, o12, o13, o14, o15] (c0 far stir)) = some (some (some (.ref 0)), 16, some [.int far, .int stir]) := by kernel_rfl
theorem tB_11_5 (o1 o2 o3 o6 o7 o9 o11 o12 o13 o14 o15 : Option W) (far stir : Int) : outS (kB [some (.ref 0), o1, o2, o3, some (.int 11), some tot11, o6, o7, some (.int (-1)), o9, some (.int 5), o11, o12, o13, o14, o15] (c0 far stir)) = some (some (some (.ref 0)), 16, some [.int far, .int stir]) := by kernel_rfl
theorem tB_11_7 (o1 o2 o3 o6 o7 o9 o11 o12 o13 o14 o15 : Option W) (far stir : Int) : outS (kB [some (.ref 0), o1, o2, o3, some (.int 11), some tot11, o6, o7, some (.int (-1)), o9, some (.int 7), o11, o12, o13, o14, o15] (c0 far stir)) = some (some (some (.ref 0)), 16, some [.int far, .int stir]) := by kernel_rfl
theorem tB_13_3 (o1 o2 o3 o6 o7 o9 o11 o12 o13 o14 o15 : Option W) (far stir : Int) : outS (kB [some (.ref 0), o1, o2, o3, some (.int 13), some tot13, o6, o7, some (.int (1)), o9, some (.int 3), o11, o12, o13, o14, o15] (c0 far stir)) = some (some (some (.ref 0)), 16, some [.int far, .int stir]) := by kernel_rfl
theorem tB_13_5 (o1 o2 o3 o6 o7 o9 o11 o12 o13 o14 o15 : Option W) (far stir : Int) : outS (kB [some (.ref 0), o1, o2, o3, some (.int 13), some tot13, o6, o7, some (.int (1)), o9, some (.int 5), o11, o12, o13, o14, o15] (c0 far stir)) = some (some (some (.ref 0)), 16, some [.int far, .int stir]) := by kernel_rfl
theorem tB_13_7 (o1 o2 o3 o6 o7 o9 o11 o12 o13 o14 o15 : Option W) (far stir : Int) : outS (kB [some (.ref 0), o1, o2, o3, some (.int 13), some tot13, o6, o7, some (.int (1)), o9, some (.int 7), o11, o12, o13, o14, o15] (c0 far stir)) = some (some (some (.ref 0)), 16, some [.int far, .int stir]) := by kernel_rfl
theorem tE (o1 o2 o3 o4 o5 o6 o7 o8 o9 o10 o11 o12 o13 o14 o15 : Option W) (far stir : Int) : outR (kE [some (.ref 0), o1, o2, o3, o4, o5, o6, o7, o8, o9, o10, o11, o12, o13, o14, o15] (c0 far stir)) = some (.bl true, some [.int far, .int stir]) := by kernel_rfl
end Sm
namespace Sm
open PySem PySem.Spec PyProof.Rows L2

/-! Q2: _law_right is right -/
def Fin (r : RS) : Prop := ∃ (ω' : Sl) (c' : Ch) (far' stir' : Int), r = .nx ω' c' ∧ ω'.length = 16 ∧ ω'[0]? = some (some (.ref 0)) ∧ c'.get 0 = some [.int far', .int stir'] ∧ 0 ≤ far' ∧ 0 ≤ stir'
theorem split16 {ω : Sl} (hl : ω.length = 16) (h0 : ω[0]? = some (some (.ref 0))) : ∃ o1 o2 o3 o4 o5 o6 o7 o8 o9 o10 o11 o12 o13 o14 o15, ω = [some (.ref 0), o1, o2, o3, o4, o5, o6, o7, o8, o9, o10, o11, o12, o13, o14, o15] := by
  match ω, hl, h0 with
  | [a, o1, o2, o3, o4, o5, o6, o7, o8, o9, o10, o11, o12, o13, o14, o15], _, h0 =>
    have h0 : a = some (.ref 0) := by simpa using h0
    exact ⟨o1, o2, o3, o4, o5, o6, o7, o8, o9, o10, o11, o12, o13, o14, o15, by rw [h0]⟩
theorem sub_run {b : EvS} {ω : Sl} {c : Ch} {far stir : Int} (h0 : ω[0]? = some (some (.ref 0))) (hc : c.get 0 = some [.int far, .int stir]) (h : Fin (b ((keepF ω).set 0 (some (.ref 0))) (c0 far stir))) : Fin (sSub 0 b ω c) := by
  obtain ⟨ω', c', far', stir', e, l', z', g', m1, m2⟩ := h
  have hs : sSub 0 b ω c = subEnd 0 c (b ((keepF ω).set 0 (some (.ref 0))) (Ch.nil.push [.int far, .int stir])) := by
    unfold sSub
    rw [h0]
    dsimp only
    rw [hc]
    rfl
  have he : subEnd 0 c (.nx ω' c') = .nx (backF 0 ω') (c.set 0 [.int far', .int stir']) := by
    unfold subEnd
    dsimp only
    rw [g']
    rfl
  refine ⟨backF 0 ω', c.set 0 [.int far', .int stir'], far', stir', by rw [hs, e, he], by unfold backF; rw [List.length_map, l'], ?_, by rw [Ch.get_set, if_pos rfl], m1, m2⟩
  unfold backF
  rw [List.getElem?_map, z']
  rfl
theorem keep_len {ω : Sl} (h : ω.length = 16) : ((keepF ω).set 0 (some (.ref 0))).length = 16 := by rw [List.length_set]; unfold keepF; rw [List.length_map, h]
theorem keep_0 {ω : Sl} (h : ω.length = 16) : ((keepF ω).set 0 (some (.ref 0)))[0]? = some (some (.ref 0)) := List.getElem?_set_self (by unfold keepF; rw [List.length_map, h]; decide)
theorem keep_at {ω : Sl} {i : Nat} {w : W} (hi : i ≠ 0) (h : get2 ω i = some w) : ((keepF ω).set 0 (some (.ref 0)))[i]? = some (some w) := by
  rw [List.getElem?_set_ne (Ne.symm hi)]
  unfold keepF
  unfold get2 at h
  rw [getK_eq] at h
  rw [List.getElem?_map]
  cases e : ω[i]? with
  | none => rw [e] at h; cases h
  | some o =>
    rw [e] at h
    have h : kf o = some w := h
    rw [← h]
    rfl
/-- a row of statements, and what comes behind it -/
def Pre (k t w : EvS) : Prop := ∀ ω c ω' c', k ω c = .nx ω' c' → w ω c = t ω' c'
theorem pre_one {s t : EvS} : Pre s t (sSeq s t) := fun ω c ω' c' h => by
  unfold sSeq
  rw [h]
theorem pre_cons {s k t w : EvS} (h : Pre k t w) : Pre (sSeq s k) t (sSeq s w) := fun ω c ω' c' e => by
  unfold sSeq at e ⊢
  cases e1 : s ω c with
  | nx ω1 c1 =>
    rw [e1] at e
    exact h ω1 c1 ω' c' e
  | _ => rw [e1] at e; cases e
theorem outS_nx {r : RS} {far stir : Int} (h : outS r = some (some (some (.ref 0)), 16, some [.int far, .int stir])) : ∃ ω' c', r = .nx ω' c' ∧ ω'[0]? = some (some (.ref 0)) ∧ ω'.length = 16 ∧ c'.get 0 = some [.int far, .int stir] := by
  cases r with
  | nx ω' c' =>
    have h : some (ω'[0]?, lenI ω', c'.get 0) = some (some (some (W.ref 0)), 16, some [W.int far, W.int stir]) := h
    have h := Option.some.inj h
    obtain ⟨h1, h⟩ := Prod.mk.inj h
    obtain ⟨h2, h3⟩ := Prod.mk.inj h
    exact ⟨ω', c', rfl, h1, by rw [← lenI_eq]; exact h2, h3⟩
  | _ => cases h
theorem outA_nx {r : RS} {far stir : Int} {a b d : W} (h : outA r = some (some (some (.ref 0)), 16, some [.int far, .int stir], some a, some b, some d)) : ∃ ω' c', r = .nx ω' c' ∧ ω'[0]? = some (some (.ref 0)) ∧ ω'.length = 16 ∧ c'.get 0 = some [.int far, .int stir] ∧ get2 ω' 4 = some a ∧ get2 ω' 5 = some b ∧ get2 ω' 8 = some d := by
  cases r with
  | nx ω' c' =>
    have h : some (ω'[0]?, lenI ω', c'.get 0, get2 ω' 4, get2 ω' 5, get2 ω' 8) = some (some (some (W.ref 0)), 16, some [W.int far, W.int stir], some a, some b, some d) := h
    have h := Option.some.inj h
    obtain ⟨h1, h⟩ := Prod.mk.inj h
    obtain ⟨h2, h⟩ := Prod.mk.inj h
    obtain ⟨h3, h⟩ := Prod.mk.inj h
    obtain ⟨h4, h⟩ := Prod.mk.inj h
    obtain ⟨h5, h6⟩ := Prod.mk.inj h
    exact ⟨ω', c', rfl, h1, by rw [← lenI_eq]; exact h2, h3, h4, h5, h6⟩
  | _ => cases h
theorem preA : Pre kA (sSub 0 p__law_right_1) (sSeq (sAsg (eTup (aCons (eTup (aCons (eC (.int 1)) (aCons (eTup (aCons (eTup (aCons (eC (.int 0)) (aCons (eC (.int 1)) aNil))) aNil)) aNil))) (aCons (eLc 1000 [7] (iR2 (aCons (eC (.int 1)) (aCons (eVar 4) aNil))) (gN 7) bYes (eBin fMod (eCB cInt (aCons (eBin fMul (eVar 7) (eVar 7)) aNil)) (eVar 4))) aNil))) (gT 2 (gsCons (gN 5) (gsCons (gN 6) gsNil)))) (sSeq (sFor 1000 (iR1 (aCons (eVar 4) aNil)) (gN 7) (sSet 5 (eCall 2 (apart r_added) (aCons (eVar 5) (aCons (eCall 2 (apart r_root) (aCons (eVar 4) (aCons (eBin fMul (eVar 7) (eVar 7)) aNil))) aNil))))) (sSeq (sSet 8 (eIf (toB (eBin fEq (eBin fMod (eCB cInt (aCons (eVar 4) aNil)) (eC (.int 4))) (eC (.int 1)))) (eC (.int 1)) (eBin fSub (eC (.int 0)) (eC (.int 1))))) (sSeq (sIf (bNot (bTru (eCall 2 (apart (r__law_same 6)) (aCons (eTup (aCons (eCall 2 (apart r_times) (aCons (eVar 5) (aCons (eVar 5) aNil))) (aCons (eCall 1 (apart r_is_real) (aCons (eVar 5) aNil)) (aCons (eCall 1 (apart r_turned_back) (aCons (eVar 5) aNil)) (aCons (eBin fIx (eVar 5) (eC (.int 0))) aNil))))) (aCons (eTup (aCons (eTup (aCons (eC (.int 1)) (aCons (eTup (aCons (eTup (aCons (eBin fMul (eVar 8) (eVar 4)) (aCons (eC (.int 1)) aNil))) aNil)) aNil))) (aCons (eBin fEq (eVar 8) (eC (.int 1))) (aCons (eCall 2 (apart r_scaled) (aCons (eVar 5) (aCons (eTup (aCons (eVar 8) (aCons (eC (.int 1)) aNil))) aNil))) (aCons (eVar 4) aNil))))) aNil))))) (sRet (eC (.bl false))) sNext) (sSeq (sIf (bNot (bTru (eCall 2 (apart (r__law_same 6)) (aCons (eTup (aCons (eCB cLen (aCons (eCall 1 (apart r_kin) (aCons (eVar 5) aNil)) aNil)) (aCons (eCall 1 (apart r_trace) (aCons (eVar 5) aNil)) (aCons (eBin fIn (eCall 2 (apart r_scaled) (aCons (eVar 5) (aCons (eTup (aCons (eBin fSub (eC (.int 0)) (eC (.int 1))) (aCons (eC (.int 1)) aNil))) aNil))) (eCall 1 (apart r_kin) (aCons (eVar 5) aNil))) (aCons (eCall 1 (apart r_is_number) (aCons (eVar 5) aNil)) aNil))))) (aCons (eTup (aCons (eC (.int 2)) (aCons (eTup (aCons (eC (.int 0)) (aCons (eC (.int 1)) aNil))) (aCons (eC (.bl true)) (aCons (eC (.bl true)) aNil))))) aNil))))) (sRet (eC (.bl false))) sNext) (sSeq (sSet 9 (eTup (aCons (eC (.int 1)) (aCons (eTup (aCons (eTup (aCons (eC (.int 0)) (aCons (eC (.int 1)) aNil))) aNil)) aNil)))) (sSeq (sFor 1000 (iR2 (aCons (eC (.int 1)) (aCons (eVar 4) aNil))) (gN 7) (sSet 9 (eIf (toB (eBin fIn (eVar 7) (eVar 6))) (eCall 2 (apart r_added) (aCons (eVar 9) (aCons (eCall 2 (apart r_root) (aCons (eVar 4) (aCons (eVar 7) aNil))) aNil))) (eCall 2 (apart r_less) (aCons (eVar 9) (aCons (eCall 2 (apart r_root) (aCons (eVar 4) (aCons (eVar 7) aNil))) aNil)))))) (sSeq (sIf (bNot (bTru (eCall 2 (apart (r__law_same 6)) (aCons (eTup (aCons (eVar 9) (aCons (eVar 5) aNil))) (aCons (eTup (aCons (eVar 5) (aCons (eTup (aCons (eVar 4) (aCons (eCB cTuple (aCons (eLc 1000 [7] (iR1 (aCons (eBin fSub (eVar 4) (eC (.int 1))) aNil)) (gN 7) bYes (eTup (aCons (eBin fAdd (eBin fSub (eIf (toB (eBin fIn (eVar 7) (eVar 6))) (eC (.int 2)) (eC (.int 0))) (eIf (toB (eBin fIn (eBin fSub (eVar 4) (eC (.int 1))) (eVar 6))) (eC (.int 2)) (eC (.int 0)))) (eIf (toB (eBin fEq (eVar 7) (eC (.int 0)))) (eC (.int 1)) (eC (.int 0)))) (aCons (eC (.int 1)) aNil)))) aNil)) aNil))) aNil))) aNil))))) (sRet (eC (.bl false))) sNext) (sSub 0 p__law_right_1))))))))) := (pre_cons (pre_cons (pre_cons (pre_cons (pre_cons (pre_cons (pre_cons pre_one)))))))
theorem pkB (ω : Sl) (far stir : Int) (p : W) (t s : W) (hl : ω.length = 16) (h0 : ω[0]? = some (some (.ref 0))) (h4 : ω[4]? = some (some p)) (h5 : ω[5]? = some (some t)) (h8 : ω[8]? = some (some s)) (n1 : 0 ≤ far) (n2 : 0 ≤ stir)
    (hk : ∀ (q : W), q ∈ ([.int 3, .int 5, .int 7] : List W) → ∀ (o1 o2 o3 o6 o7 o9 o11 o12 o13 o14 o15 : Option W) (far stir : Int), outS (kB [some (.ref 0), o1, o2, o3, some p, some t, o6, o7, some s, o9, some q, o11, o12, o13, o14, o15] (c0 far stir)) = some (some (some (.ref 0)), 16, some [.int far, .int stir])) : Fin (p__law_right_1 ω (c0 far stir)) := by
  obtain ⟨o1, o2, o3, o4, o5, o6, o7, o8, o9, o10, o11, o12, o13, o14, o15, rfl⟩ := split16 hl h0
  have g4 : o4 = some p := Option.some.inj h4
  have g5 : o5 = some t := Option.some.inj h5
  have g8 : o8 = some s := Option.some.inj h8
  subst g4 g5 g8
  obtain ⟨d, w, far', stir', hw, m1, m2, e4⟩ := of_ok far stir [.int 3, .int 5, .int 7] n1 n2 rfl rfl
  obtain ⟨ω', c', e, e0, el, eg⟩ := outS_nx (hk w (List.mem_of_getElem? hw) o1 o2 o3 o6 o7 o9 o11 o12 o13 o14 o15 far' stir')
  exact ⟨ω', c', far', stir', r_seq (r_set (r_call (r_cons rfl (r_one rfl)) rfl e4)) e, el, e0, eg, m1, m2⟩
noncomputable abbrev kA2 : EvS := (sSeq (sAsg (eTup (aCons (eTup (aCons (eC (.int 1)) (aCons (eTup (aCons (eTup (aCons (eC (.int 0)) (aCons (eC (.int 1)) aNil))) aNil)) aNil))) (aCons (eLc 1000 [7] (iR2 (aCons (eC (.int 1)) (aCons (eVar 4) aNil))) (gN 7) bYes (eBin fMod (eCB cInt (aCons (eBin fMul (eVar 7) (eVar 7)) aNil)) (eVar 4))) aNil))) (gT 2 (gsCons (gN 5) (gsCons (gN 6) gsNil)))) (sSeq (sFor 1000 (iR1 (aCons (eVar 4) aNil)) (gN 7) (sSet 5 (eCall 2 (apart r_added) (aCons (eVar 5) (aCons (eCall 2 (apart r_root) (aCons (eVar 4) (aCons (eBin fMul (eVar 7) (eVar 7)) aNil))) aNil))))) (sSeq (sSet 8 (eIf (toB (eBin fEq (eBin fMod (eCB cInt (aCons (eVar 4) aNil)) (eC (.int 4))) (eC (.int 1)))) (eC (.int 1)) (eBin fSub (eC (.int 0)) (eC (.int 1))))) (sSeq (sIf (bNot (bTru (eCall 2 (apart (r__law_same 6)) (aCons (eTup (aCons (eCall 2 (apart r_times) (aCons (eVar 5) (aCons (eVar 5) aNil))) (aCons (eCall 1 (apart r_is_real) (aCons (eVar 5) aNil)) (aCons (eCall 1 (apart r_turned_back) (aCons (eVar 5) aNil)) (aCons (eBin fIx (eVar 5) (eC (.int 0))) aNil))))) (aCons (eTup (aCons (eTup (aCons (eC (.int 1)) (aCons (eTup (aCons (eTup (aCons (eBin fMul (eVar 8) (eVar 4)) (aCons (eC (.int 1)) aNil))) aNil)) aNil))) (aCons (eBin fEq (eVar 8) (eC (.int 1))) (aCons (eCall 2 (apart r_scaled) (aCons (eVar 5) (aCons (eTup (aCons (eVar 8) (aCons (eC (.int 1)) aNil))) aNil))) (aCons (eVar 4) aNil))))) aNil))))) (sRet (eC (.bl false))) sNext) (sSeq (sIf (bNot (bTru (eCall 2 (apart (r__law_same 6)) (aCons (eTup (aCons (eCB cLen (aCons (eCall 1 (apart r_kin) (aCons (eVar 5) aNil)) aNil)) (aCons (eCall 1 (apart r_trace) (aCons (eVar 5) aNil)) (aCons (eBin fIn (eCall 2 (apart r_scaled) (aCons (eVar 5) (aCons (eTup (aCons (eBin fSub (eC (.int 0)) (eC (.int 1))) (aCons (eC (.int 1)) aNil))) aNil))) (eCall 1 (apart r_kin) (aCons (eVar 5) aNil))) (aCons (eCall 1 (apart r_is_number) (aCons (eVar 5) aNil)) aNil))))) (aCons (eTup (aCons (eC (.int 2)) (aCons (eTup (aCons (eC (.int 0)) (aCons (eC (.int 1)) aNil))) (aCons (eC (.bl true)) (aCons (eC (.bl true)) aNil))))) aNil))))) (sRet (eC (.bl false))) sNext) (sSeq (sSet 9 (eTup (aCons (eC (.int 1)) (aCons (eTup (aCons (eTup (aCons (eC (.int 0)) (aCons (eC (.int 1)) aNil))) aNil)) aNil)))) (sSeq (sFor 1000 (iR2 (aCons (eC (.int 1)) (aCons (eVar 4) aNil))) (gN 7) (sSet 9 (eIf (toB (eBin fIn (eVar 7) (eVar 6))) (eCall 2 (apart r_added) (aCons (eVar 9) (aCons (eCall 2 (apart r_root) (aCons (eVar 4) (aCons (eVar 7) aNil))) aNil))) (eCall 2 (apart r_less) (aCons (eVar 9) (aCons (eCall 2 (apart r_root) (aCons (eVar 4) (aCons (eVar 7) aNil))) aNil)))))) (sSeq (sIf (bNot (bTru (eCall 2 (apart (r__law_same 6)) (aCons (eTup (aCons (eVar 9) (aCons (eVar 5) aNil))) (aCons (eTup (aCons (eVar 5) (aCons (eTup (aCons (eVar 4) (aCons (eCB cTuple (aCons (eLc 1000 [7] (iR1 (aCons (eBin fSub (eVar 4) (eC (.int 1))) aNil)) (gN 7) bYes (eTup (aCons (eBin fAdd (eBin fSub (eIf (toB (eBin fIn (eVar 7) (eVar 6))) (eC (.int 2)) (eC (.int 0))) (eIf (toB (eBin fIn (eBin fSub (eVar 4) (eC (.int 1))) (eVar 6))) (eC (.int 2)) (eC (.int 0)))) (eIf (toB (eBin fEq (eVar 7) (eC (.int 0)))) (eC (.int 1)) (eC (.int 0)))) (aCons (eC (.int 1)) aNil)))) aNil)) aNil))) aNil))) aNil))))) (sRet (eC (.bl false))) sNext) (sSub 0 p__law_right_1)))))))))
theorem kB_3 (q : W) (hq : q ∈ ([.int 3, .int 5, .int 7] : List W)) (o1 o2 o3 o6 o7 o9 o11 o12 o13 o14 o15 : Option W) (far stir : Int) : outS (kB [some (.ref 0), o1, o2, o3, some (.int 3), some tot3, o6, o7, some (.int (-1)), o9, some q, o11, o12, o13, o14, o15] (c0 far stir)) = some (some (some (.ref 0)), 16, some [.int far, .int stir]) := by
  simp only [List.mem_cons, List.not_mem_nil, or_false] at hq
  rcases hq with rfl | rfl | rfl
  · exact tB_3_3 ..
  · exact tB_3_5 ..
  · exact tB_3_7 ..
theorem pkA_3 (ω : Sl) (c : Ch) (far stir : Int) (n1 : 0 ≤ far) (n2 : 0 ≤ stir) (o1 o2 o3 o5 o6 o7 o8 o9 o10 o11 o12 o13 o14 o15 : Option W) : Fin (kA2 [some (.ref 0), o1, o2, o3, some (.int 3), o5, o6, o7, o8, o9, o10, o11, o12, o13, o14, o15] (c0 far stir)) := by
  obtain ⟨ω', c', e, e0, el, eg, g4, g5, g8⟩ := outA_nx (tA_3 o1 o2 o3 o5 o6 o7 o8 o9 o10 o11 o12 o13 o14 o15 far stir)
  have ep : kA2 [some (.ref 0), o1, o2, o3, some (.int 3), o5, o6, o7, o8, o9, o10, o11, o12, o13, o14, o15] (c0 far stir) = sSub 0 p__law_right_1 ω' c' := preA _ _ _ _ e
  rw [ep]
  exact sub_run e0 eg (pkB _ far stir _ _ _ (keep_len el) (keep_0 el) (keep_at (by decide) g4) (keep_at (by decide) g5) (keep_at (by decide) g8) n1 n2 kB_3)
theorem kB_5 (q : W) (hq : q ∈ ([.int 3, .int 5, .int 7] : List W)) (o1 o2 o3 o6 o7 o9 o11 o12 o13 o14 o15 : Option W) (far stir : Int) : outS (kB [some (.ref 0), o1, o2, o3, some (.int 5), some tot5, o6, o7, some (.int (1)), o9, some q, o11, o12, o13, o14, o15] (c0 far stir)) = some (some (some (.ref 0)), 16, some [.int far, .int stir]) := by
  simp only [List.mem_cons, List.not_mem_nil, or_false] at hq
  rcases hq with rfl | rfl | rfl
  · exact tB_5_3 ..
  · exact tB_5_5 ..
  · exact tB_5_7 ..
theorem pkA_5 (ω : Sl) (c : Ch) (far stir : Int) (n1 : 0 ≤ far) (n2 : 0 ≤ stir) (o1 o2 o3 o5 o6 o7 o8 o9 o10 o11 o12 o13 o14 o15 : Option W) : Fin (kA2 [some (.ref 0), o1, o2, o3, some (.int 5), o5, o6, o7, o8, o9, o10, o11, o12, o13, o14, o15] (c0 far stir)) := by
  obtain ⟨ω', c', e, e0, el, eg, g4, g5, g8⟩ := outA_nx (tA_5 o1 o2 o3 o5 o6 o7 o8 o9 o10 o11 o12 o13 o14 o15 far stir)
  have ep : kA2 [some (.ref 0), o1, o2, o3, some (.int 5), o5, o6, o7, o8, o9, o10, o11, o12, o13, o14, o15] (c0 far stir) = sSub 0 p__law_right_1 ω' c' := preA _ _ _ _ e
  rw [ep]
  exact sub_run e0 eg (pkB _ far stir _ _ _ (keep_len el) (keep_0 el) (keep_at (by decide) g4) (keep_at (by decide) g5) (keep_at (by decide) g8) n1 n2 kB_5)
theorem kB_7 (q : W) (hq : q ∈ ([.int 3, .int 5, .int 7] : List W)) (o1 o2 o3 o6 o7 o9 o11 o12 o13 o14 o15 : Option W) (far stir : Int) : outS (kB [some (.ref 0), o1, o2, o3, some (.int 7), some tot7, o6, o7, some (.int (-1)), o9, some q, o11, o12, o13, o14, o15] (c0 far stir)) = some (some (some (.ref 0)), 16, some [.int far, .int stir]) := by
  simp only [List.mem_cons, List.not_mem_nil, or_false] at hq
  rcases hq with rfl | rfl | rfl
  · exact tB_7_3 ..
  · exact tB_7_5 ..
  · exact tB_7_7 ..
theorem pkA_7 (ω : Sl) (c : Ch) (far stir : Int) (n1 : 0 ≤ far) (n2 : 0 ≤ stir) (o1 o2 o3 o5 o6 o7 o8 o9 o10 o11 o12 o13 o14 o15 : Option W) : Fin (kA2 [some (.ref 0), o1, o2, o3, some (.int 7), o5, o6, o7, o8, o9, o10, o11, o12, o13, o14, o15] (c0 far stir)) := by
  obtain ⟨ω', c', e, e0, el, eg, g4, g5, g8⟩ := outA_nx (tA_7 o1 o2 o3 o5 o6 o7 o8 o9 o10 o11 o12 o13 o14 o15 far stir)
  have ep : kA2 [some (.ref 0), o1, o2, o3, some (.int 7), o5, o6, o7, o8, o9, o10, o11, o12, o13, o14, o15] (c0 far stir) = sSub 0 p__law_right_1 ω' c' := preA _ _ _ _ e
  rw [ep]
  exact sub_run e0 eg (pkB _ far stir _ _ _ (keep_len el) (keep_0 el) (keep_at (by decide) g4) (keep_at (by decide) g5) (keep_at (by decide) g8) n1 n2 kB_7)
theorem kB_11 (q : W) (hq : q ∈ ([.int 3, .int 5, .int 7] : List W)) (o1 o2 o3 o6 o7 o9 o11 o12 o13 o14 o15 : Option W) (far stir : Int) : outS (kB [some (.ref 0), o1, o2, o3, some (.int 11), some tot11, o6, o7, some (.int (-1)), o9, some q, o11, o12, o13, o14, o15] (c0 far stir)) = some (some (some (.ref 0)), 16, some [.int far, .int stir]) := by
  simp only [List.mem_cons, List.not_mem_nil, or_false] at hq
  rcases hq with rfl | rfl | rfl
  · exact tB_11_3 ..
  · exact tB_11_5 ..
  · exact tB_11_7 ..
theorem pkA_11 (ω : Sl) (c : Ch) (far stir : Int) (n1 : 0 ≤ far) (n2 : 0 ≤ stir) (o1 o2 o3 o5 o6 o7 o8 o9 o10 o11 o12 o13 o14 o15 : Option W) : Fin (kA2 [some (.ref 0), o1, o2, o3, some (.int 11), o5, o6, o7, o8, o9, o10, o11, o12, o13, o14, o15] (c0 far stir)) := by
  obtain ⟨ω', c', e, e0, el, eg, g4, g5, g8⟩ := outA_nx (tA_11 o1 o2 o3 o5 o6 o7 o8 o9 o10 o11 o12 o13 o14 o15 far stir)
  have ep : kA2 [some (.ref 0), o1, o2, o3, some (.int 11), o5, o6, o7, o8, o9, o10, o11, o12, o13, o14, o15] (c0 far stir) = sSub 0 p__law_right_1 ω' c' := preA _ _ _ _ e
  rw [ep]
  exact sub_run e0 eg (pkB _ far stir _ _ _ (keep_len el) (keep_0 el) (keep_at (by decide) g4) (keep_at (by decide) g5) (keep_at (by decide) g8) n1 n2 kB_11)
theorem kB_13 (q : W) (hq : q ∈ ([.int 3, .int 5, .int 7] : List W)) (o1 o2 o3 o6 o7 o9 o11 o12 o13 o14 o15 : Option W) (far stir : Int) : outS (kB [some (.ref 0), o1, o2, o3, some (.int 13), some tot13, o6, o7, some (.int (1)), o9, some q, o11, o12, o13, o14, o15] (c0 far stir)) = some (some (some (.ref 0)), 16, some [.int far, .int stir]) := by
  simp only [List.mem_cons, List.not_mem_nil, or_false] at hq
  rcases hq with rfl | rfl | rfl
  · exact tB_13_3 ..
  · exact tB_13_5 ..
  · exact tB_13_7 ..
theorem pkA_13 (ω : Sl) (c : Ch) (far stir : Int) (n1 : 0 ≤ far) (n2 : 0 ≤ stir) (o1 o2 o3 o5 o6 o7 o8 o9 o10 o11 o12 o13 o14 o15 : Option W) : Fin (kA2 [some (.ref 0), o1, o2, o3, some (.int 13), o5, o6, o7, o8, o9, o10, o11, o12, o13, o14, o15] (c0 far stir)) := by
  obtain ⟨ω', c', e, e0, el, eg, g4, g5, g8⟩ := outA_nx (tA_13 o1 o2 o3 o5 o6 o7 o8 o9 o10 o11 o12 o13 o14 o15 far stir)
  have ep : kA2 [some (.ref 0), o1, o2, o3, some (.int 13), o5, o6, o7, o8, o9, o10, o11, o12, o13, o14, o15] (c0 far stir) = sSub 0 p__law_right_1 ω' c' := preA _ _ _ _ e
  rw [ep]
  exact sub_run e0 eg (pkB _ far stir _ _ _ (keep_len el) (keep_0 el) (keep_at (by decide) g4) (keep_at (by decide) g5) (keep_at (by decide) g8) n1 n2 kB_13)
theorem pkA (ω : Sl) (far stir : Int) (hl : ω.length = 16) (h0 : ω[0]? = some (some (.ref 0))) (n1 : 0 ≤ far) (n2 : 0 ≤ stir) : Fin (p__law_right_2 ω (c0 far stir)) := by
  obtain ⟨o1, o2, o3, o4, o5, o6, o7, o8, o9, o10, o11, o12, o13, o14, o15, rfl⟩ := split16 hl h0
  obtain ⟨d, w, far', stir', hw, m1, m2, e4⟩ := of_ok far stir [.int 3, .int 5, .int 7, .int 11, .int 13] n1 n2 rfl rfl
  have key : Fin (kA2 [some (.ref 0), o1, o2, o3, some w, o5, o6, o7, o8, o9, o10, o11, o12, o13, o14, o15] (c0 far' stir')) := by
    have hm := List.mem_of_getElem? hw
    simp only [List.mem_cons, List.not_mem_nil, or_false] at hm
    rcases hm with rfl | rfl | rfl | rfl | rfl
    · exact pkA_3 [] (c0 0 0) far' stir' m1 m2 ..
    · exact pkA_5 [] (c0 0 0) far' stir' m1 m2 ..
    · exact pkA_7 [] (c0 0 0) far' stir' m1 m2 ..
    · exact pkA_11 [] (c0 0 0) far' stir' m1 m2 ..
    · exact pkA_13 [] (c0 0 0) far' stir' m1 m2 ..
  obtain ⟨ω2, c2, f2, s2, e2, r⟩ := key
  exact ⟨ω2, c2, f2, s2, r_seq (r_set (r_call (r_cons rfl (r_one rfl)) rfl e4)) e2, r⟩
def Fin0 (r : RS) : Prop := ∃ (ω' : Sl) (far' stir' : Int), r = .nx ω' (c0 far' stir') ∧ ω'.length = 16 ∧ ω'[0]? = some (some (.ref 0)) ∧ 0 ≤ far' ∧ 0 ≤ stir'
theorem lapR (ω : Sl) (far stir : Int) (hl : ω.length = 16) (h0 : ω[0]? = some (some (.ref 0))) (n1 : 0 ≤ far) (n2 : 0 ≤ stir) : Fin0 (sSub 0 p__law_right_2 ω (c0 far stir)) := by
  obtain ⟨ω', c', far', stir', e, l', z', g', m1, m2⟩ := pkA _ far stir (keep_len hl) (keep_0 hl) n1 n2
  have hs : sSub 0 p__law_right_2 ω (c0 far stir) = subEnd 0 (c0 far stir) (p__law_right_2 ((keepF ω).set 0 (some (.ref 0))) (c0 far stir)) := by
    unfold sSub
    rw [h0]
    rfl
  have he : subEnd 0 (c0 far stir) (.nx ω' c') = .nx (backF 0 ω') (c0 far' stir') := by
    unfold subEnd
    dsimp only
    rw [g']
    rfl
  refine ⟨backF 0 ω', far', stir', by rw [hs, e, he], by unfold backF; rw [List.length_map, l'], ?_, m1, m2⟩
  unfold backF
  rw [List.getElem?_map, z']
  rfl
theorem loopR : ∀ (m i : Nat) (ω : Sl) (far stir : Int), i + m = 2 → ω.length = 16 → ω[0]? = some (some (.ref 0)) → 0 ≤ far → 0 ≤ stir → Fin0 (loopS (.rng 0 2) (gN 1) (sSub 0 p__law_right_2) (998 + m) i ω (c0 far stir))
  | 0, i, ω, far, stir, hi, hl, h0, n1, n2 => by
    obtain rfl : i = 2 := by omega
    rw [show 998 + 0 = 997 + 1 from rfl, loopS_succ]
    exact ⟨ω, far, stir, rfl, hl, h0, n1, n2⟩
  | m + 1, i, ω, far, stir, hi, hl, h0, n1, n2 => by
    have eb : Nat.blt i 2 = true := by rw [Nat.blt_eq]; omega
    obtain ⟨ω2, f2, s2, e2, l2, z2, m1, m2⟩ := lapR (setK (some (.int (0 + (i : Nat)))) ω 1) far stir (by rw [setK_eq, List.length_set, hl]) (by rw [setK_eq, List.getElem?_set_ne (by decide), h0]) n1 n2
    rw [show 998 + (m + 1) = (998 + m) + 1 from rfl, loopS_succ]
    have es : stepS (.rng 0 2) i (c0 far stir) = .item (.int (0 + (i : Nat))) := by
      show (match Nat.blt i 2 with | true => SR.item (.int (0 + (i : Nat))) | false => .stop) = _
      rw [eb]
    rw [es]
    show Fin0 (match sSub 0 p__law_right_2 (setK (some (.int (0 + (i : Nat)))) ω 1) (c0 far stir) with
      | .nx ω2 c2 => loopS (.rng 0 2) (gN 1) (sSub 0 p__law_right_2) (998 + m) (i + 1) ω2 c2
      | .ct ω2 c2 => loopS (.rng 0 2) (gN 1) (sSub 0 p__law_right_2) (998 + m) (i + 1) ω2 c2
      | .bk ω2 c2 => .nx ω2 c2
      | .rt w c2 => .rt w c2
      | .no => .no)
    rw [e2]
    exact loopR m (i + 1) ω2 f2 s2 (by omega) l2 z2 m1 m2
theorem right_ok : RightOk := by
  intro far stir n1 n2
  obtain ⟨ω1, f1, s1, e1, l1, z1, m1, m2⟩ := loopR 2 0 [some (.ref 0), none, none, none, none, none, none, none, none, none, none, none, none, none, none, none] far stir rfl rfl rfl n1 n2
  have hfor : sFor 1000 (iR1 (aCons (eC (.int 2)) aNil)) (gN 1) (sSub 0 p__law_right_2) [some (.ref 0), none, none, none, none, none, none, none, none, none, none, none, none, none, none, none] (c0 far stir) = .nx ω1 (c0 f1 s1) := e1
  obtain ⟨o1, o2, o3, o4, o5, o6, o7, o8, o9, o10, o11, o12, o13, o14, o15, rfl⟩ := split16 l1 z1
  have t := tE o1 o2 o3 o4 o5 o6 o7 o8 o9 o10 o11 o12 o13 o14 o15 f1 s1
  have eb : b__law_right [some (.ref 0), none, none, none, none, none, none, none, none, none, none, none, none, none, none, none] (c0 far stir) = kE [some (.ref 0), o1, o2, o3, o4, o5, o6, o7, o8, o9, o10, o11, o12, o13, o14, o15] (c0 f1 s1) := r_seq hfor rfl
  have er : r__law_right [.ref 0] (c0 far stir) = (match b__law_right [some (.ref 0), none, none, none, none, none, none, none, none, none, none, none, none, none, none, none] (c0 far stir) with
    | .rt w c1 => R.ok w c1
    | .nx _ c1 => .ok .non c1
    | _ => .no) := rfl
  rw [er, eb]
  generalize kE [some (.ref 0), o1, o2, o3, o4, o5, o6, o7, o8, o9, o10, o11, o12, o13, o14, o15] (c0 f1 s1) = r at t
  cases r with
  | rt w c2 =>
    have t : some (w, c2.get 0) = some (W.bl true, some [W.int f1, W.int s1]) := t
    have t := Option.some.inj t
    obtain ⟨t1, t2⟩ := Prod.mk.inj t
    exact ⟨c2, f1, s1, by rw [t1], t2⟩
  | _ => cases t
end Sm
/-! Hd2: the head: facts by names, the run -/
namespace Hd
open PySem PySem.Spec PyProof.Rows L2 Sm
abbrev PW := PySem.Challenge.pw_rollrings_k16_sums_of_roots_over_squares
abbrev LW := PySem.Challenge.rw_rollrings_k16_sums_of_roots_over_squares
def dd (x : Str) (i : Nat) : He.DefD := ⟨(x, none), x, x, defArgs (top i), defBody (top i), defScope (top i), [], []⟩
def dm (c m q : Str) (i j : Nat) : He.DefD := ⟨(c, some m), m, q, defArgs (inClass (top i) j), defBody (inClass (top i) j), defScope (inClass (top i) j), [], []⟩
def fn : List He.DefD := ([dd "is_prime" 10, dd "primes_of" 9, dd "multiple" 11, dd "with_one" 12, dd "without_one" 13, dd "products_of" 14, dd "polynomial_by" 15, dd "moved" 16, dd "undone" 19, dd "by_square" 20, dd "by_two" 21, dd "by_odd" 22, dd "lowered" 23, dd "lowest" 24, dd "is_whole" 26, dd "is_from" 27, dd "is_row_of" 28, dd "is_fraction" 32, dd "fraction_of" 33, dd "is_order" 34, dd "wholes_of" 35, dd "parts_of" 36, dd "at" 37, dd "least" 38, dd "is_number_by" 39, dd "both_orders" 40, dd "both_rows" 41, dd "sum_of" 42, dd "difference_of" 43, dd "product_of" 44] : List He.DefD) ++ ([dd "back_of" 45, dd "least_parts" 47, dd "scaled_by" 46, dd "root_of" 48, dd "check_number" 50, dd "check_order" 51, dd "is_number" 52, dd "check_both" 54, dd "added" 55, dd "less" 56, dd "times" 57, dd "turned_back" 58, dd "scaled" 59, dd "is_real" 60, dd "root" 61, dd "rows_of_kin" 63, dd "kin_of" 64, dd "trace_of" 65, dd "kin" 67, dd "trace" 68, dd "_law_bowl" 70, dd "_law_draw" 71, dd "_law_of" 72, dd "_law_same" 73, dd "_law_gcd" 74, dd "_law_fraction" 75, dd "_law_primes" 76, dd "_law_degree" 77, dd "_law_spread" 79, dd "_law_divided" 80] : List He.DefD) ++ ([dd "_law_polynomial" 78, dd "_law_parts" 81, dd "_law_down" 82, dd "_law_lifted" 83, dd "_law_form" 84, dd "_law_row" 85, dd "_law_both" 86, dd "_law_added" 87, dd "_law_scaled" 88, dd "_law_root" 89, dd "_law_right" 90, dd "law" 91, dm "Field" "reduced" "Field.reduced" 17 1, dm "Field" "turned" "Field.turned" 17 3, dm "Field" "power" "Field.power" 17 2, dm "Field" "kin" "Field.kin" 17 5, dm "Field" "back" "Field.back" 17 4, dm "Field" "product" "Field.product" 17 6, dm "Field" "lifted" "Field.lifted" 17 7, dm "Field" "__init__" "Field.__init__" 17 0] : List He.DefD)
def fa : List He.Fa := ([.glo "is_prime", .glo "primes_of", .glo "multiple", .glo "with_one", .glo "without_one", .glo "products_of", .glo "polynomial_by", .glo "moved", .glo "undone", .glo "by_square", .glo "by_two", .glo "by_odd", .glo "lowered", .glo "lowest", .glo "is_whole", .glo "is_from", .glo "is_row_of", .glo "is_fraction", .glo "fraction_of", .glo "is_order", .glo "wholes_of", .glo "parts_of", .glo "at", .glo "least", .glo "is_number_by", .glo "both_orders", .glo "both_rows", .glo "sum_of", .glo "difference_of", .glo "product_of"] : List He.Fa) ++ ([.glo "back_of", .glo "least_parts", .glo "scaled_by", .glo "root_of", .glo "check_number", .glo "check_order", .glo "is_number", .glo "check_both", .glo "added", .glo "less", .glo "times", .glo "turned_back", .glo "scaled", .glo "is_real", .glo "root", .glo "rows_of_kin", .glo "kin_of", .glo "trace_of", .glo "kin", .glo "trace", .glo "_law_bowl", .glo "_law_draw", .glo "_law_of", .glo "_law_same", .glo "_law_gcd", .glo "_law_fraction", .glo "_law_primes", .glo "_law_degree", .glo "_law_spread", .glo "_law_divided"] : List He.Fa) ++ ([.glo "_law_polynomial", .glo "_law_parts", .glo "_law_down", .glo "_law_lifted", .glo "_law_form", .glo "_law_row", .glo "_law_both", .glo "_law_added", .glo "_law_scaled", .glo "_law_root", .glo "_law_right", .glo "law", .glo "Field", .free "abs", .free "all", .free "any", .free "bool", .free "divmod", .free "enumerate", .free "int", .free "isinstance", .free "len", .free "list", .free "max", .free "min", .free "range", .free "sorted", .free "str", .free "sum", .free "tuple"] : List He.Fa) ++ ([.free "zip", .int "MOST_ORDER" 120, .int "PAIR" 2, .cls "Field", .mkr "Field", .noat "Field" "degree", .noat "Field" "order", .noat "Field" "polynomial", .meth "Field" "reduced", .meth "Field" "turned", .meth "Field" "power", .meth "Field" "kin", .meth "Field" "back", .meth "Field" "product", .meth "Field" "lifted"] : List He.Fa)
def exB (K : PySem.W.Frag) : Bool := match PySem.W.nsIn K mainGlobals "gcd" with
  | some (some (.builtin i)) => decide (i = "math.gcd")
  | _ => false
theorem exB_ok {K : PySem.W.Frag} (h : exB K = true) : PySem.W.nsIn K mainGlobals "gcd" = some (some (.builtin "math.gcd")) := by
  unfold exB at h
  split at h
  · rename_i i e
    rw [e, of_decide_eq_true h]
  · cases h
def clsL : List Str := ["Field"]
def mthL : List (Str × Str) := [("Field", "reduced"), ("Field", "turned"), ("Field", "power"), ("Field", "kin"), ("Field", "back"), ("Field", "product"), ("Field", "lifted"), ("Field", "__init__")]
/-- the addresses that are looked at -/
def codeR (g : Addr → Option Obj) (a : Addr) : List Addr := match g a with
  | some ⟨_, _, .func fd, _⟩ => He.refV fd.code
  | _ => []
def nsR (g : Addr → Option Obj) (a : Addr) : List Addr := match g a with
  | some ⟨_, _, .cls cd, _⟩ => [cd.ns]
  | _ => []
def asF (g : Addr → Option Obj) : List Addr := (fn.filter fun d => d.at_.2.isNone).map fun d => He.ga (He.frG g [mainGlobals]) d.at_.1
def asC (g : Addr → Option Obj) : List Addr := clsL.map fun c => He.ga (He.frG g [mainGlobals]) c
def asN (g : Addr → Option Obj) : List Addr := mainGlobals :: (asC g ++ (asC g).flatMap (nsR g))
def asM (g : Addr → Option Obj) : List Addr := mthL.map fun p => He.ma (He.frG g (asN g)) (He.ga (He.frG g [mainGlobals]) p.1) p.2
def asK (g : Addr → Option Obj) : List Addr := asN g ++ (asF g ++ (asM g ++ (asF g ++ asM g).flatMap (codeR g)))
def Says (K : PySem.W.Frag) : Prop := He.SaysD fa fn K ∧ exB K = true
def obK (g : Addr → Option Obj) : He.AlD × Bool := (He.obsD fa fn (He.frG g (asK g)), exB (He.frG g (asK g)))
def hk : PySem.W.Hook where
  α := He.AlD × Bool
  obs := fun s => obK s.heap.get?
  val := fun _ => (He.valD fn, true)
  says := fun _ h => ∃ K : PySem.W.Frag, K.In h ∧ Says K
  of := fun _ _ e => ⟨_, He.frG_in, Prod.mk.inj e⟩
  keeps := fun _ _ _ ⟨K, i, c⟩ k => ⟨K, PySem.W.Frag.In.keeps i k, c⟩
end Hd
/-! Hd3: from the head's facts to the law's def; the law -/
namespace Hd
open PySem PySem.Spec PyProof.Rows L2 Sm
section
variable {w : World} {K : PySem.W.Frag} {h : Heap} {mg : Str → Option Value}
theorem frz_of {K : PySem.W.Frag} {H : Hp} {a : Addr} {vs : List V} (h : SqL K H a vs) : FrzAt K [] H a vs := by
  rcases h with (h | h) | h
  · exact .inl ⟨h, List.not_mem_nil⟩
  · exact .inr (.inl h)
  · exact .inr (.inr h)
theorem facts {f : Addr} (X : K.In h) (G : h.Ns mainGlobals mg) (hfa : mg "law" = some (.ref f)) (c : Says K) : ∃ (fd : FuncData) (sp : Sp), (∀ (s : Shared) (u : Value), BindsTo s fd ⟨[u], []⟩ [("script", u)]) ∧
    (∀ (H : Hp) (a : Addr) (ns : List Int), ns.length ≤ 63 → Only H → SqL K H a (ns.map V.int) → sp [.ref a] H (fun v _ => v = .bl true) fun _ _ _ => False) ∧
    ∀ base : Heap, K.In base → base.Ns mainGlobals mg → FnOk LW.prog w K mg base CX0 14 f fd ["script"] sp := by
  have d := c.1
  have B : Bs K mg := ⟨He.free_ok X G (d.fact 73 (f := .free "abs") rfl), He.free_ok X G (d.fact 74 (f := .free "all") rfl), He.free_ok X G (d.fact 75 (f := .free "any") rfl), He.free_ok X G (d.fact 76 (f := .free "bool") rfl), He.free_ok X G (d.fact 77 (f := .free "divmod") rfl), He.free_ok X G (d.fact 78 (f := .free "enumerate") rfl), He.free_ok X G (d.fact 79 (f := .free "int") rfl), He.free_ok X G (d.fact 80 (f := .free "isinstance") rfl), He.free_ok X G (d.fact 81 (f := .free "len") rfl), He.free_ok X G (d.fact 82 (f := .free "list") rfl), He.free_ok X G (d.fact 83 (f := .free "max") rfl), He.free_ok X G (d.fact 84 (f := .free "min") rfl), He.free_ok X G (d.fact 85 (f := .free "range") rfl), He.free_ok X G (d.fact 86 (f := .free "sorted") rfl), He.free_ok X G (d.fact 87 (f := .free "str") rfl), He.free_ok X G (d.fact 88 (f := .free "sum") rfl), He.free_ok X G (d.fact 89 (f := .free "tuple") rfl), He.free_ok X G (d.fact 90 (f := .free "zip") rfl), He.int_ok X G (d.fact 91 (f := .int "MOST_ORDER" 120) rfl), He.int_ok X G (d.fact 92 (f := .int "PAIR" 2) rfl), PySem.W.mg_of X G (exB_ok c.2), ⟨He.cls_ok (d.fact 93 (f := .cls "Field") rfl), He.noat_ok (d.fact 95 (f := .noat "Field" "degree") rfl)⟩, ⟨He.cls_ok (d.fact 93 (f := .cls "Field") rfl), He.noat_ok (d.fact 96 (f := .noat "Field" "order") rfl)⟩, ⟨He.cls_ok (d.fact 93 (f := .cls "Field") rfl), He.noat_ok (d.fact 97 (f := .noat "Field" "polynomial") rfl)⟩⟩
  obtain ⟨d_is_prime, F_is_prime⟩ := d.def_ 0 (d := dd "is_prime" 10) rfl
  have g_is_prime : mg "is_prime" = some (.ref (He.ga K "is_prime")) := He.glo_ok X G (d.fact 0 (f := .glo "is_prime") rfl)
  obtain ⟨d_primes_of, F_primes_of⟩ := d.def_ 1 (d := dd "primes_of" 9) rfl
  have g_primes_of : mg "primes_of" = some (.ref (He.ga K "primes_of")) := He.glo_ok X G (d.fact 1 (f := .glo "primes_of") rfl)
  obtain ⟨d_multiple, F_multiple⟩ := d.def_ 2 (d := dd "multiple" 11) rfl
  have g_multiple : mg "multiple" = some (.ref (He.ga K "multiple")) := He.glo_ok X G (d.fact 2 (f := .glo "multiple") rfl)
  obtain ⟨d_with_one, F_with_one⟩ := d.def_ 3 (d := dd "with_one" 12) rfl
  have g_with_one : mg "with_one" = some (.ref (He.ga K "with_one")) := He.glo_ok X G (d.fact 3 (f := .glo "with_one") rfl)
  obtain ⟨d_without_one, F_without_one⟩ := d.def_ 4 (d := dd "without_one" 13) rfl
  have g_without_one : mg "without_one" = some (.ref (He.ga K "without_one")) := He.glo_ok X G (d.fact 4 (f := .glo "without_one") rfl)
  obtain ⟨d_products_of, F_products_of⟩ := d.def_ 5 (d := dd "products_of" 14) rfl
  have g_products_of : mg "products_of" = some (.ref (He.ga K "products_of")) := He.glo_ok X G (d.fact 5 (f := .glo "products_of") rfl)
  obtain ⟨d_polynomial_by, F_polynomial_by⟩ := d.def_ 6 (d := dd "polynomial_by" 15) rfl
  have g_polynomial_by : mg "polynomial_by" = some (.ref (He.ga K "polynomial_by")) := He.glo_ok X G (d.fact 6 (f := .glo "polynomial_by") rfl)
  obtain ⟨d_moved, F_moved⟩ := d.def_ 7 (d := dd "moved" 16) rfl
  have g_moved : mg "moved" = some (.ref (He.ga K "moved")) := He.glo_ok X G (d.fact 7 (f := .glo "moved") rfl)
  obtain ⟨d_undone, F_undone⟩ := d.def_ 8 (d := dd "undone" 19) rfl
  have g_undone : mg "undone" = some (.ref (He.ga K "undone")) := He.glo_ok X G (d.fact 8 (f := .glo "undone") rfl)
  obtain ⟨d_by_square, F_by_square⟩ := d.def_ 9 (d := dd "by_square" 20) rfl
  have g_by_square : mg "by_square" = some (.ref (He.ga K "by_square")) := He.glo_ok X G (d.fact 9 (f := .glo "by_square") rfl)
  obtain ⟨d_by_two, F_by_two⟩ := d.def_ 10 (d := dd "by_two" 21) rfl
  have g_by_two : mg "by_two" = some (.ref (He.ga K "by_two")) := He.glo_ok X G (d.fact 10 (f := .glo "by_two") rfl)
  obtain ⟨d_by_odd, F_by_odd⟩ := d.def_ 11 (d := dd "by_odd" 22) rfl
  have g_by_odd : mg "by_odd" = some (.ref (He.ga K "by_odd")) := He.glo_ok X G (d.fact 11 (f := .glo "by_odd") rfl)
  obtain ⟨d_lowered, F_lowered⟩ := d.def_ 12 (d := dd "lowered" 23) rfl
  have g_lowered : mg "lowered" = some (.ref (He.ga K "lowered")) := He.glo_ok X G (d.fact 12 (f := .glo "lowered") rfl)
  obtain ⟨d_lowest, F_lowest⟩ := d.def_ 13 (d := dd "lowest" 24) rfl
  have g_lowest : mg "lowest" = some (.ref (He.ga K "lowest")) := He.glo_ok X G (d.fact 13 (f := .glo "lowest") rfl)
  obtain ⟨d_is_whole, F_is_whole⟩ := d.def_ 14 (d := dd "is_whole" 26) rfl
  have g_is_whole : mg "is_whole" = some (.ref (He.ga K "is_whole")) := He.glo_ok X G (d.fact 14 (f := .glo "is_whole") rfl)
  obtain ⟨d_is_from, F_is_from⟩ := d.def_ 15 (d := dd "is_from" 27) rfl
  have g_is_from : mg "is_from" = some (.ref (He.ga K "is_from")) := He.glo_ok X G (d.fact 15 (f := .glo "is_from") rfl)
  obtain ⟨d_is_row_of, F_is_row_of⟩ := d.def_ 16 (d := dd "is_row_of" 28) rfl
  have g_is_row_of : mg "is_row_of" = some (.ref (He.ga K "is_row_of")) := He.glo_ok X G (d.fact 16 (f := .glo "is_row_of") rfl)
  obtain ⟨d_is_fraction, F_is_fraction⟩ := d.def_ 17 (d := dd "is_fraction" 32) rfl
  have g_is_fraction : mg "is_fraction" = some (.ref (He.ga K "is_fraction")) := He.glo_ok X G (d.fact 17 (f := .glo "is_fraction") rfl)
  obtain ⟨d_fraction_of, F_fraction_of⟩ := d.def_ 18 (d := dd "fraction_of" 33) rfl
  have g_fraction_of : mg "fraction_of" = some (.ref (He.ga K "fraction_of")) := He.glo_ok X G (d.fact 18 (f := .glo "fraction_of") rfl)
  obtain ⟨d_is_order, F_is_order⟩ := d.def_ 19 (d := dd "is_order" 34) rfl
  have g_is_order : mg "is_order" = some (.ref (He.ga K "is_order")) := He.glo_ok X G (d.fact 19 (f := .glo "is_order") rfl)
  obtain ⟨d_wholes_of, F_wholes_of⟩ := d.def_ 20 (d := dd "wholes_of" 35) rfl
  have g_wholes_of : mg "wholes_of" = some (.ref (He.ga K "wholes_of")) := He.glo_ok X G (d.fact 20 (f := .glo "wholes_of") rfl)
  obtain ⟨d_parts_of, F_parts_of⟩ := d.def_ 21 (d := dd "parts_of" 36) rfl
  have g_parts_of : mg "parts_of" = some (.ref (He.ga K "parts_of")) := He.glo_ok X G (d.fact 21 (f := .glo "parts_of") rfl)
  obtain ⟨d_at, F_at⟩ := d.def_ 22 (d := dd "at" 37) rfl
  have g_at : mg "at" = some (.ref (He.ga K "at")) := He.glo_ok X G (d.fact 22 (f := .glo "at") rfl)
  obtain ⟨d_least, F_least⟩ := d.def_ 23 (d := dd "least" 38) rfl
  have g_least : mg "least" = some (.ref (He.ga K "least")) := He.glo_ok X G (d.fact 23 (f := .glo "least") rfl)
  obtain ⟨d_is_number_by, F_is_number_by⟩ := d.def_ 24 (d := dd "is_number_by" 39) rfl
  have g_is_number_by : mg "is_number_by" = some (.ref (He.ga K "is_number_by")) := He.glo_ok X G (d.fact 24 (f := .glo "is_number_by") rfl)
  obtain ⟨d_both_orders, F_both_orders⟩ := d.def_ 25 (d := dd "both_orders" 40) rfl
  have g_both_orders : mg "both_orders" = some (.ref (He.ga K "both_orders")) := He.glo_ok X G (d.fact 25 (f := .glo "both_orders") rfl)
  obtain ⟨d_both_rows, F_both_rows⟩ := d.def_ 26 (d := dd "both_rows" 41) rfl
  have g_both_rows : mg "both_rows" = some (.ref (He.ga K "both_rows")) := He.glo_ok X G (d.fact 26 (f := .glo "both_rows") rfl)
  obtain ⟨d_sum_of, F_sum_of⟩ := d.def_ 27 (d := dd "sum_of" 42) rfl
  have g_sum_of : mg "sum_of" = some (.ref (He.ga K "sum_of")) := He.glo_ok X G (d.fact 27 (f := .glo "sum_of") rfl)
  obtain ⟨d_difference_of, F_difference_of⟩ := d.def_ 28 (d := dd "difference_of" 43) rfl
  have g_difference_of : mg "difference_of" = some (.ref (He.ga K "difference_of")) := He.glo_ok X G (d.fact 28 (f := .glo "difference_of") rfl)
  obtain ⟨d_product_of, F_product_of⟩ := d.def_ 29 (d := dd "product_of" 44) rfl
  have g_product_of : mg "product_of" = some (.ref (He.ga K "product_of")) := He.glo_ok X G (d.fact 29 (f := .glo "product_of") rfl)
  obtain ⟨d_back_of, F_back_of⟩ := d.def_ 30 (d := dd "back_of" 45) rfl
  have g_back_of : mg "back_of" = some (.ref (He.ga K "back_of")) := He.glo_ok X G (d.fact 30 (f := .glo "back_of") rfl)
  obtain ⟨d_least_parts, F_least_parts⟩ := d.def_ 31 (d := dd "least_parts" 47) rfl
  have g_least_parts : mg "least_parts" = some (.ref (He.ga K "least_parts")) := He.glo_ok X G (d.fact 31 (f := .glo "least_parts") rfl)
  obtain ⟨d_scaled_by, F_scaled_by⟩ := d.def_ 32 (d := dd "scaled_by" 46) rfl
  have g_scaled_by : mg "scaled_by" = some (.ref (He.ga K "scaled_by")) := He.glo_ok X G (d.fact 32 (f := .glo "scaled_by") rfl)
  obtain ⟨d_root_of, F_root_of⟩ := d.def_ 33 (d := dd "root_of" 48) rfl
  have g_root_of : mg "root_of" = some (.ref (He.ga K "root_of")) := He.glo_ok X G (d.fact 33 (f := .glo "root_of") rfl)
  obtain ⟨d_check_number, F_check_number⟩ := d.def_ 34 (d := dd "check_number" 50) rfl
  have g_check_number : mg "check_number" = some (.ref (He.ga K "check_number")) := He.glo_ok X G (d.fact 34 (f := .glo "check_number") rfl)
  obtain ⟨d_check_order, F_check_order⟩ := d.def_ 35 (d := dd "check_order" 51) rfl
  have g_check_order : mg "check_order" = some (.ref (He.ga K "check_order")) := He.glo_ok X G (d.fact 35 (f := .glo "check_order") rfl)
  obtain ⟨d_is_number, F_is_number⟩ := d.def_ 36 (d := dd "is_number" 52) rfl
  have g_is_number : mg "is_number" = some (.ref (He.ga K "is_number")) := He.glo_ok X G (d.fact 36 (f := .glo "is_number") rfl)
  obtain ⟨d_check_both, F_check_both⟩ := d.def_ 37 (d := dd "check_both" 54) rfl
  have g_check_both : mg "check_both" = some (.ref (He.ga K "check_both")) := He.glo_ok X G (d.fact 37 (f := .glo "check_both") rfl)
  obtain ⟨d_added, F_added⟩ := d.def_ 38 (d := dd "added" 55) rfl
  have g_added : mg "added" = some (.ref (He.ga K "added")) := He.glo_ok X G (d.fact 38 (f := .glo "added") rfl)
  obtain ⟨d_less, F_less⟩ := d.def_ 39 (d := dd "less" 56) rfl
  have g_less : mg "less" = some (.ref (He.ga K "less")) := He.glo_ok X G (d.fact 39 (f := .glo "less") rfl)
  obtain ⟨d_times, F_times⟩ := d.def_ 40 (d := dd "times" 57) rfl
  have g_times : mg "times" = some (.ref (He.ga K "times")) := He.glo_ok X G (d.fact 40 (f := .glo "times") rfl)
  obtain ⟨d_turned_back, F_turned_back⟩ := d.def_ 41 (d := dd "turned_back" 58) rfl
  have g_turned_back : mg "turned_back" = some (.ref (He.ga K "turned_back")) := He.glo_ok X G (d.fact 41 (f := .glo "turned_back") rfl)
  obtain ⟨d_scaled, F_scaled⟩ := d.def_ 42 (d := dd "scaled" 59) rfl
  have g_scaled : mg "scaled" = some (.ref (He.ga K "scaled")) := He.glo_ok X G (d.fact 42 (f := .glo "scaled") rfl)
  obtain ⟨d_is_real, F_is_real⟩ := d.def_ 43 (d := dd "is_real" 60) rfl
  have g_is_real : mg "is_real" = some (.ref (He.ga K "is_real")) := He.glo_ok X G (d.fact 43 (f := .glo "is_real") rfl)
  obtain ⟨d_root, F_root⟩ := d.def_ 44 (d := dd "root" 61) rfl
  have g_root : mg "root" = some (.ref (He.ga K "root")) := He.glo_ok X G (d.fact 44 (f := .glo "root") rfl)
  obtain ⟨d_rows_of_kin, F_rows_of_kin⟩ := d.def_ 45 (d := dd "rows_of_kin" 63) rfl
  have g_rows_of_kin : mg "rows_of_kin" = some (.ref (He.ga K "rows_of_kin")) := He.glo_ok X G (d.fact 45 (f := .glo "rows_of_kin") rfl)
  obtain ⟨d_kin_of, F_kin_of⟩ := d.def_ 46 (d := dd "kin_of" 64) rfl
  have g_kin_of : mg "kin_of" = some (.ref (He.ga K "kin_of")) := He.glo_ok X G (d.fact 46 (f := .glo "kin_of") rfl)
  obtain ⟨d_trace_of, F_trace_of⟩ := d.def_ 47 (d := dd "trace_of" 65) rfl
  have g_trace_of : mg "trace_of" = some (.ref (He.ga K "trace_of")) := He.glo_ok X G (d.fact 47 (f := .glo "trace_of") rfl)
  obtain ⟨d_kin, F_kin⟩ := d.def_ 48 (d := dd "kin" 67) rfl
  have g_kin : mg "kin" = some (.ref (He.ga K "kin")) := He.glo_ok X G (d.fact 48 (f := .glo "kin") rfl)
  obtain ⟨d_trace, F_trace⟩ := d.def_ 49 (d := dd "trace" 68) rfl
  have g_trace : mg "trace" = some (.ref (He.ga K "trace")) := He.glo_ok X G (d.fact 49 (f := .glo "trace") rfl)
  obtain ⟨d_law_bowl, F_law_bowl⟩ := d.def_ 50 (d := dd "_law_bowl" 70) rfl
  have g_law_bowl : mg "_law_bowl" = some (.ref (He.ga K "_law_bowl")) := He.glo_ok X G (d.fact 50 (f := .glo "_law_bowl") rfl)
  obtain ⟨d_law_draw, F_law_draw⟩ := d.def_ 51 (d := dd "_law_draw" 71) rfl
  have g_law_draw : mg "_law_draw" = some (.ref (He.ga K "_law_draw")) := He.glo_ok X G (d.fact 51 (f := .glo "_law_draw") rfl)
  obtain ⟨d_law_of, F_law_of⟩ := d.def_ 52 (d := dd "_law_of" 72) rfl
  have g_law_of : mg "_law_of" = some (.ref (He.ga K "_law_of")) := He.glo_ok X G (d.fact 52 (f := .glo "_law_of") rfl)
  obtain ⟨d_law_same, F_law_same⟩ := d.def_ 53 (d := dd "_law_same" 73) rfl
  have g_law_same : mg "_law_same" = some (.ref (He.ga K "_law_same")) := He.glo_ok X G (d.fact 53 (f := .glo "_law_same") rfl)
  obtain ⟨d_law_gcd, F_law_gcd⟩ := d.def_ 54 (d := dd "_law_gcd" 74) rfl
  have g_law_gcd : mg "_law_gcd" = some (.ref (He.ga K "_law_gcd")) := He.glo_ok X G (d.fact 54 (f := .glo "_law_gcd") rfl)
  obtain ⟨d_law_fraction, F_law_fraction⟩ := d.def_ 55 (d := dd "_law_fraction" 75) rfl
  have g_law_fraction : mg "_law_fraction" = some (.ref (He.ga K "_law_fraction")) := He.glo_ok X G (d.fact 55 (f := .glo "_law_fraction") rfl)
  obtain ⟨d_law_primes, F_law_primes⟩ := d.def_ 56 (d := dd "_law_primes" 76) rfl
  have g_law_primes : mg "_law_primes" = some (.ref (He.ga K "_law_primes")) := He.glo_ok X G (d.fact 56 (f := .glo "_law_primes") rfl)
  obtain ⟨d_law_degree, F_law_degree⟩ := d.def_ 57 (d := dd "_law_degree" 77) rfl
  have g_law_degree : mg "_law_degree" = some (.ref (He.ga K "_law_degree")) := He.glo_ok X G (d.fact 57 (f := .glo "_law_degree") rfl)
  obtain ⟨d_law_spread, F_law_spread⟩ := d.def_ 58 (d := dd "_law_spread" 79) rfl
  have g_law_spread : mg "_law_spread" = some (.ref (He.ga K "_law_spread")) := He.glo_ok X G (d.fact 58 (f := .glo "_law_spread") rfl)
  obtain ⟨d_law_divided, F_law_divided⟩ := d.def_ 59 (d := dd "_law_divided" 80) rfl
  have g_law_divided : mg "_law_divided" = some (.ref (He.ga K "_law_divided")) := He.glo_ok X G (d.fact 59 (f := .glo "_law_divided") rfl)
  obtain ⟨d_law_polynomial, F_law_polynomial⟩ := d.def_ 60 (d := dd "_law_polynomial" 78) rfl
  have g_law_polynomial : mg "_law_polynomial" = some (.ref (He.ga K "_law_polynomial")) := He.glo_ok X G (d.fact 60 (f := .glo "_law_polynomial") rfl)
  obtain ⟨d_law_parts, F_law_parts⟩ := d.def_ 61 (d := dd "_law_parts" 81) rfl
  have g_law_parts : mg "_law_parts" = some (.ref (He.ga K "_law_parts")) := He.glo_ok X G (d.fact 61 (f := .glo "_law_parts") rfl)
  obtain ⟨d_law_down, F_law_down⟩ := d.def_ 62 (d := dd "_law_down" 82) rfl
  have g_law_down : mg "_law_down" = some (.ref (He.ga K "_law_down")) := He.glo_ok X G (d.fact 62 (f := .glo "_law_down") rfl)
  obtain ⟨d_law_lifted, F_law_lifted⟩ := d.def_ 63 (d := dd "_law_lifted" 83) rfl
  have g_law_lifted : mg "_law_lifted" = some (.ref (He.ga K "_law_lifted")) := He.glo_ok X G (d.fact 63 (f := .glo "_law_lifted") rfl)
  obtain ⟨d_law_form, F_law_form⟩ := d.def_ 64 (d := dd "_law_form" 84) rfl
  have g_law_form : mg "_law_form" = some (.ref (He.ga K "_law_form")) := He.glo_ok X G (d.fact 64 (f := .glo "_law_form") rfl)
  obtain ⟨d_law_row, F_law_row⟩ := d.def_ 65 (d := dd "_law_row" 85) rfl
  have g_law_row : mg "_law_row" = some (.ref (He.ga K "_law_row")) := He.glo_ok X G (d.fact 65 (f := .glo "_law_row") rfl)
  obtain ⟨d_law_both, F_law_both⟩ := d.def_ 66 (d := dd "_law_both" 86) rfl
  have g_law_both : mg "_law_both" = some (.ref (He.ga K "_law_both")) := He.glo_ok X G (d.fact 66 (f := .glo "_law_both") rfl)
  obtain ⟨d_law_added, F_law_added⟩ := d.def_ 67 (d := dd "_law_added" 87) rfl
  have g_law_added : mg "_law_added" = some (.ref (He.ga K "_law_added")) := He.glo_ok X G (d.fact 67 (f := .glo "_law_added") rfl)
  obtain ⟨d_law_scaled, F_law_scaled⟩ := d.def_ 68 (d := dd "_law_scaled" 88) rfl
  have g_law_scaled : mg "_law_scaled" = some (.ref (He.ga K "_law_scaled")) := He.glo_ok X G (d.fact 68 (f := .glo "_law_scaled") rfl)
  obtain ⟨d_law_root, F_law_root⟩ := d.def_ 69 (d := dd "_law_root" 89) rfl
  have g_law_root : mg "_law_root" = some (.ref (He.ga K "_law_root")) := He.glo_ok X G (d.fact 69 (f := .glo "_law_root") rfl)
  obtain ⟨d_law_right, F_law_right⟩ := d.def_ 70 (d := dd "_law_right" 90) rfl
  have g_law_right : mg "_law_right" = some (.ref (He.ga K "_law_right")) := He.glo_ok X G (d.fact 70 (f := .glo "_law_right") rfl)
  obtain ⟨d_law, F_law⟩ := d.def_ 71 (d := dd "law" 91) rfl
  have e := hfa.symm.trans (He.glo_ok X G (d.fact 71 (f := .glo "law") rfl))
  cases e
  obtain ⟨d_Field_reduced, F_Field_reduced⟩ := d.def_ 72 (d := dm "Field" "reduced" "Field.reduced" 17 1) rfl
  have m_Field_reduced := He.meth_ok (d.fact 98 (f := .meth "Field" "reduced") rfl)
  obtain ⟨d_Field_turned, F_Field_turned⟩ := d.def_ 73 (d := dm "Field" "turned" "Field.turned" 17 3) rfl
  have m_Field_turned := He.meth_ok (d.fact 99 (f := .meth "Field" "turned") rfl)
  obtain ⟨d_Field_power, F_Field_power⟩ := d.def_ 74 (d := dm "Field" "power" "Field.power" 17 2) rfl
  have m_Field_power := He.meth_ok (d.fact 100 (f := .meth "Field" "power") rfl)
  obtain ⟨d_Field_kin, F_Field_kin⟩ := d.def_ 75 (d := dm "Field" "kin" "Field.kin" 17 5) rfl
  have m_Field_kin := He.meth_ok (d.fact 101 (f := .meth "Field" "kin") rfl)
  obtain ⟨d_Field_back, F_Field_back⟩ := d.def_ 76 (d := dm "Field" "back" "Field.back" 17 4) rfl
  have m_Field_back := He.meth_ok (d.fact 102 (f := .meth "Field" "back") rfl)
  obtain ⟨d_Field_product, F_Field_product⟩ := d.def_ 77 (d := dm "Field" "product" "Field.product" 17 6) rfl
  have m_Field_product := He.meth_ok (d.fact 103 (f := .meth "Field" "product") rfl)
  obtain ⟨d_Field_lifted, F_Field_lifted⟩ := d.def_ 78 (d := dm "Field" "lifted" "Field.lifted" 17 7) rfl
  have m_Field_lifted := He.meth_ok (d.fact 104 (f := .meth "Field" "lifted") rfl)
  obtain ⟨d_Field___init, F_Field___init⟩ := d.def_ 79 (d := dm "Field" "__init__" "Field.__init__" 17 0) rfl
  have b := F_law.bindsA (ps := ["script"]) fun _ _ _ _ _ _ us hl => match us, hl with | [_], _ => rfl
  refine ⟨d_law, spR K 1 r_law, fun s u => b s [u] rfl, fun H a ns hl _ hS => ?_, fun base hKb hNs => ?_⟩
  · obtain ⟨c', e⟩ := law_run right_ok ns hl
    refine ⟨[], [.frz ns], Ch.nil, nil_relH, .cons (.frz (frz_of hS)) .nil, rfl, ?_⟩
    rw [e]
    intro v H' ρ' _ _ rv
    cases rv
    rfl
  have h_law_bowl := ok__law_bowl (P := PW) (w := w) (base := base) B F_law_bowl g_law_bowl 
  have h_law_gcd := (ok__law_gcd (P := PW) (w := w) (base := base) B F_law_gcd g_law_gcd ).imp gcd_imp
  have h_law_both := ok__law_both (P := PW) (w := w) (base := base) B F_law_both g_law_both h_law_gcd
  have h_law_down := ok__law_down (P := PW) (w := w) (base := base) B F_law_down g_law_down 
  have h_law_fraction := ok__law_fraction (P := PW) (w := w) (base := base) B F_law_fraction g_law_fraction h_law_gcd
  have h_law_lifted := ok__law_lifted (P := PW) (w := w) (base := base) B F_law_lifted g_law_lifted 
  have h_law_degree := ok__law_degree (P := PW) (w := w) (base := base) B F_law_degree g_law_degree h_law_gcd
  have h_law_divided := ok__law_divided (P := PW) (w := w) (base := base) B F_law_divided g_law_divided 
  have h_law_primes := ok__law_primes (P := PW) (w := w) (base := base) B F_law_primes g_law_primes 
  have h_law_spread := ok__law_spread (P := PW) (w := w) (base := base) B F_law_spread g_law_spread 
  have h_law_polynomial := ok__law_polynomial (P := PW) (w := w) (base := base) B F_law_polynomial g_law_polynomial h_law_divided h_law_primes h_law_spread
  have h_law_parts := ok__law_parts (P := PW) (w := w) (base := base) B F_law_parts g_law_parts h_law_degree h_law_divided h_law_polynomial
  have h_law_form := ok__law_form (P := PW) (w := w) (base := base) B F_law_form g_law_form h_law_down h_law_fraction h_law_lifted h_law_parts h_law_primes
  have h_law_row := ok__law_row (P := PW) (w := w) (base := base) B F_law_row g_law_row h_law_gcd
  have h_law_added := ok__law_added (P := PW) (w := w) (base := base) B F_law_added g_law_added h_law_both h_law_form h_law_row
  have h_law_draw := ok__law_draw (P := PW) (w := w) (base := base) B F_law_draw g_law_draw 
  have h_law_of := ok__law_of (P := PW) (w := w) (base := base) B F_law_of g_law_of h_law_draw
  have h_law_root := ok__law_root (P := PW) (w := w) (base := base) B F_law_root g_law_root h_law_form
  have h_law_same := ok__law_same (P := PW) (w := w) (base := base) B F_law_same g_law_same  6
  have h_law_scaled := ok__law_scaled (P := PW) (w := w) (base := base) B F_law_scaled g_law_scaled h_law_fraction
  have h_multiple := ok_multiple (P := PW) (w := w) (base := base) B F_multiple g_multiple 
  have h_both_orders := ok_both_orders (P := PW) (w := w) (base := base) B F_both_orders g_both_orders h_multiple
  have h_is_prime := ok_is_prime (P := PW) (w := w) (base := base) B F_is_prime g_is_prime 
  have h_primes_of := ok_primes_of (P := PW) (w := w) (base := base) B F_primes_of g_primes_of h_is_prime
  have h_products_of := ok_products_of (P := PW) (w := w) (base := base) B F_products_of g_products_of 
  have h_with_one := ok_with_one (P := PW) (w := w) (base := base) B F_with_one g_with_one 
  have h_without_one := ok_without_one (P := PW) (w := w) (base := base) B F_without_one g_without_one 
  have h_polynomial_by := ok_polynomial_by (P := PW) (w := w) (base := base) B F_polynomial_by g_polynomial_by h_primes_of h_products_of h_with_one h_without_one
  have hc_Field := hasC_Field (P := PW) (w := w) (base := base) B F_Field___init h_polynomial_by (He.mkr_ok (d.fact 94 (f := .mkr "Field") rfl)) (He.glo_ok X G (d.fact 72 (f := .glo "Field") rfl))
  have h_is_row_of := ok_is_row_of (P := PW) (w := w) (base := base) B F_is_row_of g_is_row_of 
  have h_is_whole := ok_is_whole (P := PW) (w := w) (base := base) B F_is_whole g_is_whole 
  have h_is_fraction := ok_is_fraction (P := PW) (w := w) (base := base) B F_is_fraction g_is_fraction h_is_row_of h_is_whole
  have h_is_from := ok_is_from (P := PW) (w := w) (base := base) B F_is_from g_is_from h_is_whole
  have h_is_order := ok_is_order (P := PW) (w := w) (base := base) B F_is_order g_is_order h_is_from
  have h_undone := ok_undone (P := PW) (w := w) (base := base) B F_undone g_undone 
  have h_moved := ok_moved (P := PW) (w := w) (base := base) B F_moved g_moved 
  have h_Field_reduced := ok_Field_reduced (P := PW) (w := w) (base := base) B F_Field_reduced m_Field_reduced h_moved
  have h_by_odd := ok_by_odd (P := PW) (w := w) (base := base) B F_by_odd g_by_odd h_undone h_Field_reduced hc_Field
  have h_by_square := ok_by_square (P := PW) (w := w) (base := base) B F_by_square g_by_square 
  have h_by_two := ok_by_two (P := PW) (w := w) (base := base) B F_by_two g_by_two h_Field_reduced hc_Field
  have h_lowered := ok_lowered (P := PW) (w := w) (base := base) B F_lowered g_lowered h_by_odd h_by_square h_by_two h_primes_of
  have h_lowest := ok_lowest (P := PW) (w := w) (base := base) B F_lowest g_lowest h_lowered
  have h_wholes_of := ok_wholes_of (P := PW) (w := w) (base := base) B F_wholes_of g_wholes_of h_multiple
  have h_is_number_by := ok_is_number_by (P := PW) (w := w) (base := base) B F_is_number_by g_is_number_by h_is_fraction h_is_order h_is_row_of h_lowest h_wholes_of hc_Field
  have h_check_number := ok_check_number (P := PW) (w := w) (base := base) B F_check_number g_check_number h_is_number_by
  have h_check_both := ok_check_both (P := PW) (w := w) (base := base) B F_check_both g_check_both h_both_orders h_check_number
  have h_Field_lifted := ok_Field_lifted (P := PW) (w := w) (base := base) B F_Field_lifted m_Field_lifted h_moved h_Field_reduced
  have h_at := ok_at (P := PW) (w := w) (base := base) B F_at g_at h_wholes_of h_Field_lifted
  have h_both_rows := ok_both_rows (P := PW) (w := w) (base := base) B F_both_rows g_both_rows h_at h_both_orders h_multiple hc_Field
  have h_fraction_of := ok_fraction_of (P := PW) (w := w) (base := base) B F_fraction_of g_fraction_of 
  have h_parts_of := ok_parts_of (P := PW) (w := w) (base := base) B F_parts_of g_parts_of h_fraction_of
  have h_least := ok_least (P := PW) (w := w) (base := base) B F_least g_least h_lowest h_parts_of
  have h_sum_of := ok_sum_of (P := PW) (w := w) (base := base) B F_sum_of g_sum_of h_both_rows h_least
  have h_added := ok_added (P := PW) (w := w) (base := base) B F_added g_added h_check_both h_sum_of
  have h_is_number := ok_is_number (P := PW) (w := w) (base := base) B F_is_number g_is_number h_is_number_by
  have h_Field_kin := ok_Field_kin (P := PW) (w := w) (base := base) B F_Field_kin m_Field_kin h_moved h_Field_reduced
  have h_Field_back := ok_Field_back (P := PW) (w := w) (base := base) B F_Field_back m_Field_back h_Field_kin
  have h_back_of := ok_back_of (P := PW) (w := w) (base := base) B F_back_of g_back_of h_at h_least h_Field_back hc_Field
  have h_turned_back := ok_turned_back (P := PW) (w := w) (base := base) B F_turned_back g_turned_back h_back_of h_check_number
  have h_is_real := ok_is_real (P := PW) (w := w) (base := base) B F_is_real g_is_real h_turned_back
  have h_rows_of_kin := ok_rows_of_kin (P := PW) (w := w) (base := base) B F_rows_of_kin g_rows_of_kin h_at h_Field_kin hc_Field
  have h_kin_of := ok_kin_of (P := PW) (w := w) (base := base) B F_kin_of g_kin_of h_parts_of h_rows_of_kin
  have h_kin := ok_kin (P := PW) (w := w) (base := base) B F_kin g_kin h_check_number h_kin_of
  have h_difference_of := ok_difference_of (P := PW) (w := w) (base := base) B F_difference_of g_difference_of h_both_rows h_least
  have h_less := ok_less (P := PW) (w := w) (base := base) B F_less g_less h_check_both h_difference_of
  have h_check_order := ok_check_order (P := PW) (w := w) (base := base) B F_check_order g_check_order h_is_order
  have h_Field_turned := ok_Field_turned (P := PW) (w := w) (base := base) B F_Field_turned m_Field_turned h_Field_reduced
  have h_Field_power := ok_Field_power (P := PW) (w := w) (base := base) B F_Field_power m_Field_power h_Field_turned
  have h_root_of := ok_root_of (P := PW) (w := w) (base := base) B F_root_of g_root_of h_least h_Field_power hc_Field
  have h_root := ok_root (P := PW) (w := w) (base := base) B F_root g_root h_check_order h_is_whole h_root_of
  have h_least_parts := ok_least_parts (P := PW) (w := w) (base := base) B F_least_parts g_least_parts h_least h_wholes_of hc_Field
  have h_scaled_by := ok_scaled_by (P := PW) (w := w) (base := base) B F_scaled_by g_scaled_by h_fraction_of h_least_parts
  have h_scaled := ok_scaled (P := PW) (w := w) (base := base) B F_scaled g_scaled h_check_number h_is_fraction h_scaled_by
  have h_Field_product := (ok_Field_product (P := PW) (w := w) (base := base) B F_Field_product m_Field_product h_Field_reduced).apart.imp prod_imp
  have h_product_of := ok_product_of (P := PW) (w := w) (base := base) B F_product_of g_product_of h_both_rows h_least h_Field_product
  have h_times := ok_times (P := PW) (w := w) (base := base) B F_times g_times h_check_both h_product_of
  have h_trace_of := ok_trace_of (P := PW) (w := w) (base := base) B F_trace_of g_trace_of h_fraction_of h_rows_of_kin
  have h_trace := ok_trace (P := PW) (w := w) (base := base) B F_trace g_trace h_check_number h_trace_of
  have h_law_right := ok__law_right (P := PW) (w := w) (base := base) B F_law_right g_law_right h_law_added h_law_of h_law_root h_law_same h_law_scaled h_added h_is_number h_is_real h_kin h_less h_root h_scaled h_times h_trace h_turned_back
  exact fok_law (P := PW) (w := w) (base := base) B F_law h_law_bowl h_law_right
end
end Hd
open PySem PySem.W PySem.Calls PyProof.Rows
theorem PySem.Challenge.cw_rollrings_k16_sums_of_roots_over_squares_holds : PySem.Challenge.rw_rollrings_k16_sums_of_roots_over_squares.Holds := by
  w_on; o_law
  o_head Hd.hk
  case hw => w_witness2
  case hc =>
    refine L2.walk_ofE (l := PySem.Challenge.rw_rollrings_k16_sums_of_roots_over_squares) (n := 63) (k := 14) (x := "script") (CX := L2.CX0) rfl (by decide) (by kernel_rfl) ⟨rfl, by decide, by decide⟩ ?F (fun _ _ _ _ z => z)
    intro w mg fa h Y G hmg0
    obtain ⟨K, KX, c⟩ := Y
    have hmg : mg ("law" : PySem.Str) = some (.ref fa) := by
      exact hmg0
    obtain ⟨fd, sp, q⟩ := Hd.facts KX G hmg c
    exact ⟨K, fd, sp, KX, q⟩

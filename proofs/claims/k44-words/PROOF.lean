import PyProof.Rows.All
import Wide.All
import OpenK.AllK
import Wide.FinOn
import HandS.ForMost
import HandS.Exc
import HandS.TryOnly
import HandS.IsInst
import HandS.Flow
import HandS.ExcOwn
import HandS.CallSlots
import HandS.TupAny
import HandS.Deep
import HandS.Steps
import HandS.WordsExc
import HandS.Replace
import PyProof.ToksMono
import HandS.Defaults
import HandS.ReplaceLit
import HandS.Comp
import HandS.Text
import HandS.Base
import HandS.Call
import HandS.Ends
import HandS.HeadEnd
import KE.KStateDown
import HandS.Head0
import Lean
import HandS.More
import HandS.Words
import HandS.Head1
import HandS.Head2
import HandS.HeadHook1
import HandS.HeadHook2
import HandS.HeadHook3
import HandS.HeadHook4
import PySem.Challenge.RW_lentonce_k44_words_of_texts
set_option Elab.async false
set_option linter.all false
set_option maxRecDepth 100000
set_option maxHeartbeats 4000000
/-! A shallow embedding over the hand layer: values without addresses (tuples, frozen lists), owned containers in slots, objects by numbers; what stands for what, and what a step may change. -/
namespace Mi
open PySem PySem.Spec PyProof.Rows L2

/-- values without addresses; rol: a list that is only read (the script); obj: an object of the small heap, by its number -/
inductive W where
  | non | bl (b : Bool) | int (i : Int) | str (s : Str) | tup (xs : List W) | lst (xs : List W) | rol (xs : List W) | dic (ks : List Key) (ws : List W) | obj (k : Nat)
/-- a small int; told so that the kernel never counts down from a literal -/
abbrev Sm (j : Int) : Prop := j.natAbs < 4611686018427387904
theorem sm62 {j : Int} (h : Sm j) : -(2 ^ 62) ≤ j ∧ j < 2 ^ 62 := by
  have e : (2 : Int) ^ 62 = 4611686018427387904 := by decide +kernel
  have h' : j.natAbs < 4611686018427387904 := h
  rw [e]
  omega
theorem sm63 {j : Int} (h : Sm j) : -(2 ^ 63) ≤ j ∧ j < 2 ^ 63 := by
  have e : (2 : Int) ^ 63 = 9223372036854775808 := by decide +kernel
  have h' : j.natAbs < 4611686018427387904 := h
  rw [e]
  omega
theorem sm64 {j : Int} (h : j.natAbs < 18446744073709551616) : -(2 ^ 64) < j ∧ j < 2 ^ 64 := by
  have e : (2 : Int) ^ 64 = 18446744073709551616 := by decide +kernel
  rw [e]
  omega
/-- a slot: nothing known, a value, a container that nothing else refers to -/
inductive Sl where
  | un | val (w : W) | own (w : W)
/-- an object with an identity -/
inductive MO where
  | dct (ks : List Key) (ws : List W)
structure Sta where
  ws : List Sl
  h : List MO
/-- an exception of an own class: its class by number, its fields -/
structure Exc where
  c : Nat
  ks : List Str
  ws : List W
inductive M (α : Type) where
  | ok (a : α) | exc (x : Exc) (s : Sta) | no
@[reducible] def M.bind {α β : Type} (m : M α) (f : α → M β) : M β := match m with
  | .ok a => f a
  | .exc x s => .exc x s
  | .no => .no
/-- what an expression gives: a value, or a container that was just made -/
inductive R where
  | w (x : W) | fr (x : W)
def R.val : R → W
  | .w x => x
  | .fr x => x

structure Ctx where
  K : PySem.W.Frag
  C : Nat → Addr

/-! ### what stands for what -/
def TV (K : PySem.W.Frag) (H : Hp) (B : Addr → Prop) (p : Addr) (vs : List V) : Prop := (Rd H p (.tup vs) ∧ ¬ B p) ∨ SqT K (fun _ => none) p vs
def LV (K : PySem.W.Frag) (H : Hp) (B : Addr → Prop) (p : Addr) (vs : List V) : Prop := (Rd H p (.lst vs) ∧ ¬ B p) ∨ SqL K (fun _ => none) p vs
def DV (H : Hp) (B : Addr → Prop) (p : Addr) (kvs : List (Key × V)) : Prop := H p = some (.dK kvs) ∧ ¬ B p
theorem TV.sq {K : PySem.W.Frag} {H : Hp} {B : Addr → Prop} {p : Addr} {vs : List V} (h : TV K H B p vs) : SqT K H p vs := by
  rcases h with ⟨h, _⟩ | h
  · exact .inl h
  · rcases h with (h | ⟨_, h⟩) | h
    · cases h
    · cases h
    · exact .inr h
theorem LV.sq {K : PySem.W.Frag} {H : Hp} {B : Addr → Prop} {p : Addr} {vs : List V} (h : LV K H B p vs) : SqL K H p vs := by
  rcases h with ⟨h, _⟩ | h
  · exact .inl h
  · rcases h with (h | ⟨_, h⟩) | h
    · cases h
    · cases h
    · exact .inr h
mutual
def RV (K : PySem.W.Frag) (ρ : List Addr) (H : Hp) (B : Addr → Prop) : W → V → Prop
  | .non, v => v = .non
  | .bl b, v => v = .bl b
  | .int i, v => v = .int i
  | .str s, v => v = .str s
  | .tup xs, v => ∃ p vs, v = .ref p ∧ TV K H B p vs ∧ RVs K ρ H B xs vs
  | .lst xs, v => ∃ p vs, v = .ref p ∧ (H p = some (.lst vs) ∧ ¬ B p) ∧ RVs K ρ H B xs vs
  | .rol xs, v => ∃ p vs, v = .ref p ∧ LV K H B p vs ∧ RVs K ρ H B xs vs
  | .dic ks xs, v => ∃ p vs, v = .ref p ∧ DV H B p (ks.zip vs) ∧ ks.length = xs.length ∧ RVs K ρ H B xs vs
  | .obj k, v => ∃ a, ρ[k]? = some a ∧ v = .ref a
def RVs (K : PySem.W.Frag) (ρ : List Addr) (H : Hp) (B : Addr → Prop) : List W → List V → Prop
  | [], vs => vs = []
  | w :: ws, vs => ∃ v r, vs = v :: r ∧ RV K ρ H B w v ∧ RVs K ρ H B ws r
end
section
variable {K : PySem.W.Frag} {ρ ρ' : List Addr} {H H' : Hp} {B B' : Addr → Prop}
theorem Rd.mono {p : Addr} {u : HO} (hk : ∀ p o, H p = some o → ¬ B p → H' p = some o) (h : Rd H p u) (n : ¬ B p) : Rd H' p u := by
  rcases h with h | ⟨o, h⟩
  · exact .inl (hk _ _ h n)
  · exact .inr ⟨o, hk _ _ h n⟩
theorem Rd.ne {p : Addr} {u : HO} (h : Rd H p u) : H p ≠ none := by
  rcases h with h | ⟨o, h⟩ <;> (rw [h]; intro z; cases z)
mutual
theorem RV.mono (hρ : ∃ m, ρ' = ρ ++ m) (hk : ∀ p o, H p = some o → ¬ B p → H' p = some o) (hB : ∀ p, ¬ B p → H p ≠ none → ¬ B' p) : ∀ (w : W) (v : V), RV K ρ H B w v → RV K ρ' H' B' w v
  | .non, _, h => h
  | .bl _, _, h => h
  | .int _, _, h => h
  | .str _, _, h => h
  | .tup xs, v, h => by
    obtain ⟨p, vs, e, t, r⟩ := h
    refine ⟨p, vs, e, ?_, RVs.mono hρ hk hB xs vs r⟩
    rcases t with ⟨t, n⟩ | t
    · exact .inl ⟨Rd.mono hk t n, hB p n (Rd.ne t)⟩
    · exact .inr t
  | .lst xs, v, h => by
    obtain ⟨p, vs, e, ⟨t, n⟩, r⟩ := h
    exact ⟨p, vs, e, ⟨hk _ _ t n, hB p n (by rw [t]; intro z; cases z)⟩, RVs.mono hρ hk hB xs vs r⟩
  | .rol xs, v, h => by
    obtain ⟨p, vs, e, t, r⟩ := h
    refine ⟨p, vs, e, ?_, RVs.mono hρ hk hB xs vs r⟩
    rcases t with ⟨t, n⟩ | t
    · exact .inl ⟨Rd.mono hk t n, hB p n (Rd.ne t)⟩
    · exact .inr t
  | .dic ks xs, v, h => by
    obtain ⟨p, vs, e, ⟨t, n⟩, l, r⟩ := h
    exact ⟨p, vs, e, ⟨hk _ _ t n, hB p n (by rw [t]; intro z; cases z)⟩, l, RVs.mono hρ hk hB xs vs r⟩
  | .obj k, v, h => by
    obtain ⟨a, e, r⟩ := h
    obtain ⟨m, rfl⟩ := hρ
    exact ⟨a, by rw [List.getElem?_append_left (List.getElem?_eq_some_iff.mp e).1]; exact e, r⟩
theorem RVs.mono (hρ : ∃ m, ρ' = ρ ++ m) (hk : ∀ p o, H p = some o → ¬ B p → H' p = some o) (hB : ∀ p, ¬ B p → H p ≠ none → ¬ B' p) : ∀ (ws : List W) (vs : List V), RVs K ρ H B ws vs → RVs K ρ' H' B' ws vs
  | [], _, h => h
  | w :: ws, vs, h => by
    obtain ⟨v, r, e, a, b⟩ := h
    exact ⟨v, r, e, RV.mono hρ hk hB w v a, RVs.mono hρ hk hB ws r b⟩
end
theorem RVs.length : ∀ {ws : List W} {vs : List V}, RVs K ρ H B ws vs → ws.length = vs.length
  | [], _, h => by
    have h' : _ = [] := h
    rw [h'] <;> rfl
  | w :: ws, vs, h => by
    obtain ⟨v, r, rfl, _, b⟩ := h
    rw [List.length_cons, List.length_cons, RVs.length b]
theorem RVs.get : ∀ {ws : List W} {vs : List V} {i : Nat} {w : W}, RVs K ρ H B ws vs → ws[i]? = some w → ∃ v, vs[i]? = some v ∧ RV K ρ H B w v
  | [], _, i, w, _, e => by cases i <;> cases e
  | x :: ws, vs, 0, w, h, e => by
    obtain ⟨v, r, rfl, a, _⟩ := h
    cases e
    exact ⟨v, rfl, a⟩
  | x :: ws, vs, i + 1, w, h, e => by
    obtain ⟨v, r, rfl, _, b⟩ := h
    obtain ⟨u, h1, h2⟩ := RVs.get (i := i) (w := w) b (by simpa using e)
    exact ⟨u, by simpa using h1, h2⟩
theorem RVs.getV : ∀ {ws : List W} {vs : List V} {i : Nat} {v : V}, RVs K ρ H B ws vs → vs[i]? = some v → ∃ w, ws[i]? = some w ∧ RV K ρ H B w v
  | [], vs, i, v, h, e => by
    have h' : vs = [] := h
    rw [h'] at e
    cases e
  | x :: ws, vs, 0, v, h, e => by
    obtain ⟨u, r, rfl, a, _⟩ := h
    cases e
    exact ⟨x, rfl, a⟩
  | x :: ws, vs, i + 1, v, h, e => by
    obtain ⟨u, r, rfl, _, b⟩ := h
    obtain ⟨w, h1, h2⟩ := RVs.getV (i := i) (v := v) b (by simpa using e)
    exact ⟨w, by simpa using h1, h2⟩
theorem RVs.append : ∀ {ws us : List W} {vs xs : List V}, RVs K ρ H B ws vs → RVs K ρ H B us xs → RVs K ρ H B (ws ++ us) (vs ++ xs)
  | [], us, vs, xs, h, g => by
    have h' : vs = [] := h
    rw [h']
    exact g
  | w :: ws, us, vs, xs, h, g => by
    obtain ⟨v, r, rfl, a, b⟩ := h
    exact ⟨v, r ++ xs, rfl, a, RVs.append b g⟩
theorem RVs.one {w : W} {v : V} (h : RV K ρ H B w v) : RVs K ρ H B [w] [v] := ⟨v, [], rfl, h, rfl⟩
theorem RVs.take : ∀ {ws : List W} {vs : List V} (n : Nat), RVs K ρ H B ws vs → RVs K ρ H B (ws.take n) (vs.take n)
  | ws, vs, 0, _ => by
    rw [List.take_zero, List.take_zero]
    exact rfl
  | [], vs, n + 1, h => by
    have h' : vs = [] := h
    rw [h']
    exact rfl
  | w :: ws, vs, n + 1, h => by
    obtain ⟨v, r, rfl, a, b⟩ := h
    exact ⟨v, r.take n, rfl, a, RVs.take n b⟩
theorem RVs.drop : ∀ {ws : List W} {vs : List V} (n : Nat), RVs K ρ H B ws vs → RVs K ρ H B (ws.drop n) (vs.drop n)
  | ws, vs, 0, h => h
  | [], vs, n + 1, h => by
    have h' : vs = [] := h
    rw [h']
    exact rfl
  | w :: ws, vs, n + 1, h => by
    obtain ⟨v, r, rfl, a, b⟩ := h
    exact RVs.drop n b
theorem RVs.set {w : W} {v : V} (hw : RV K ρ H B w v) : ∀ {ws : List W} {vs : List V} (i : Nat), RVs K ρ H B ws vs → RVs K ρ H B (ws.set i w) (vs.set i v)
  | [], vs, i, h => by
    have h' : vs = [] := h
    rw [h']
    exact rfl
  | x :: ws, vs, 0, h => by
    obtain ⟨u, r, rfl, _, b⟩ := h
    exact ⟨v, r, rfl, hw, b⟩
  | x :: ws, vs, i + 1, h => by
    obtain ⟨u, r, rfl, a, b⟩ := h
    exact ⟨u, r.set i v, rfl, a, RVs.set hw i b⟩
theorem RVs.eraseIdx : ∀ {ws : List W} {vs : List V} (i : Nat), RVs K ρ H B ws vs → RVs K ρ H B (ws.eraseIdx i) (vs.eraseIdx i)
  | [], vs, i, h => by
    have h' : vs = [] := h
    rw [h']
    exact rfl
  | x :: ws, vs, 0, h => by
    obtain ⟨u, r, rfl, _, b⟩ := h
    exact b
  | x :: ws, vs, i + 1, h => by
    obtain ⟨u, r, rfl, a, b⟩ := h
    exact ⟨u, r.eraseIdx i, rfl, a, RVs.eraseIdx i b⟩
theorem RVs.reverse : ∀ {ws : List W} {vs : List V}, RVs K ρ H B ws vs → RVs K ρ H B ws.reverse vs.reverse
  | [], vs, h => by
    have h' : vs = [] := h
    rw [h']
    exact rfl
  | w :: ws, vs, h => by
    obtain ⟨v, r, rfl, a, b⟩ := h
    rw [List.reverse_cons, List.reverse_cons]
    exact RVs.append (RVs.reverse b) (RVs.one a)

/-- the content of a container at p -/
def OR (K : PySem.W.Frag) (ρ : List Addr) (H : Hp) (B : Addr → Prop) : W → Addr → Prop
  | .lst xs, p => ∃ vs, H p = some (.lst vs) ∧ RVs K ρ H B xs vs
  | .dic ks xs, p => ∃ vs, H p = some (.dK (ks.zip vs)) ∧ ks.length = xs.length ∧ RVs K ρ H B xs vs
  | _, _ => False
theorem OR.mono {w : W} {p : Addr} (hρ : ∃ m, ρ' = ρ ++ m) (hk : ∀ p o, H p = some o → ¬ B p → H' p = some o) (hB : ∀ p, ¬ B p → H p ≠ none → ¬ B' p) (hp : H' p = H p) (h : OR K ρ H B w p) : OR K ρ' H' B' w p := by
  cases w with
  | lst xs =>
    obtain ⟨vs, e, r⟩ := h
    exact ⟨vs, hp.trans e, RVs.mono hρ hk hB _ _ r⟩
  | dic ks xs =>
    obtain ⟨vs, e, l, r⟩ := h
    exact ⟨vs, hp.trans e, l, RVs.mono hρ hk hB _ _ r⟩
  | non => cases h
  | bl => cases h
  | int => cases h
  | str => cases h
  | tup => cases h
  | rol => cases h
  | obj => cases h
theorem OR.ne {w : W} {p : Addr} (h : OR K ρ H B w p) : H p ≠ none := by
  cases w with
  | lst xs =>
    obtain ⟨vs, e, r⟩ := h
    rw [e]; intro z; cases z
  | dic ks xs =>
    obtain ⟨vs, e, l, r⟩ := h
    rw [e]; intro z; cases z
  | non => cases h
  | bl => cases h
  | int => cases h
  | str => cases h
  | tup => cases h
  | rol => cases h
  | obj => cases h
/-- frozen: no longer among what may change -/
theorem OR.rv {w : W} {p : Addr} (n : ¬ B p) (h : OR K ρ H B w p) : RV K ρ H B w (.ref p) := by
  cases w with
  | lst xs =>
    obtain ⟨vs, e, r⟩ := h
    exact ⟨p, vs, rfl, ⟨e, n⟩, r⟩
  | dic ks xs =>
    obtain ⟨vs, e, l, r⟩ := h
    exact ⟨p, vs, rfl, ⟨e, n⟩, l, r⟩
  | non => cases h
  | bl => cases h
  | int => cases h
  | str => cases h
  | tup => cases h
  | rol => cases h
  | obj => cases h
/-- an operand: as a value, or an owned container that is looked at -/
def RO (K : PySem.W.Frag) (ρ : List Addr) (H : Hp) (B : Addr → Prop) (w : W) (v : V) : Prop := RV K ρ H B w v ∨ ∃ p, v = .ref p ∧ OR K ρ H B w p
theorem RO.lst {xs : List W} {v : V} (h : RO K ρ H B (.lst xs) v) : ∃ p vs, v = .ref p ∧ H p = some (.lst vs) ∧ RVs K ρ H B xs vs := by
  rcases h with ⟨p, vs, e, l, r⟩ | ⟨p, e, vs, l, r⟩
  · exact ⟨p, vs, e, l.1, r⟩
  · exact ⟨p, vs, e, l, r⟩
theorem RO.rol {xs : List W} {v : V} (h : RO K ρ H B (.rol xs) v) : ∃ p vs, v = .ref p ∧ SqL K H p vs ∧ RVs K ρ H B xs vs := by
  rcases h with ⟨p, vs, e, l, r⟩ | ⟨p, e, h⟩
  · exact ⟨p, vs, e, l.sq, r⟩
  · cases h
theorem RO.tup {xs : List W} {v : V} (h : RO K ρ H B (.tup xs) v) : ∃ p vs, v = .ref p ∧ SqT K H p vs ∧ RVs K ρ H B xs vs := by
  rcases h with ⟨p, vs, e, l, r⟩ | ⟨p, e, h⟩
  · exact ⟨p, vs, e, l.sq, r⟩
  · cases h
theorem RO.int {i : Int} {v : V} (h : RO K ρ H B (.int i) v) : v = .int i := by
  rcases h with h | ⟨p, e, h⟩
  · exact h
  · cases h
theorem RO.str {i : Str} {v : V} (h : RO K ρ H B (.str i) v) : v = .str i := by
  rcases h with h | ⟨p, e, h⟩
  · exact h
  · cases h
theorem RO.bl {i : Bool} {v : V} (h : RO K ρ H B (.bl i) v) : v = .bl i := by
  rcases h with h | ⟨p, e, h⟩
  · exact h
  · cases h
theorem RO.non {v : V} (h : RO K ρ H B .non v) : v = .non := by
  rcases h with h | ⟨p, e, h⟩
  · exact h
  · cases h
theorem RO.dic {ks : List Key} {xs : List W} {v : V} (h : RO K ρ H B (.dic ks xs) v) : ∃ p vs, v = .ref p ∧ H p = some (.dK (ks.zip vs)) ∧ ks.length = xs.length ∧ RVs K ρ H B xs vs := by
  rcases h with ⟨p, vs, e, ⟨t, _⟩, l, r⟩ | ⟨p, e, vs, t, l, r⟩
  · exact ⟨p, vs, e, t, l, r⟩
  · exact ⟨p, vs, e, t, l, r⟩
def MR (K : PySem.W.Frag) (ρ : List Addr) (H : Hp) (B : Addr → Prop) : MO → Addr → Prop
  | .dct ks xs, p => ∃ vs, H p = some (.dK (ks.zip vs)) ∧ ks.length = xs.length ∧ RVs K ρ H B xs vs
theorem MR.mono {o : MO} {p : Addr} (hρ : ∃ m, ρ' = ρ ++ m) (hk : ∀ p o, H p = some o → ¬ B p → H' p = some o) (hB : ∀ p, ¬ B p → H p ≠ none → ¬ B' p) (hp : H' p = H p) (h : MR K ρ H B o p) : MR K ρ' H' B' o p := by
  cases o with
  | dct ks xs =>
    obtain ⟨vs, e, l, r⟩ := h
    exact ⟨vs, hp.trans e, l, RVs.mono hρ hk hB _ _ r⟩
theorem MR.ne {o : MO} {p : Addr} (h : MR K ρ H B o p) : H p ≠ none := by
  cases o with
  | dct ks xs =>
    obtain ⟨vs, e, l, r⟩ := h
    rw [e]; intro z; cases z
end

/-! ### the state -/
def Ow (ws : List Sl) (σ : L2.St) (p : Addr) : Prop := ∃ (i : Nat) (w : W), ws[i]? = some (Sl.own w) ∧ σ[i]? = some (some (V.ref p))
def Bd (P ρ : List Addr) (ws : List Sl) (σ : L2.St) (p : Addr) : Prop := p ∈ P ∨ p ∈ ρ ∨ Ow ws σ p
structure SR (K : PySem.W.Frag) (P ρ : List Addr) (S : Sta) (σ : L2.St) (H : Hp) : Prop where
  len : S.ws.length = σ.length
  vals : ∀ (i : Nat) (w : W), S.ws[i]? = some (.val w) → ∃ v, σ[i]? = some (some v) ∧ RV K ρ H (Bd P ρ S.ws σ) w v
  owns : ∀ (i : Nat) (w : W), S.ws[i]? = some (.own w) → ∃ p, σ[i]? = some (some (V.ref p)) ∧ OR K ρ H (Bd P ρ S.ws σ) w p ∧ p ∉ P ∧ p ∉ ρ ∧ ∀ (j : Nat) (w' : W), S.ws[j]? = some (.own w') → σ[j]? = some (some (V.ref p)) → j = i
  hlen : ρ.length = S.h.length
  nd : ρ.Nodup
  hp : ∀ (k : Nat) (o : MO), S.h[k]? = some o → ∃ a, ρ[k]? = some a ∧ MR K ρ H (Bd P ρ S.ws σ) o a
  pr : ∀ p ∈ P, H p ≠ none ∧ p ∉ ρ
section
variable {K : PySem.W.Frag} {P ρ ρ' ρ2 : List Addr} {S S' S2 : Sta} {σ σ' σ2 : L2.St} {H H' H2 : Hp} {ws ws' ws2 : List Sl}
theorem SR.some (h : SR K P ρ S σ H) {p : Addr} (b : Bd P ρ S.ws σ p) : H p ≠ none := by
  rcases b with b | b | ⟨i, w, e, f⟩
  · exact (h.pr p b).1
  · obtain ⟨k, hk, e⟩ := List.getElem_of_mem b
    have hk' : k < S.h.length := by rw [← h.hlen]; exact hk
    obtain ⟨a, ea, m⟩ := h.hp k _ (List.getElem?_eq_getElem hk')
    rw [List.getElem?_eq_getElem hk, e] at ea
    cases ea
    exact m.ne
  · obtain ⟨q, eq, o, _⟩ := h.owns i w e
    rw [f] at eq
    cases eq
    exact o.ne
/-- what a step may change -/
structure Tr (P ρ : List Addr) (ws : List Sl) (σ : L2.St) (H : Hp) (ρ' : List Addr) (ws' : List Sl) (σ' : L2.St) (H' : Hp) : Prop where
  keep : ∀ p o, H p = some o → (p ∈ P ∨ ¬ Bd P ρ ws σ p) → H' p = some o
  new : ∀ p, Bd P ρ' ws' σ' p → Bd P ρ ws σ p ∨ H p = none
  ext : ∃ m, ρ' = ρ ++ m
  there : ∀ p, H p ≠ none → H' p ≠ none
theorem Tr.refl : Tr P ρ ws σ H ρ ws σ H := ⟨fun _ _ e _ => e, fun _ b => .inl b, ⟨[], by simp⟩, fun _ n => n⟩
theorem Tr.trans (a : Tr P ρ ws σ H ρ' ws' σ' H') (b : Tr P ρ' ws' σ' H' ρ2 ws2 σ2 H2) : Tr P ρ ws σ H ρ2 ws2 σ2 H2 where
  keep := fun p o e k => by
    refine b.keep p o (a.keep p o e k) ?_
    rcases k with k | k
    · exact .inl k
    · refine .inr fun z => ?_
      rcases a.new p z with q | q
      · exact k q
      · rw [e] at q; cases q
  new := fun p z => by
    rcases b.new p z with q | q
    · exact a.new p q
    · refine .inr ?_
      cases e : H p with
      | none => rfl
      | some o => exact absurd q (a.there p (by rw [e]; intro z; cases z))
  ext := by
    obtain ⟨m, rfl⟩ := a.ext
    obtain ⟨n, rfl⟩ := b.ext
    exact ⟨m ++ n, by simp⟩
  there := fun p n => b.there p (a.there p n)
theorem Tr.rv (a : Tr P ρ ws σ H ρ' ws' σ' H') {w : W} {v : V} (h : RV K ρ H (Bd P ρ ws σ) w v) : RV K ρ' H' (Bd P ρ' ws' σ') w v :=
  RV.mono a.ext (fun p o e n => a.keep p o e (.inr n)) (fun p n e z => by
    rcases a.new p z with q | q
    · exact n q
    · exact e q) w v h
theorem Tr.rvs (a : Tr P ρ ws σ H ρ' ws' σ' H') {us : List W} {vs : List V} (h : RVs K ρ H (Bd P ρ ws σ) us vs) : RVs K ρ' H' (Bd P ρ' ws' σ') us vs :=
  RVs.mono a.ext (fun p o e n => a.keep p o e (.inr n)) (fun p n e z => by
    rcases a.new p z with q | q
    · exact n q
    · exact e q) us vs h
/-- more is tracked, nothing changes -/
def Gr (H H' : Hp) : Prop := ∀ p o, H p = some o → H' p = some o
theorem Gr.refl : Gr H H := fun _ _ e => e
theorem Gr.trans (a : Gr H H') (b : Gr H' H2) : Gr H H2 := fun p o e => b p o (a p o e)
theorem Gr.new {p : Addr} {o : HO} (n : H p = none) : Gr H (upd H p o) := fun q u e => by rw [upd_ne (ne_of_none e n)]; exact e
theorem Gr.there (g : Gr H H') {p : Addr} (n : H p ≠ none) : H' p ≠ none := by
  cases e : H p with
  | none => exact absurd e n
  | some o => rw [g p o e]; intro z; cases z
theorem Gr.eq (g : Gr H H') {p : Addr} (n : H p ≠ none) : H' p = H p := by
  cases e : H p with
  | none => exact absurd e n
  | some o => exact g p o e
theorem Gr.tr (g : Gr H H') : Tr P ρ ws σ H ρ ws σ H' := ⟨fun p o e _ => g p o e, fun _ b => .inl b, ⟨[], by simp⟩, fun _ n => g.there n⟩
theorem Gr.rv (g : Gr H H') {B : Addr → Prop} {w : W} {v : V} (h : RV K ρ H B w v) : RV K ρ H' B w v := RV.mono ⟨[], by simp⟩ (fun p o e _ => g p o e) (fun _ n _ => n) w v h
theorem Gr.rvs (g : Gr H H') {B : Addr → Prop} {w : List W} {v : List V} (h : RVs K ρ H B w v) : RVs K ρ H' B w v := RVs.mono ⟨[], by simp⟩ (fun p o e _ => g p o e) (fun _ n _ => n) w v h
theorem SR.gr (h : SR K P ρ S σ H) (g : Gr H H') : SR K P ρ S σ H' where
  len := h.len
  vals := fun i w e => by
    obtain ⟨v, a, b⟩ := h.vals i w e
    exact ⟨v, a, g.rv b⟩
  owns := fun i w e => by
    obtain ⟨p, a, b, c⟩ := h.owns i w e
    exact ⟨p, a, b.mono ⟨[], by simp⟩ (fun p o e _ => g p o e) (fun _ n _ => n) (g.eq b.ne), c⟩
  hlen := h.hlen
  nd := h.nd
  hp := fun k o e => by
    obtain ⟨a, b, c⟩ := h.hp k o e
    exact ⟨a, b, c.mono ⟨[], by simp⟩ (fun p o e _ => g p o e) (fun _ n _ => n) (g.eq c.ne)⟩
  pr := fun p m => ⟨g.there (h.pr p m).1, (h.pr p m).2⟩
/-- a new thing is put under protection -/
theorem SR.guard (h : SR K P ρ S σ H) (g : Gr H H') {p : Addr} (n : H p = none) (n' : H' p ≠ none) : SR K (p :: P) ρ S σ H' := by
  have hB : ∀ q, ¬ Bd P ρ S.ws σ q → H q ≠ none → ¬ Bd (p :: P) ρ S.ws σ q := fun q nb ne z => by
    rcases z with z | z
    · rcases List.mem_cons.mp z with rfl | z
      · exact ne n
      · exact nb (.inl z)
    · exact nb (.inr z)
  refine ⟨h.len, fun i w e => ?_, fun i w e => ?_, h.hlen, h.nd, fun k o e => ?_, fun q m => ?_⟩
  · obtain ⟨v, a, b⟩ := h.vals i w e
    exact ⟨v, a, RV.mono ⟨[], by simp⟩ (fun p o e _ => g p o e) hB _ _ b⟩
  · obtain ⟨q, a, b, c, d⟩ := h.owns i w e
    refine ⟨q, a, b.mono ⟨[], by simp⟩ (fun p o e _ => g p o e) hB (g.eq b.ne), fun z => ?_, d⟩
    rcases List.mem_cons.mp z with rfl | z
    · exact b.ne n
    · exact c z
  · obtain ⟨a, b, c⟩ := h.hp k o e
    exact ⟨a, b, c.mono ⟨[], by simp⟩ (fun p o e _ => g p o e) hB (g.eq c.ne)⟩
  · rcases List.mem_cons.mp m with rfl | m
    · exact ⟨n', fun z => h.some (.inr (.inl z)) n⟩
    · exact ⟨g.there (h.pr q m).1, (h.pr q m).2⟩
/-- protection is given up -/
theorem SR.drop {p : Addr} (h : SR K (p :: P) ρ S σ H) : SR K P ρ S σ H := by
  have hB : ∀ q, ¬ Bd (p :: P) ρ S.ws σ q → H q ≠ none → ¬ Bd P ρ S.ws σ q := fun q nb _ z => by
    rcases z with z | z
    · exact nb (.inl (List.mem_cons_of_mem _ z))
    · exact nb (.inr z)
  refine ⟨h.len, fun i w e => ?_, fun i w e => ?_, h.hlen, h.nd, fun k o e => ?_, fun q m => h.pr q (List.mem_cons_of_mem _ m)⟩
  · obtain ⟨v, a, b⟩ := h.vals i w e
    exact ⟨v, a, RV.mono ⟨[], by simp⟩ (fun _ _ e _ => e) hB _ _ b⟩
  · obtain ⟨q, a, b, c, d⟩ := h.owns i w e
    exact ⟨q, a, b.mono ⟨[], by simp⟩ (fun _ _ e _ => e) hB rfl, fun z => c (List.mem_cons_of_mem _ z), d⟩
  · obtain ⟨a, b, c⟩ := h.hp k o e
    exact ⟨a, b, c.mono ⟨[], by simp⟩ (fun _ _ e _ => e) hB rfl⟩
theorem SR.notBd {p : Addr} (h : SR K (p :: P) ρ S σ H) (n : p ∉ P) : ¬ Bd P ρ S.ws σ p := fun z => by
  rcases z with z | z | ⟨i, w, e, f⟩
  · exact n z
  · exact (h.pr p List.mem_cons_self).2 z
  · obtain ⟨q, a, b, c, d⟩ := h.owns i w e
    rw [f] at a
    cases a
    exact c List.mem_cons_self
/-- what an expression has given; H0: the heap ahead of it -/
def RR (K : PySem.W.Frag) (P : List Addr) (H0 : Hp) (ρ : List Addr) (S : Sta) (σ : L2.St) (H : Hp) : R → V → Prop
  | .w x, v => SR K P ρ S σ H ∧ RV K ρ H (Bd P ρ S.ws σ) x v
  | .fr x, v => ∃ p, v = .ref p ∧ H0 p = none ∧ p ∉ P ∧ SR K (p :: P) ρ S σ H ∧ OR K ρ H (Bd (p :: P) ρ S.ws σ) x p
theorem RR.w {H0 : Hp} {r : R} {v : V} (h : RR K P H0 ρ S σ H r v) : SR K P ρ S σ H ∧ RV K ρ H (Bd P ρ S.ws σ) r.val v := by
  cases r with
  | w x => exact h
  | fr x =>
    obtain ⟨p, rfl, _, np, s, o⟩ := h
    refine ⟨s.drop, OR.rv (s.notBd np) (o.mono ⟨[], by simp⟩ (fun _ _ e _ => e) (fun q nb _ z => nb ?_) rfl)⟩
    rcases z with z | z
    · exact .inl (List.mem_cons_of_mem _ z)
    · exact .inr z
theorem RR.back {H0 : Hp} {r : R} {v : V} (h : RR K P H' ρ S σ H r v) (t : ∀ p, H0 p ≠ none → H' p ≠ none) : RR K P H0 ρ S σ H r v := by
  cases r with
  | w x => exact h
  | fr x =>
    obtain ⟨p, e, n, r⟩ := h
    refine ⟨p, e, ?_, r⟩
    cases q : H0 p with
    | none => rfl
    | some o => exact absurd n (t p (by rw [q]; intro z; cases z))
end
end Mi

set_option Elab.async false
set_option linter.all false
set_option maxRecDepth 100000
set_option maxHeartbeats 4000000
/-! Expressions: functions of the state, and that the hand layer's readings hold of them. -/
namespace Mi
open PySem PySem.Spec PyProof.Rows L2

theorem PE_imp {X : Cx} {e : Expr} {t t' : TE} (h : PE X e t) (i : ∀ σ H Q, t' σ H Q → t σ H Q) : PE X e t' := ⟨fun pins s σ H Q I q => h.run pins s σ H Q I (i σ H Q q)⟩
theorem PT_imp {X : Cx} {e : Expr} {t t' : TT} (h : PT X e t) (i : ∀ σ H Q, t' σ H Q → t σ H Q) : PT X e t' := ⟨fun pins s σ H Q I q => h.run pins s σ H Q I (i σ H Q q)⟩
theorem PW_imp {X : Cx} {e : Expr} {t t' : TT} (h : PW X e t) (i : ∀ σ H Q, t' σ H Q → t σ H Q) : PW X e t' := ⟨fun wh pins s σ H Q I q => h.run wh pins s σ H Q I (i σ H Q q)⟩
theorem PA_imp {X : Cx} {e : List Expr} {t t' : TA} (h : PA X e t) (i : ∀ σ H Q, t' σ H Q → t σ H Q) : PA X e t' := ⟨fun pos pins s σ H Q I q => h.run pos pins s σ H Q I (i σ H Q q)⟩
theorem PS_imp {X : Cx} {e : Stmt} {t t' : TS} (h : PS X e t) (i : ∀ D σ H, t' D σ H → t D σ H) : PS X e t' := ⟨fun pins s σ H D I q => h.run pins s σ H D I (i D σ H q)⟩
theorem PSs_imp {X : Cx} {e : List Stmt} {t t' : TS} (h : PSs X e t) (i : ∀ D σ H, t' D σ H → t D σ H) : PSs X e t' := ⟨fun pins s σ H D I q => h.run pins s σ H D I (i D σ H q)⟩

abbrev Rl (α β : Type) := List Addr → L2.St → Hp → List Addr → Sta → Hp → α → β → Prop
structure RlOk (K : PySem.W.Frag) {α β : Type} (r : Rl α β) : Prop where
  sr : ∀ {P σ H0 ρ S H a b}, r P σ H0 ρ S H a b → SR K P ρ S σ H
  back : ∀ {P σ H0 H1 ρ S H a b}, (∀ p, H0 p ≠ none → H1 p ≠ none) → r P σ H1 ρ S H a b → r P σ H0 ρ S H a b
/-- an exception as it lies -/
def ExcR (Γ : Ctx) (ρ : List Addr) (H : Hp) (B : Addr → Prop) (x : Exc) (cls : Value) (d : Option Addr) : Prop :=
  cls = .ref (Γ.C x.c) ∧ ∃ da vs, d = some da ∧ H da = some (.xd (x.ks.zip vs)) ∧ x.ks.length = x.ws.length ∧ RVs Γ.K ρ H B x.ws vs
/-- from a state on, m's outcome reaches Q, or what is wished of exceptions -/
def Go (Γ : Ctx) (U : WX) {α β : Type} (r : Rl α β) (P ρ : List Addr) (S : Sta) (σ : L2.St) (H : Hp) (m : M (α × Sta)) (Q : β → Hp → Prop) : Prop :=
  match m with
  | .ok (a, S') => ∀ b ρ' H', Tr P ρ S.ws σ H ρ' S'.ws σ H' → r P σ H ρ' S' H' a b → Q b H'
  | .exc x S' => ∀ cls d ρ' H', Tr P ρ S.ws σ H ρ' S'.ws σ H' → SR Γ.K P ρ' S' σ H' → ExcR Γ ρ' H' (Bd P ρ' S'.ws σ) x cls d → U cls d σ H'
  | .no => False
def rd (Γ : Ctx) (U : WX) {α β : Type} (r : Rl α β) (f : Sta → M (α × Sta)) (σ : L2.St) (H : Hp) (Q : β → Hp → Prop) : Prop :=
  ∃ P ρ S, SR Γ.K P ρ S σ H ∧ Go Γ U r P ρ S σ H (f S) Q
section
variable {Γ : Ctx} {U : WX} {α β γ δ : Type} {r : Rl α β} {q : Rl γ δ} {P ρ ρ1 : List Addr} {S S1 : Sta} {σ : L2.St} {H H1 : Hp}
theorem Go.shift (ok : RlOk Γ.K r) (t : Tr P ρ S.ws σ H ρ1 S1.ws σ H1) {m : M (α × Sta)} {Q : β → Hp → Prop} (h : Go Γ U r P ρ S σ H m Q) : Go Γ U r P ρ1 S1 σ H1 m Q := by
  cases m with
  | ok a => exact fun b ρ' H' t' x => h b ρ' H' (t.trans t') (ok.back t.there x)
  | exc x s => exact fun cls d ρ' H' t' x e => h cls d ρ' H' (t.trans t') x e
  | no => exact h
theorem Go.mono {m : M (α × Sta)} {Q Q' : β → Hp → Prop} (h : Go Γ U r P ρ S σ H m Q) (i : ∀ b H, Q b H → Q' b H) : Go Γ U r P ρ S σ H m Q' := by
  cases m with
  | ok a => exact fun b ρ' H' t' x => i _ _ (h b ρ' H' t' x)
  | exc x s => exact h
  | no => exact h
theorem go_bind (ok : RlOk Γ.K q) {f : Sta → M (α × Sta)} {k : α × Sta → M (γ × Sta)} {Q : δ → Hp → Prop} (sr : SR Γ.K P ρ S σ H) (g : Go Γ U q P ρ S σ H (M.bind (f S) k) Q) :
    rd Γ U r f σ H (fun v H1 => ∃ ρ1 S1 a, Tr P ρ S.ws σ H ρ1 S1.ws σ H1 ∧ r P σ H ρ1 S1 H1 a v ∧ f S = .ok (a, S1) ∧ Go Γ U q P ρ1 S1 σ H1 (k (a, S1)) Q) := by
  refine ⟨P, ρ, S, sr, ?_⟩
  cases e : f S with
  | ok a =>
    rw [e] at g
    obtain ⟨a, S1⟩ := a
    exact fun v ρ1 H1 t x => ⟨ρ1, S1, a, t, x, rfl, Go.shift ok t g⟩
  | exc x s =>
    rw [e] at g
    exact g
  | no =>
    rw [e] at g
    exact g
end

/-! ### the relations -/
inductive Arg where
  | v (w : W) | pk (i : Nat)
abbrev CE := Sta → M (R × Sta)
abbrev CT := Sta → M (Bool × Sta)
abbrev CA := Sta → M (Arg × Sta)
abbrev CL := Sta → M (List W × Sta)
def rE (K : PySem.W.Frag) : Rl R V := fun P σ H0 ρ S H a b => RR K P H0 ρ S σ H a b
def rT (K : PySem.W.Frag) : Rl Bool Bool := fun P σ _ ρ S H a b => SR K P ρ S σ H ∧ b = a
def AR (K : PySem.W.Frag) (P ρ : List Addr) (S : Sta) (σ : L2.St) (H : Hp) : Arg → V → Prop
  | .v w, x => RV K ρ H (Bd P ρ S.ws σ) w x
  | .pk i, x => σ[i]? = some (some x)
def rA (K : PySem.W.Frag) : Rl Arg V := fun P σ _ ρ S H a b => SR K P ρ S σ H ∧ AR K P ρ S σ H a b
def rL (K : PySem.W.Frag) : Rl (List W) (List V) := fun P σ _ ρ S H a b => SR K P ρ S σ H ∧ RVs K ρ H (Bd P ρ S.ws σ) a b
section
variable {K : PySem.W.Frag}
theorem rE_ok : RlOk K (rE K) := ⟨fun h => (RR.w h).1, fun t h => RR.back h t⟩
theorem rT_ok : RlOk K (rT K) := ⟨fun h => h.1, fun _ h => h⟩
theorem rA_ok : RlOk K (rA K) := ⟨fun h => h.1, fun _ h => h⟩
theorem rL_ok : RlOk K (rL K) := ⟨fun h => h.1, fun _ h => h⟩
def Arg.get (S : Sta) : Arg → Option W
  | .v w => some w
  | .pk i => match S.ws[i]? with
    | some (.val w) => some w
    | some (.own w) => some w
    | _ => none
variable {P ρ ρ' : List Addr} {S S' : Sta} {σ : L2.St} {H H' : Hp} {a : Arg} {v : V} {w : W}
theorem AR.tr (t : Tr P ρ S.ws σ H ρ' S'.ws σ H') (h : AR K P ρ S σ H a v) : AR K P ρ' S' σ H' a v := by
  cases a with
  | v w => exact t.rv h
  | pk i => exact h
theorem AR.get (sr : SR K P ρ S σ H) (h : AR K P ρ S σ H a v) (e : a.get S = some w) : RO K ρ H (Bd P ρ S.ws σ) w v := by
  cases a with
  | v w' =>
    cases e
    exact .inl h
  | pk i =>
    have h' : σ[i]? = some (some v) := h
    have e' : (match S.ws[i]? with | some (.val w) => some w | some (.own w) => some w | _ => none) = some w := e
    clear e
    split at e'
    · rename_i w' q
      cases e'
      obtain ⟨u, a, b⟩ := sr.vals i _ q
      rw [h'] at a
      cases a
      exact .inl b
    · rename_i w' q
      cases e'
      obtain ⟨u, a, b, _⟩ := sr.owns i _ q
      rw [h'] at a
      cases a
      exact .inr ⟨u, rfl, b⟩
    · cases e'
end

/-! ### the judgements -/
def ME (X : Cx) (C : Nat → Addr) (U : WX) (e : Expr) (f : CE) : Prop := PE X e (rd ⟨X.K, C⟩ U (rE X.K) f)
def MA (X : Cx) (C : Nat → Addr) (U : WX) (e : Expr) (f : CA) : Prop := PE X e (rd ⟨X.K, C⟩ U (rA X.K) f)
def MT (X : Cx) (C : Nat → Addr) (U : WX) (e : Expr) (f : CT) : Prop := PT X e (rd ⟨X.K, C⟩ U (rT X.K) f)
def MW (X : Cx) (C : Nat → Addr) (U : WX) (e : Expr) (f : CT) : Prop := PW X e (rd ⟨X.K, C⟩ U (rT X.K) f)
def ML (X : Cx) (C : Nat → Addr) (U : WX) (es : List Expr) (f : CL) : Prop := PA X es (rd ⟨X.K, C⟩ U (rL X.K) f)
section
variable {X : Cx} {C : Nat → Addr} {U : WX} {e a b : Expr} {es : List Expr} {f g : CE} {pos : Pos}

/-! ### names, constants -/
def cC (w : W) : CE := fun S => .ok (.w w, S)
/-- a value that needs no heap -/
def Sc (w : W) (v : V) : Prop := ∀ K ρ H B, RV K ρ H B w v
theorem rd_c {w : W} {v : V} (h : ∀ ρ H B, RV X.K ρ H B w v) (σ : L2.St) (H : Hp) (Q : VK) (q : rd ⟨X.K, C⟩ U (rE X.K) (cC w) σ H Q) : tC v σ H Q := by
  obtain ⟨P, ρ, S, sr, g⟩ := q
  exact g v ρ H Tr.refl ⟨sr, h _ _ _⟩
theorem me_int {i : Int} {j} : ME X C U (.Constant (.int i) j pos) (cC (.int i)) := PE_imp pe_int (rd_c fun _ _ _ => rfl)
theorem me_bl {b : Bool} {j} : ME X C U (.Constant (.bool b) j pos) (cC (.bl b)) := PE_imp pe_bl (rd_c fun _ _ _ => rfl)
theorem me_non {j} : ME X C U (.Constant .none j pos) (cC .non) := PE_imp pe_non (rd_c fun _ _ _ => rfl)
theorem me_str {s : Str} {j} : ME X C U (.Constant (.str s) j pos) (cC (.str s)) := PE_imp pe_str (rd_c fun _ _ _ => rfl)
/-- a constant of the module -/
def GV (K : PySem.W.Frag) (u : Value) (w : W) : Prop := ∃ v, RelV v u ∧ ∀ ρ H B, RV K ρ H B w v
theorem me_glob {x : Str} {u : Value} {w : W} (hg : Gl X x) (hm : X.mg x = some u) (g : GV X.K u w) (hd : (x == ("__debug__" : Str)) = false := by decide) : ME X C U (.Name x pos) (cC w) := by
  obtain ⟨v, r, h⟩ := g
  exact PE_imp (pe_glob hg hm r hd) (rd_c h)
/-- a name: what it holds is handed on, and so frozen -/
def cNm (i : Nat) : CE := fun S => match S.ws[i]? with
  | some (.val w) => .ok (.w w, S)
  | some (.own w) => .ok (.w w, { S with ws := S.ws.set i (.val w) })
  | _ => .no
theorem sr_freeze {K : PySem.W.Frag} {P ρ : List Addr} {S : Sta} {σ : L2.St} {H : Hp} {i : Nat} {w : W} (sr : SR K P ρ S σ H) (e : S.ws[i]? = some (.own w)) :
    ∃ p, σ[i]? = some (some (.ref p)) ∧ Tr P ρ S.ws σ H ρ (S.ws.set i (.val w)) σ H ∧ SR K P ρ { S with ws := S.ws.set i (.val w) } σ H ∧ RV K ρ H (Bd P ρ (S.ws.set i (.val w)) σ) w (.ref p) := by
  obtain ⟨p, a, o, nP, nρ, un⟩ := sr.owns i w e
  have li : i < S.ws.length := (List.getElem?_eq_some_iff.mp e).1
  have sub : ∀ q, Ow (S.ws.set i (.val w)) σ q → Ow S.ws σ q ∧ q ≠ p := fun q ⟨j, w', e1, e2⟩ => by
    by_cases hj : j = i
    · subst hj
      rw [List.getElem?_set_self li] at e1
      cases e1
    · rw [List.getElem?_set_ne (Ne.symm hj)] at e1
      refine ⟨⟨j, w', e1, e2⟩, ?_⟩
      rintro rfl
      exact hj (un j w' e1 e2)
  have hB : ∀ q, ¬ Bd P ρ S.ws σ q → H q ≠ none → ¬ Bd P ρ (S.ws.set i (.val w)) σ q := fun q n _ z => by
    rcases z with z | z | z
    · exact n (.inl z)
    · exact n (.inr (.inl z))
    · exact n (.inr (.inr (sub q z).1))
  have np : ¬ Bd P ρ (S.ws.set i (.val w)) σ p := fun z => by
    rcases z with z | z | z
    · exact nP z
    · exact nρ z
    · exact (sub p z).2 rfl
  have rv : RV K ρ H (Bd P ρ (S.ws.set i (.val w)) σ) w (.ref p) := OR.rv np (OR.mono (ρ' := ρ) ⟨[], by simp⟩ (fun _ _ e _ => e) hB rfl o)
  refine ⟨p, a, ⟨fun _ _ e _ => e, fun q z => .inl ?_, ⟨[], by simp⟩, fun _ n => n⟩, ⟨by simpa using sr.len, fun j w' e1 => ?_, fun j w' e1 => ?_, sr.hlen, sr.nd, fun k o e => ?_, sr.pr⟩, rv⟩
  · rcases z with z | z | z
    · exact .inl z
    · exact .inr (.inl z)
    · exact .inr (.inr (sub q z).1)
  · by_cases hj : j = i
    · subst hj
      have e2 : (S.ws.set j (.val w))[j]? = some (.val w') := e1
      rw [List.getElem?_set_self li] at e2
      cases e2
      exact ⟨_, a, rv⟩
    · have e2 : (S.ws.set i (.val w))[j]? = some (.val w') := e1
      rw [List.getElem?_set_ne (Ne.symm hj)] at e2
      obtain ⟨v, x, y⟩ := sr.vals j w' e2
      exact ⟨v, x, RV.mono ⟨[], by simp⟩ (fun _ _ e _ => e) hB _ _ y⟩
  · have hj : j ≠ i := by
      rintro rfl
      have e2 : (S.ws.set j (.val w))[j]? = some (.own w') := e1
      rw [List.getElem?_set_self li] at e2
      cases e2
    have e2 : (S.ws.set i (.val w))[j]? = some (.own w') := e1
    rw [List.getElem?_set_ne (Ne.symm hj)] at e2
    obtain ⟨q, x, y, z1, z2, z3⟩ := sr.owns j w' e2
    refine ⟨q, x, y.mono ⟨[], by simp⟩ (fun _ _ e _ => e) hB rfl, z1, z2, fun k w2 e3 e4 => ?_⟩
    have hk : k ≠ i := by
      rintro rfl
      have e5 : (S.ws.set k (.val w))[k]? = some (.own w2) := e3
      rw [List.getElem?_set_self li] at e5
      cases e5
    have e5 : (S.ws.set i (.val w))[k]? = some (.own w2) := e3
    rw [List.getElem?_set_ne (Ne.symm hk)] at e5
    exact z3 k w2 e5 e4
  · obtain ⟨b, x, y⟩ := sr.hp k o e
    exact ⟨b, x, y.mono ⟨[], by simp⟩ (fun _ _ e _ => e) hB rfl⟩
theorem me_nm (i : Nat) {x : Str} (hN : X.N[i]? = some x := by rfl) (hv : Vis X.env.scope x := by first | exact Or.inl rfl | exact Or.inr (Or.inl rfl) | exact Or.inr (Or.inr rfl)) (hd : (x == ("__debug__" : Str)) = false := by decide)
    (hcd : (x == ("__classdict__" : Str)) = false := by decide) : ME X C U (.Name x pos) (cNm i) := by
  refine PE_imp (pe_var hN hv hd hcd) fun σ H Q q => ?_
  obtain ⟨P, ρ, S, sr, g⟩ := q
  unfold cNm at g
  split at g
  · rename_i w e
    obtain ⟨v, a, b⟩ := sr.vals i w e
    exact ⟨v, a, g v ρ H Tr.refl ⟨sr, b⟩⟩
  · rename_i w e
    obtain ⟨p, a, t, sr', rv⟩ := sr_freeze sr e
    exact ⟨_, a, g _ ρ H t ⟨sr', rv⟩⟩
  · exact g.elim

/-! ### operands -/
def aE (f : CE) : CA := fun S => M.bind (f S) fun p => .ok (.v p.1.val, p.2)
def aPk (i : Nat) : CA := fun S => match S.ws[i]? with
  | some (.val _) => .ok (.pk i, S)
  | some (.own _) => .ok (.pk i, S)
  | _ => .no
theorem ma_e (h : ME X C U e f) : MA X C U e (aE f) := by
  refine PE_imp h fun σ H Q q => ?_
  obtain ⟨P, ρ, S, sr, g⟩ := q
  obtain ⟨P, ρ, S, sr, g⟩ := go_bind (r := rE X.K) rA_ok sr g
  refine ⟨P, ρ, S, sr, g.mono fun v H1 z => ?_⟩
  obtain ⟨ρ1, S1, a, t, x, e, g1⟩ := z
  exact g1 v ρ1 H1 Tr.refl (RR.w x)
theorem ma_pk (i : Nat) {x : Str} (hN : X.N[i]? = some x := by rfl) (hv : Vis X.env.scope x := by first | exact Or.inl rfl | exact Or.inr (Or.inl rfl) | exact Or.inr (Or.inr rfl)) (hd : (x == ("__debug__" : Str)) = false := by decide)
    (hcd : (x == ("__classdict__" : Str)) = false := by decide) : MA X C U (.Name x pos) (aPk i) := by
  refine PE_imp (pe_var hN hv hd hcd) fun σ H Q q => ?_
  obtain ⟨P, ρ, S, sr, g⟩ := q
  unfold aPk at g
  split at g
  · rename_i w e
    obtain ⟨v, a, b⟩ := sr.vals i w e
    exact ⟨v, a, g v ρ H Tr.refl ⟨sr, a⟩⟩
  · rename_i w e
    obtain ⟨p, a, _⟩ := sr.owns i w e
    exact ⟨_, a, g _ ρ H Tr.refl ⟨sr, a⟩⟩
  · exact g.elim

/-! ### operations on values -/
def PRes (K : PySem.W.Frag) (ρ : List Addr) (H : Hp) (B : Addr → Prop) : R → V → Hp → Prop
  | .w x, v, H' => Gr H H' ∧ RV K ρ H' B x v
  | .fr x, v, H' => Gr H H' ∧ ∃ p, v = .ref p ∧ H p = none ∧ OR K ρ H' (fun q => B q ∨ q = p) x p
theorem pres_rr {K : PySem.W.Frag} {P ρ : List Addr} {S : Sta} {σ : L2.St} {H H' : Hp} {r : R} {v : V} (sr : SR K P ρ S σ H) (n : PRes K ρ H (Bd P ρ S.ws σ) r v H') : Tr P ρ S.ws σ H ρ S.ws σ H' ∧ RR K P H ρ S σ H' r v := by
  cases r with
  | w x =>
    obtain ⟨g, h⟩ := n
    exact ⟨g.tr, sr.gr g, h⟩
  | fr x =>
    obtain ⟨g, p, e, n, h⟩ := n
    refine ⟨g.tr, p, e, n, fun z => (sr.pr p z).1 n, sr.guard g n h.ne, OR.mono (ρ' := ρ) ⟨[], by simp⟩ (fun _ _ e _ => e) (fun q nb _ z => nb ?_) rfl h⟩
    rcases z with z | z
    · rcases List.mem_cons.mp z with z | z
      · exact .inr z
      · exact .inl (.inl z)
    · exact .inl (.inr z)
/-- a function of one, of two values, by the hand layer's readings of them -/
def P1ok (K : PySem.W.Frag) (r : V → Hp → VK → Prop) (pf : W → Option R) : Prop := ∀ (ρ : List Addr) (H : Hp) (B : Addr → Prop) (w : W) (v : V) (res : R), (∀ p, B p → H p ≠ none) → RO K ρ H B w v → pf w = some res →
  ∀ Q : VK, (∀ v' H', PRes K ρ H B res v' H' → Q v' H') → r v H Q
def P2ok (K : PySem.W.Frag) (r : R2) (pf : W → W → Option R) : Prop := ∀ (ρ : List Addr) (H : Hp) (B : Addr → Prop) (w u : W) (v x : V) (res : R), (∀ p, B p → H p ≠ none) → RO K ρ H B w v → RO K ρ H B u x → pf w u = some res →
  ∀ Q : VK, (∀ v' H', PRes K ρ H B res v' H' → Q v' H') → r v x H Q
def P3ok (K : PySem.W.Frag) (r : V → V → V → Hp → VK → Prop) (pf : W → W → W → Option R) : Prop := ∀ (ρ : List Addr) (H : Hp) (B : Addr → Prop) (w u t : W) (v x y : V) (res : R), (∀ p, B p → H p ≠ none) → RO K ρ H B w v → RO K ρ H B u x → RO K ρ H B t y → pf w u t = some res →
  ∀ Q : VK, (∀ v' H', PRes K ρ H B res v' H' → Q v' H') → r v x y H Q
@[reducible] def retO (o : Option R) (S : Sta) : M (R × Sta) := match o with
  | some r => .ok (r, S)
  | none => .no
def cP1 (pf : W → Option R) (a : CA) : CE := fun S => M.bind (a S) fun p => match p.1.get p.2 with
  | some w => retO (pf w) p.2
  | none => .no
def cP2 (pf : W → W → Option R) (a b : CA) : CE := fun S => M.bind (a S) fun p => M.bind (b p.2) fun q => match p.1.get q.2, q.1.get q.2 with
  | some w, some u => retO (pf w u) q.2
  | _, _ => .no
def cP3 (pf : W → W → W → Option R) (a b c : CA) : CE := fun S => M.bind (a S) fun p => M.bind (b p.2) fun q => M.bind (c q.2) fun t => match p.1.get t.2, q.1.get t.2, t.1.get t.2 with
  | some w, some u, some x => retO (pf w u x) t.2
  | _, _, _ => .no
theorem go_ret {Γ : Ctx} {U : WX} {P ρ : List Addr} {S : Sta} {σ : L2.St} {H : Hp} {o : Option R} {Q : VK} (sr : SR Γ.K P ρ S σ H) (g : Go Γ U (rE Γ.K) P ρ S σ H (retO o S) Q) : ∃ r, o = some r ∧ ∀ v' H', PRes Γ.K ρ H (Bd P ρ S.ws σ) r v' H' → Q v' H' := by
  cases o with
  | none => exact g.elim
  | some r =>
    refine ⟨r, rfl, fun v' H' n => ?_⟩
    obtain ⟨t, x⟩ := pres_rr sr n
    exact g v' ρ H' t x
theorem me_p1 {e a : Expr} {r : V → Hp → VK → Prop} {pf : W → Option R} {fa : CA} (hp : P1ok X.K r pf) (ha : MA X C U a fa) (he : ∀ ta, PE X a ta → PE X e (fun σ H Q => ta σ H fun x H1 => r x H1 Q)) : ME X C U e (cP1 pf fa) := by
  refine PE_imp (he _ ha) fun σ H Q q => ?_
  obtain ⟨P, ρ, S, sr, g⟩ := q
  obtain ⟨P, ρ, S, sr, g⟩ := go_bind (r := rA X.K) rE_ok sr g
  refine ⟨P, ρ, S, sr, g.mono fun v H1 z => ?_⟩
  obtain ⟨ρ1, S1, a, t, ⟨sr1, x⟩, e, g1⟩ := z
  dsimp only at g1
  split at g1
  · rename_i w ew
    obtain ⟨res, er, k⟩ := go_ret sr1 g1
    exact hp ρ1 H1 _ w v res (fun p b => sr1.some b) (AR.get sr1 x ew) er Q k
  · exact g1.elim
theorem me_p2 {e a b : Expr} {r : R2} {pf : W → W → Option R} {fa fb : CA} (hp : P2ok X.K r pf) (ha : MA X C U a fa) (hb : MA X C U b fb) (he : ∀ ta tb, PE X a ta → PE X b tb → PE X e (fun σ H Q => ta σ H fun x H1 => tb σ H1 fun y H2 => r x y H2 Q)) :
    ME X C U e (cP2 pf fa fb) := by
  refine PE_imp (he _ _ ha hb) fun σ H Q q => ?_
  obtain ⟨P, ρ, S, sr, g⟩ := q
  obtain ⟨P, ρ, S, sr, g⟩ := go_bind (r := rA X.K) rE_ok sr g
  refine ⟨P, ρ, S, sr, g.mono fun v H1 z => ?_⟩
  obtain ⟨ρ1, S1, a, t, ⟨sr1, x⟩, e, g1⟩ := z
  obtain ⟨P, ρ1, S1, sr1, g1⟩ := go_bind (r := rA X.K) rE_ok sr1 g1
  refine ⟨P, ρ1, S1, sr1, g1.mono fun v2 H2 z => ?_⟩
  obtain ⟨ρ2, S2, a2, t2, ⟨sr2, x2⟩, e2, g2⟩ := z
  dsimp only at g2
  split at g2
  · rename_i w u ew eu
    obtain ⟨res, er, k⟩ := go_ret sr2 g2
    exact hp ρ2 H2 _ w u v v2 res (fun p b => sr2.some b) (AR.get sr2 (x.tr t2) ew) (AR.get sr2 x2 eu) er Q k
  · exact g2.elim
theorem me_p3 {e a b c : Expr} {r : V → V → V → Hp → VK → Prop} {pf : W → W → W → Option R} {fa fb fc : CA} (hp : P3ok X.K r pf) (ha : MA X C U a fa) (hb : MA X C U b fb) (hc : MA X C U c fc)
    (he : ∀ ta tb tc, PE X a ta → PE X b tb → PE X c tc → PE X e (fun σ H Q => ta σ H fun x H1 => tb σ H1 fun y H2 => tc σ H2 fun z H3 => r x y z H3 Q)) :
    ME X C U e (cP3 pf fa fb fc) := by
  refine PE_imp (he _ _ _ ha hb hc) fun σ H Q q => ?_
  obtain ⟨P, ρ, S, sr, g⟩ := q
  obtain ⟨P, ρ, S, sr, g⟩ := go_bind (r := rA X.K) rE_ok sr g
  refine ⟨P, ρ, S, sr, g.mono fun v H1 z => ?_⟩
  obtain ⟨ρ1, S1, a, t, ⟨sr1, x⟩, e, g1⟩ := z
  obtain ⟨P, ρ1, S1, sr1, g1⟩ := go_bind (r := rA X.K) rE_ok sr1 g1
  refine ⟨P, ρ1, S1, sr1, g1.mono fun v2 H2 z => ?_⟩
  obtain ⟨ρ2, S2, a2, t2, ⟨sr2, x2⟩, e2, g2⟩ := z
  obtain ⟨P, ρ2, S2, sr2, g2⟩ := go_bind (r := rA X.K) rE_ok sr2 g2
  refine ⟨P, ρ2, S2, sr2, g2.mono fun v3 H3 z => ?_⟩
  obtain ⟨ρ3, S3, a3, t3, ⟨sr3, x3⟩, e3, g3⟩ := z
  dsimp only at g3
  split at g3
  · rename_i w u y ew eu ey
    obtain ⟨res, er, k⟩ := go_ret sr3 g3
    exact hp ρ3 H3 _ w u y v v2 v3 res (fun p b => sr3.some b) (AR.get sr3 ((x.tr t2).tr t3) ew) (AR.get sr3 (x2.tr t3) eu) (AR.get sr3 x3 ey) er Q k
  · exact g3.elim
/-- a method of a text, with one argument -/
def cM1 (pf : W → W → Option R) (a b : CA) : CE := fun S => M.bind (a S) fun p => match p.1.get p.2 with
  | some (.str s) => M.bind (b p.2) fun q => match q.1.get q.2 with
    | some u => retO (pf (.str s) u) q.2
    | none => .no
  | _ => .no
theorem me_m1 {e a b : Expr} {r : V → List V → Hp → VK → Prop} {pf : W → W → Option R} {fa fb : CA} (hp : P2ok X.K (fun x y H Q => r x [y] H Q) pf) (ha : MA X C U a fa) (hb : MA X C U b fb) (he : ∀ ta tb, PE X a ta → PE X b tb → PE X e (tM1 r ta tb)) :
    ME X C U e (cM1 pf fa fb) := by
  refine PE_imp (he _ _ ha hb) fun σ H Q q => ?_
  obtain ⟨P, ρ, S, sr, g⟩ := q
  obtain ⟨P, ρ, S, sr, g⟩ := go_bind (r := rA X.K) rE_ok sr g
  refine ⟨P, ρ, S, sr, g.mono fun v H1 z => ?_⟩
  obtain ⟨ρ1, S1, a, t, ⟨sr1, x⟩, e, g1⟩ := z
  dsimp only at g1
  split at g1
  · rename_i s es
    have ev := (AR.get sr1 x es).str
    subst ev
    refine ⟨⟨s, rfl⟩, ?_⟩
    obtain ⟨P, ρ1, S1, sr1, g1⟩ := go_bind (r := rA X.K) rE_ok sr1 g1
    refine ⟨P, ρ1, S1, sr1, g1.mono fun v2 H2 z => ?_⟩
    obtain ⟨ρ2, S2, a2, t2, ⟨sr2, x2⟩, e2, g2⟩ := z
    dsimp only at g2
    split at g2
    · rename_i u eu
      obtain ⟨res, er, k⟩ := go_ret sr2 g2
      exact hp ρ2 H2 _ (.str s) u (.str s) v2 res (fun p b => sr2.some b) (.inl rfl) (AR.get sr2 x2 eu) er Q k
    · exact g2.elim
  · exact g1.elim
def cM0 (pf : W → Option R) (a : CA) : CE := fun S => M.bind (a S) fun p => match p.1.get p.2 with
  | some (.str s) => retO (pf (.str s)) p.2
  | _ => .no
theorem me_m0 {e a : Expr} {r : V → List V → Hp → VK → Prop} {pf : W → Option R} {fa : CA} (hp : P1ok X.K (fun x H Q => r x [] H Q) pf) (ha : MA X C U a fa) (he : ∀ ta, PE X a ta → PE X e (tM0 r ta)) :
    ME X C U e (cM0 pf fa) := by
  refine PE_imp (he _ ha) fun σ H Q q => ?_
  obtain ⟨P, ρ, S, sr, g⟩ := q
  obtain ⟨P, ρ, S, sr, g⟩ := go_bind (r := rA X.K) rE_ok sr g
  refine ⟨P, ρ, S, sr, g.mono fun v H1 z => ?_⟩
  obtain ⟨ρ1, S1, a, t, ⟨sr1, x⟩, e, g1⟩ := z
  dsimp only at g1
  split at g1
  · rename_i s es
    have ev := (AR.get sr1 x es).str
    subst ev
    obtain ⟨res, er, k⟩ := go_ret sr1 g1
    exact ⟨⟨s, rfl⟩, hp ρ1 H1 _ (.str s) (.str s) res (fun p b => sr1.some b) (.inl rfl) er Q k⟩
  · exact g1.elim

/-! ### lists of values, displays -/
def cNil : CL := fun S => .ok ([], S)
def cCons (f : CE) (l : CL) : CL := fun S => M.bind (f S) fun p => M.bind (l p.2) fun q => .ok (p.1.val :: q.1, q.2)
theorem ml_nil : ML X C U [] cNil := PA_imp pa_nil fun σ H Q q => by
  obtain ⟨P, ρ, S, sr, g⟩ := q
  exact g [] ρ H Tr.refl ⟨sr, rfl⟩
theorem rd_cons {f : CE} {l : CL} (σ : L2.St) (H : Hp) (Q : List V → Hp → Prop) (q : rd ⟨X.K, C⟩ U (rL X.K) (cCons f l) σ H Q) : tCons (rd ⟨X.K, C⟩ U (rE X.K) f) (rd ⟨X.K, C⟩ U (rL X.K) l) σ H Q := by
  obtain ⟨P, ρ, S, sr, g⟩ := q
  obtain ⟨P, ρ, S, sr, g⟩ := go_bind (r := rE X.K) rL_ok sr g
  refine ⟨P, ρ, S, sr, g.mono fun v H1 z => ?_⟩
  obtain ⟨ρ1, S1, a, t, x, e, g1⟩ := z
  obtain ⟨sr1, x⟩ := RR.w x
  obtain ⟨P, ρ1, S1, sr1, g1⟩ := go_bind (r := rL X.K) rL_ok sr1 g1
  refine ⟨P, ρ1, S1, sr1, g1.mono fun vs H2 z => ?_⟩
  obtain ⟨ρ2, S2, as, t2, ⟨sr2, x2⟩, e2, g2⟩ := z
  exact g2 (v :: vs) ρ2 H2 Tr.refl ⟨sr2, v, vs, rfl, t2.rv x, x2⟩
theorem ml_cons {l : CL} (h : ME X C U e f) (hl : ML X C U es l) (hs : starEach (e :: es) X.env = (false, eval e X.env) :: starEach es X.env := by rfl) : ML X C U (e :: es) (cCons f l) := PA_imp (pa_cons h hl hs) rd_cons
/-- (a, b, ..) -/
def cTup (l : CL) : CE := fun S => M.bind (l S) fun p => if p.1.length ≤ 16777216 then .ok (.w (.tup p.1), p.2) else .no
def cLst (l : CL) : CE := fun S => M.bind (l S) fun p => if p.1.length ≤ 16777216 then .ok (.fr (.lst p.1), p.2) else .no
theorem line_eq : sizeLine = 16777216 := by decide
theorem me_tup {l : CL} {x1} (h : ML X C U es l) : ME X C U (.Tuple es x1 pos) (cTup l) := by
  refine PE_imp (pe_tup h) fun σ H Q q => ?_
  obtain ⟨P, ρ, S, sr, g⟩ := q
  obtain ⟨P, ρ, S, sr, g⟩ := go_bind (r := rL X.K) rE_ok sr g
  refine ⟨P, ρ, S, sr, g.mono fun vs H1 z => ?_⟩
  obtain ⟨ρ1, S1, as, t, ⟨sr1, x⟩, e, g1⟩ := z
  dsimp only at g1
  split at g1
  · rename_i hl
    refine ⟨by rw [line_eq, ← x.length]; exact hl, fun p hp => ?_⟩
    have gr : Gr H1 (upd H1 p (.tup vs)) := Gr.new hp
    exact g1 (.ref p) ρ1 _ gr.tr ⟨sr1.gr gr, p, vs, rfl, .inl ⟨.inl upd_same, fun z => sr1.some z hp⟩, gr.rvs x⟩
  · exact g1.elim
theorem me_lst {l : CL} (h : ML X C U es l) : ME X C U (.List es pos) (cLst l) := by
  refine PE_imp (pe_lst h) fun σ H Q q => ?_
  obtain ⟨P, ρ, S, sr, g⟩ := q
  obtain ⟨P, ρ, S, sr, g⟩ := go_bind (r := rL X.K) rE_ok sr g
  refine ⟨P, ρ, S, sr, g.mono fun vs H1 z => ?_⟩
  obtain ⟨ρ1, S1, as, t, ⟨sr1, x⟩, e, g1⟩ := z
  dsimp only at g1
  split at g1
  · rename_i hl
    refine ⟨by rw [line_eq, ← x.length]; exact hl, fun p hp => ?_⟩
    have gr : Gr H1 (upd H1 p (.lst vs)) := Gr.new hp
    obtain ⟨t, y⟩ := pres_rr (r := .fr (.lst as)) (v := .ref p) sr1 ⟨gr, p, rfl, hp, vs, upd_same, RVs.mono (ρ' := ρ1) ⟨[], by simp⟩ (fun q o e _ => gr q o e) (fun q nb ne z => by
      rcases z with z | rfl
      · exact nb z
      · exact ne hp) _ _ x⟩
    exact g1 (.ref p) ρ1 _ t y
  · exact g1.elim

/-! ### branches, truth -/
def cIf (c : CT) (f g : CE) : CE := fun S => M.bind (c S) fun p => if p.1 = true then f p.2 else g p.2
theorem me_if {c : Expr} {t : CT} (hc : MT X C U c t) (ha : ME X C U a f) (hb : ME X C U b g) : ME X C U (.IfExp c a b pos) (cIf t f g) := by
  refine PE_imp (pe_ifExp hc ha hb) fun σ H Q q => ?_
  obtain ⟨P, ρ, S, sr, g⟩ := q
  obtain ⟨P, ρ, S, sr, g⟩ := go_bind (r := rT X.K) rE_ok sr g
  refine ⟨P, ρ, S, sr, g.mono fun v H1 z => ?_⟩
  obtain ⟨ρ1, S1, a, t, ⟨sr1, x⟩, e, g1⟩ := z
  subst x
  dsimp only at g1
  split at g1
  · rename_i h
    rw [if_pos h]
    exact ⟨_, ρ1, S1, sr1, g1⟩
  · rename_i h
    rw [if_neg h]
    exact ⟨_, ρ1, S1, sr1, g1⟩
/-- a bool as a test -/
def tE (f : CE) : CT := fun S => M.bind (f S) fun p => match p.1 with
  | .w (.bl b) => .ok (b, p.2)
  | _ => .no
theorem rd_tE {f : CE} (σ : L2.St) (H : Hp) (Q : Bool → Hp → Prop) (q : rd ⟨X.K, C⟩ U (rT X.K) (tE f) σ H Q) : rd ⟨X.K, C⟩ U (rE X.K) f σ H (fun x H' => ∃ k, x = .bl k ∧ Q k H') := by
  obtain ⟨P, ρ, S, sr, g⟩ := q
  obtain ⟨P, ρ, S, sr, g⟩ := go_bind (r := rE X.K) rT_ok sr g
  refine ⟨P, ρ, S, sr, g.mono fun v H1 z => ?_⟩
  obtain ⟨ρ1, S1, a, t, x, e, g1⟩ := z
  dsimp only at g1
  split at g1
  · obtain ⟨sr1, x⟩ := x
    exact ⟨_, x, g1 _ ρ1 H1 Tr.refl ⟨sr1, rfl⟩⟩
  · exact g1.elim
theorem mt_e (h : ME X C U e f) (he : ∀ whole, isTrue e X.env whole = (do let v ← whole; standAt e.pos; holding [v] (truthy v)) := by intro _; rfl) : MT X C U e (tE f) := PT_imp (pt_val h he) rd_tE
/-- a comparison as a test -/
theorem mt_cmp {op : CmpOp} {r : R2} {pf : W → W → Option R} {fa fb : CA} (ho : OpR X (compareOp op) r) (hp : P2ok X.K r pf) (ha : MA X C U a fa) (hb : MA X C U b fb) (hm : behindInMarks op b = false := by first | exact nobehind _ (by decide) (by decide) | rfl) :
    MT X C U (.Compare a [op] [b] pos) (tE (cP2 pf fa fb)) := by
  refine PT_imp (pt_cmpR ho ha hb hm) fun σ H Q q => ?_
  have q' := rd_tE σ H Q q
  obtain ⟨P, ρ, S, sr, g⟩ := q'
  obtain ⟨P, ρ, S, sr, g⟩ := go_bind (r := rA X.K) rE_ok sr g
  refine ⟨P, ρ, S, sr, g.mono fun v H1 z => ?_⟩
  obtain ⟨ρ1, S1, a, t, ⟨sr1, x⟩, e, g1⟩ := z
  obtain ⟨P, ρ1, S1, sr1, g1⟩ := go_bind (r := rA X.K) rE_ok sr1 g1
  refine ⟨P, ρ1, S1, sr1, g1.mono fun v2 H2 z => ?_⟩
  obtain ⟨ρ2, S2, a2, t2, ⟨sr2, x2⟩, e2, g2⟩ := z
  dsimp only at g2
  split at g2
  · rename_i w u ew eu
    obtain ⟨res, er, k⟩ := go_ret sr2 g2
    exact hp ρ2 H2 _ w u v v2 res (fun p b => sr2.some b) (AR.get sr2 (x.tr t2) ew) (AR.get sr2 x2 eu) er _ k
  · exact g2.elim
theorem me_cmp {op : CmpOp} {r : R2} {pf : W → W → Option R} {fa fb : CA} (ho : OpR X (compareOp op) r) (hp : P2ok X.K r pf) (ha : MA X C U a fa) (hb : MA X C U b fb) (hm : behindInMarks op b = false := by first | exact nobehind _ (by decide) (by decide) | rfl) :
    ME X C U (.Compare a [op] [b] pos) (cP2 pf fa fb) := me_p2 hp ha hb fun _ _ h1 h2 => pe_cmpR ho h1 h2 hm
theorem me_bin {op : Operator} {r : R2} {pf : W → W → Option R} {fa fb : CA} (ho : OpR X (binaryOp op) r) (hp : P2ok X.K r pf) (ha : MA X C U a fa) (hb : MA X C U b fb) : ME X C U (.BinOp a op b pos) (cP2 pf fa fb) := me_p2 hp ha hb fun _ _ h1 h2 => pe_op ho h1 h2
def tNotT (c : CT) : CT := fun S => M.bind (c S) fun p => .ok (!p.1, p.2)
def tAndT (c d : CT) : CT := fun S => M.bind (c S) fun p => if p.1 = true then d p.2 else .ok (false, p.2)
def tOrT (c d : CT) : CT := fun S => M.bind (c S) fun p => if p.1 = true then .ok (true, p.2) else d p.2
variable {tc td : CT} {rest : List Expr}
theorem rd_tnot (σ : L2.St) (H : Hp) (Q : Bool → Hp → Prop) (q : rd ⟨X.K, C⟩ U (rT X.K) (tNotT tc) σ H Q) : tNot (rd ⟨X.K, C⟩ U (rT X.K) tc) σ H Q := by
  obtain ⟨P, ρ, S, sr, g⟩ := q
  obtain ⟨P, ρ, S, sr, g⟩ := go_bind (r := rT X.K) rT_ok sr g
  refine ⟨P, ρ, S, sr, g.mono fun v H1 z => ?_⟩
  obtain ⟨ρ1, S1, a, t, ⟨sr1, x⟩, e, g1⟩ := z
  subst x
  exact g1 _ ρ1 H1 Tr.refl ⟨sr1, rfl⟩
theorem rd_tand (σ : L2.St) (H : Hp) (Q : Bool → Hp → Prop) (q : rd ⟨X.K, C⟩ U (rT X.K) (tAndT tc td) σ H Q) : tAnd (rd ⟨X.K, C⟩ U (rT X.K) tc) (rd ⟨X.K, C⟩ U (rT X.K) td) σ H Q := by
  obtain ⟨P, ρ, S, sr, g⟩ := q
  obtain ⟨P, ρ, S, sr, g⟩ := go_bind (r := rT X.K) rT_ok sr g
  refine ⟨P, ρ, S, sr, g.mono fun v H1 z => ?_⟩
  obtain ⟨ρ1, S1, a, t, ⟨sr1, x⟩, e, g1⟩ := z
  subst x
  dsimp only at g1
  split at g1
  · rename_i h
    rw [if_pos h]
    exact ⟨_, ρ1, S1, sr1, g1⟩
  · rename_i h
    rw [if_neg h]
    exact g1 _ ρ1 H1 Tr.refl ⟨sr1, rfl⟩
theorem rd_tor (σ : L2.St) (H : Hp) (Q : Bool → Hp → Prop) (q : rd ⟨X.K, C⟩ U (rT X.K) (tOrT tc td) σ H Q) : tOr (rd ⟨X.K, C⟩ U (rT X.K) tc) (rd ⟨X.K, C⟩ U (rT X.K) td) σ H Q := by
  obtain ⟨P, ρ, S, sr, g⟩ := q
  obtain ⟨P, ρ, S, sr, g⟩ := go_bind (r := rT X.K) rT_ok sr g
  refine ⟨P, ρ, S, sr, g.mono fun v H1 z => ?_⟩
  obtain ⟨ρ1, S1, a, t, ⟨sr1, x⟩, e, g1⟩ := z
  subst x
  dsimp only at g1
  split at g1
  · rename_i h
    rw [if_pos h]
    exact g1 _ ρ1 H1 Tr.refl ⟨sr1, rfl⟩
  · rename_i h
    rw [if_neg h]
    exact ⟨_, ρ1, S1, sr1, g1⟩
theorem mt_not (h : MT X C U a tc) : MT X C U (.UnaryOp .Not a pos) (tNotT tc) := PT_imp (pt_not h) rd_tnot
theorem mw_and1 (h : MT X C U a tc) : MW X C U (.BoolOp .And [a] pos) tc := pw_and1 h
theorem mw_or1 (h : MT X C U a tc) : MW X C U (.BoolOp .Or [a] pos) tc := pw_or1 h
theorem mw_and (h : MT X C U a tc) (hb : MW X C U (.BoolOp .And (b :: rest) pos) td) : MW X C U (.BoolOp .And (a :: b :: rest) pos) (tAndT tc td) := PW_imp (pw_and h hb) rd_tand
theorem mw_or (h : MT X C U a tc) (hb : MW X C U (.BoolOp .Or (b :: rest) pos) td) : MW X C U (.BoolOp .Or (a :: b :: rest) pos) (tOrT tc td) := PW_imp (pw_or h hb) rd_tor
theorem mw_t (h : MW X C U e tc) : MT X C U e tc := PW.pt h
/-- the same as values -/
def cNot (f : CE) : CE := fun S => M.bind (f S) fun p => match p.1 with
  | .w (.bl b) => .ok (.w (.bl (!b)), p.2)
  | _ => .no
def cAnd (f g : CE) : CE := fun S => M.bind (f S) fun p => match p.1 with
  | .w (.bl true) => g p.2
  | .w (.bl false) => .ok (.w (.bl false), p.2)
  | _ => .no
def cOr (f g : CE) : CE := fun S => M.bind (f S) fun p => match p.1 with
  | .w (.bl false) => g p.2
  | .w (.bl true) => .ok (.w (.bl true), p.2)
  | _ => .no
theorem me_one {op} (h : ME X C U a f) : ME X C U (.BoolOp op [a] pos) f := pe_one h
theorem me_not (h : ME X C U a f) : ME X C U (.UnaryOp .Not a pos) (cNot f) := by
  refine PE_imp (pe_not h) fun σ H Q q => ?_
  obtain ⟨P, ρ, S, sr, g⟩ := q
  obtain ⟨P, ρ, S, sr, g⟩ := go_bind (r := rE X.K) rE_ok sr g
  refine ⟨P, ρ, S, sr, g.mono fun v H1 z => ?_⟩
  obtain ⟨ρ1, S1, a, t, x, e, g1⟩ := z
  dsimp only at g1
  split at g1
  · obtain ⟨sr1, x⟩ := x
    exact ⟨_, x, g1 _ ρ1 H1 Tr.refl ⟨sr1, rfl⟩⟩
  · exact g1.elim
theorem me_and (h : ME X C U a f) (hb : ME X C U (.BoolOp .And (b :: rest) pos) g) : ME X C U (.BoolOp .And (a :: b :: rest) pos) (cAnd f g) := by
  refine PE_imp (pe_and h hb) fun σ H Q q => ?_
  obtain ⟨P, ρ, S, sr, g⟩ := q
  obtain ⟨P, ρ, S, sr, g⟩ := go_bind (r := rE X.K) rE_ok sr g
  refine ⟨P, ρ, S, sr, g.mono fun v H1 z => ?_⟩
  obtain ⟨ρ1, S1, a, t, x, e, g1⟩ := z
  dsimp only at g1
  split at g1
  · obtain ⟨sr1, x⟩ := x
    refine ⟨true, x, ?_⟩
    rw [if_pos rfl]
    exact ⟨_, ρ1, S1, sr1, g1⟩
  · obtain ⟨sr1, x⟩ := x
    refine ⟨false, x, ?_⟩
    rw [if_neg (by simp)]
    exact g1 _ ρ1 H1 Tr.refl ⟨sr1, rfl⟩
  · exact g1.elim
theorem me_or (h : ME X C U a f) (hb : ME X C U (.BoolOp .Or (b :: rest) pos) g) : ME X C U (.BoolOp .Or (a :: b :: rest) pos) (cOr f g) := by
  refine PE_imp (pe_or h hb) fun σ H Q q => ?_
  obtain ⟨P, ρ, S, sr, g⟩ := q
  obtain ⟨P, ρ, S, sr, g⟩ := go_bind (r := rE X.K) rE_ok sr g
  refine ⟨P, ρ, S, sr, g.mono fun v H1 z => ?_⟩
  obtain ⟨ρ1, S1, a, t, x, e, g1⟩ := z
  dsimp only at g1
  split at g1
  · obtain ⟨sr1, x⟩ := x
    refine ⟨false, x, ?_⟩
    rw [if_neg (by simp)]
    exact ⟨_, ρ1, S1, sr1, g1⟩
  · obtain ⟨sr1, x⟩ := x
    refine ⟨true, x, ?_⟩
    rw [if_pos rfl]
    exact g1 _ ρ1 H1 Tr.refl ⟨sr1, rfl⟩
  · exact g1.elim

/-! ### calls of defs of one's own -/
inductive F where
  | ok (r : R) (h : List MO) | exc (x : Exc) (h : List MO) | no
abbrev Fn := List W → List MO → F
/-- what a def promises that does what fn says -/
def spF (Γ : Ctx) (np : Nat) (fn : Fn) : Sp := fun vs H Q E => vs.length = np ∧ ∃ P ρ h ws, SR Γ.K P ρ ⟨[], h⟩ [] H ∧ RVs Γ.K ρ H (Bd P ρ [] []) ws vs ∧ match fn ws h with
  | .ok r h' => ∀ v ρ' H', Tr P ρ [] [] H ρ' [] [] H' → RR Γ.K P H ρ' ⟨[], h'⟩ [] H' r v → Q v H'
  | .exc x h' => ∀ cls d ρ' H', Tr P ρ [] [] H ρ' [] [] H' → SR Γ.K P ρ' ⟨[], h'⟩ [] H' → ExcR Γ ρ' H' (Bd P ρ' [] []) x cls d → E cls d H'
  | .no => False
def ownL : List Sl → L2.St → List Addr
  | .own _ :: ws, some (.ref p) :: σ => p :: ownL ws σ
  | _ :: ws, _ :: σ => ownL ws σ
  | _, _ => []
theorem mem_ownL {p : Addr} : ∀ {ws : List Sl} {σ : L2.St}, p ∈ ownL ws σ ↔ Ow ws σ p
  | [], σ => ⟨fun h => (by cases σ <;> cases h), fun ⟨i, w, e, _⟩ => (by cases i <;> cases e)⟩
  | s :: ws, [] => ⟨fun h => (by cases s <;> cases h), fun ⟨i, w, _, e⟩ => (by cases i <;> cases e)⟩
  | s :: ws, t :: σ => by
    have ih := mem_ownL (p := p) (ws := ws) (σ := σ)
    have tail : Ow ws σ p → Ow (s :: ws) (t :: σ) p := fun ⟨i, w, e, f⟩ => ⟨i + 1, w, by simpa using e, by simpa using f⟩
    have out : Ow (s :: ws) (t :: σ) p → (∃ w, s = .own w ∧ t = some (.ref p)) ∨ Ow ws σ p := fun ⟨i, w, e, f⟩ => by
      cases i with
      | zero => exact .inl ⟨w, by simpa using e, by simpa using f⟩
      | succ i => exact .inr ⟨i, w, by simpa using e, by simpa using f⟩
    have same : p ∈ ownL ws σ → (¬ ∃ w, s = .own w ∧ t = some (.ref p)) → (p ∈ ownL ws σ ↔ Ow (s :: ws) (t :: σ) p) := fun h _ => ⟨fun h => tail (ih.mp h), fun _ => h⟩
    cases s with
    | un => exact ⟨fun h => tail (ih.mp h), fun h => (out h).elim (fun ⟨_, e, _⟩ => (by cases e)) ih.mpr⟩
    | val w => exact ⟨fun h => tail (ih.mp h), fun h => (out h).elim (fun ⟨_, e, _⟩ => (by cases e)) ih.mpr⟩
    | own w =>
      cases t with
      | none => exact ⟨fun h => tail (ih.mp h), fun h => (out h).elim (fun ⟨_, _, e⟩ => (by cases e)) ih.mpr⟩
      | some v =>
        cases v with
        | ref q => exact ⟨fun h => (List.mem_cons.mp h).elim (fun e => ⟨0, w, rfl, (by rw [e] <;> rfl)⟩) fun h => tail (ih.mp h), fun h => (out h).elim (fun ⟨_, _, e⟩ => (by cases e; exact List.mem_cons_self)) fun h => List.mem_cons_of_mem _ (ih.mpr h)⟩
        | _ => exact ⟨fun h => tail (ih.mp h), fun h => (out h).elim (fun ⟨_, _, e⟩ => (by cases e)) ih.mpr⟩
theorem bd_own {P ρ : List Addr} {ws : List Sl} {σ : L2.St} {p : Addr} : Bd (P ++ ownL ws σ) ρ [] [] p ↔ Bd P ρ ws σ p := by
  constructor
  · rintro (h | h | ⟨i, w, e, _⟩)
    · rcases List.mem_append.mp h with h | h
      · exact .inl h
      · exact .inr (.inr (mem_ownL.mp h))
    · exact .inr (.inl h)
    · cases i <;> cases e
  · rintro (h | h | h)
    · exact .inl (List.mem_append_left _ h)
    · exact .inr (.inl h)
    · exact .inl (List.mem_append_right _ (mem_ownL.mpr h))
theorem bd_funext {P ρ : List Addr} {ws : List Sl} {σ : L2.St} : Bd (P ++ ownL ws σ) ρ [] [] = Bd P ρ ws σ := funext fun _ => propext bd_own
/-- the state at a call: the slots' containers are under protection -/
theorem sr_call {K : PySem.W.Frag} {P ρ : List Addr} {S : Sta} {σ : L2.St} {H : Hp} (sr : SR K P ρ S σ H) : SR K (P ++ ownL S.ws σ) ρ ⟨[], S.h⟩ [] H := by
  refine ⟨rfl, fun i w e => (by cases i <;> cases e), fun i w e => (by cases i <;> cases e), sr.hlen, sr.nd, fun k o e => ?_, fun p m => ?_⟩
  · rw [bd_funext]
    exact sr.hp k o e
  · rcases List.mem_append.mp m with m | m
    · exact sr.pr p m
    · obtain ⟨i, w, e, f⟩ := mem_ownL.mp m
      obtain ⟨q, a, b, _, c, _⟩ := sr.owns i w e
      rw [f] at a
      cases a
      exact ⟨b.ne, c⟩
/-- behind it -/
theorem tr_back {P ρ ρ' : List Addr} {ws : List Sl} {σ : L2.St} {H H' : Hp} (t : Tr (P ++ ownL ws σ) ρ [] [] H ρ' [] [] H') : Tr P ρ ws σ H ρ' ws σ H' := by
  refine ⟨fun p o e k => t.keep p o e ?_, fun p z => ?_, t.ext, t.there⟩
  · rcases k with k | k
    · exact .inl (List.mem_append_left _ k)
    · exact .inr fun z => k (bd_own.mp z)
  · have z' : Bd (P ++ ownL ws σ) ρ' [] [] p := bd_own.mpr z
    rcases t.new p z' with q | q
    · exact .inl (bd_own.mp q)
    · exact .inr q
theorem sr_back {K : PySem.W.Frag} {P ρ ρ' : List Addr} {S : Sta} {h' : List MO} {σ : L2.St} {H H' : Hp} (sr : SR K P ρ S σ H) (t : Tr (P ++ ownL S.ws σ) ρ [] [] H ρ' [] [] H') (s : SR K (P ++ ownL S.ws σ) ρ' ⟨[], h'⟩ [] H') : SR K P ρ' ⟨S.ws, h'⟩ σ H' := by
  have t' := tr_back t
  refine ⟨sr.len, fun i w e => ?_, fun i w e => ?_, s.hlen, s.nd, fun k o e => ?_, fun p m => ?_⟩
  · obtain ⟨v, a, b⟩ := sr.vals i w e
    exact ⟨v, a, t'.rv b⟩
  · obtain ⟨p, a, b, c, d, u⟩ := sr.owns i w e
    have mp : p ∈ P ++ ownL S.ws σ := List.mem_append_right _ (mem_ownL.mpr ⟨i, w, e, a⟩)
    have hp : H' p = H p := by
      cases q : H p with
      | none => exact absurd q b.ne
      | some o => exact t.keep p o q (.inl mp)
    refine ⟨p, a, OR.mono t'.ext (fun p o e n => t'.keep p o e (.inr n)) (fun p n e z => ?_) hp b, c, (s.pr p mp).2, u⟩
    rcases t'.new p z with q | q
    · exact n q
    · exact e q
  · obtain ⟨a, x, y⟩ := s.hp k o e
    rw [bd_funext] at y
    exact ⟨a, x, y⟩
  · exact s.pr p (List.mem_append_left _ m)
theorem rr_back {K : PySem.W.Frag} {P ρ ρ' : List Addr} {S : Sta} {h' : List MO} {σ : L2.St} {H H' : Hp} {r : R} {v : V} (sr : SR K P ρ S σ H) (t : Tr (P ++ ownL S.ws σ) ρ [] [] H ρ' [] [] H') (x : RR K (P ++ ownL S.ws σ) H ρ' ⟨[], h'⟩ [] H' r v) :
    RR K P H ρ' ⟨S.ws, h'⟩ σ H' r v := by
  cases r with
  | w x' =>
    obtain ⟨s, y⟩ := x
    refine ⟨sr_back sr t s, ?_⟩
    rw [bd_funext] at y
    exact y
  | fr x' =>
    obtain ⟨p, e, n, np, s, o⟩ := x
    have s0 := sr_back sr t s.drop
    have nb : ¬ Bd P ρ' S.ws σ p := fun z => s.notBd np (bd_own.mpr z)
    have nP : p ∉ P := fun z => nb (.inl z)
    have hB : ∀ q, ¬ Bd (p :: (P ++ ownL S.ws σ)) ρ' [] [] q → H' q ≠ none → ¬ Bd (p :: P) ρ' S.ws σ q := fun q n _ z => by
      rcases z with z | z
      · rcases List.mem_cons.mp z with rfl | z
        · exact n (.inl List.mem_cons_self)
        · exact n (.inl (List.mem_cons_of_mem _ (List.mem_append_left _ z)))
      · have z' : Bd P ρ' S.ws σ q := .inr z
        rcases bd_own.mpr z' with y | y | y
        · exact n (.inl (List.mem_cons_of_mem _ y))
        · exact n (.inr (.inl y))
        · exact n (.inr (.inr y))
    have hB' : ∀ q, ¬ Bd P ρ' S.ws σ q → q ≠ p → ¬ Bd (p :: P) ρ' S.ws σ q := fun q n1 n2 z => by
      rcases z with z | z
      · rcases List.mem_cons.mp z with z | z
        · exact n2 z
        · exact n1 (.inl z)
      · exact n1 (.inr z)
    refine ⟨p, e, n, nP, ⟨s0.len, fun i w e => ?_, fun i w e => ?_, s0.hlen, s0.nd, fun k o e => ?_, fun q m => ?_⟩, OR.mono (ρ' := ρ') ⟨[], by simp⟩ (fun _ _ e _ => e) hB rfl o⟩
    · obtain ⟨v, a, b⟩ := sr.vals i w e
      refine ⟨v, a, RV.mono (ρ' := ρ') t.ext (fun p o e n => (tr_back t).keep p o e (.inr n)) (fun q n1 n2 => ?_) _ _ b⟩
      refine hB' q (fun z => ?_) fun z => ?_
      · rcases (tr_back t).new q z with y | y
        · exact n1 y
        · exact n2 y
      · rw [z] at n2
        exact n2 n
    · obtain ⟨q, a, b, c, d, u⟩ := sr.owns i w e
      obtain ⟨q', a', b', c', d', u'⟩ := s0.owns i w e
      rw [a] at a'
      cases a'
      have mp : q ∈ P ++ ownL S.ws σ := List.mem_append_right _ (mem_ownL.mpr ⟨i, w, e, a⟩)
      have hq : H' q = H q := by
        cases y : H q with
        | none => exact absurd y b.ne
        | some o => exact t.keep q o y (.inl mp)
      refine ⟨q, a, OR.mono (ρ' := ρ') t.ext (fun p o e n => (tr_back t).keep p o e (.inr n)) (fun q n1 n2 => ?_) hq b, fun z => ?_, d', u'⟩
      · refine hB' q (fun z => ?_) fun z => ?_
        · rcases (tr_back t).new q z with y | y
          · exact n1 y
          · exact n2 y
        · rw [z] at n2
          exact n2 n
      · rcases List.mem_cons.mp z with z | z
        · exact b.ne (z ▸ n)
        · exact c' z
    · obtain ⟨a, y, z⟩ := s.hp k o e
      exact ⟨a, y, MR.mono (ρ' := ρ') ⟨[], by simp⟩ (fun _ _ e _ => e) hB rfl z⟩
    · rcases List.mem_cons.mp m with rfl | m
      · exact ⟨(s.pr q List.mem_cons_self).1, (s.pr q List.mem_cons_self).2⟩
      · exact s0.pr q m
def cCall (fn : Fn) (l : CL) : CE := fun S => M.bind (l S) fun p => match fn p.1 p.2.h with
  | .ok r h => .ok (r, ⟨p.2.ws, h⟩)
  | .exc x h => .exc x ⟨p.2.ws, h⟩
  | .no => .no
theorem rd_call {np : Nat} {fn : Fn} {l : CL} (hl : ∀ ws h, fn ws h ≠ .no → ws.length = np) (σ : L2.St) (H : Hp) (Q : VK) (q : rd ⟨X.K, C⟩ U (rE X.K) (cCall fn l) σ H Q) :
    rd ⟨X.K, C⟩ U (rL X.K) l σ H (fun vs H1 => spF ⟨X.K, C⟩ np fn vs H1 Q (WE U σ)) := by
  obtain ⟨P, ρ, S, sr, g⟩ := q
  obtain ⟨P0, ρ0, S0, sr0, g0⟩ := go_bind (r := rL X.K) rE_ok sr g
  refine ⟨P0, ρ0, S0, sr0, g0.mono fun vs H1 z => ?_⟩
  obtain ⟨ρ1, S1, as, t, ⟨sr1, x⟩, e, g1⟩ := z
  dsimp only at g1
  refine ⟨?_, P ++ ownL S1.ws σ, ρ1, S1.h, as, sr_call sr1, by rw [bd_funext]; exact x, ?_⟩
  · rw [← x.length]
    refine hl as S1.h fun z => ?_
    rw [z] at g1
    exact g1
  · split
    · rename_i r h' er
      rw [er] at g1
      exact fun v ρ' H' t' x' => g1 v ρ' H' (tr_back t') (rr_back sr1 t' x')
    · rename_i r h' er
      rw [er] at g1
      intro cls d ρ' H' t' s' ex
      refine g1 cls d ρ' H' (tr_back t') (sr_back sr1 t' s') ?_
      rw [bd_funext] at ex
      exact ex
    · rename_i er
      rw [er] at g1
      exact g1
end
end Mi

set_option Elab.async false
set_option linter.all false
set_option maxRecDepth 100000
set_option maxHeartbeats 4000000
/-! Statements, loops, comprehensions, changes of containers. -/
namespace Mi
open PySem PySem.Spec PyProof.Rows L2

/-! ### what changes a slot -/
section
variable {K : PySem.W.Frag} {P ρ : List Addr} {S : Sta} {σ : L2.St} {H : Hp}
theorem RV.weak {B B' : Addr → Prop} {w : W} {v : V} (hB : ∀ p, ¬ B p → H p ≠ none → ¬ B' p) (h : RV K ρ H B w v) : RV K ρ H B' w v := RV.mono ⟨[], by simp⟩ (fun _ _ e _ => e) hB w v h
theorem RVs.weak {B B' : Addr → Prop} {w : List W} {v : List V} (hB : ∀ p, ¬ B p → H p ≠ none → ¬ B' p) (h : RVs K ρ H B w v) : RVs K ρ H B' w v := RVs.mono ⟨[], by simp⟩ (fun _ _ e _ => e) hB w v h
theorem OR.weak {B B' : Addr → Prop} {w : W} {p : Addr} (hB : ∀ p, ¬ B p → H p ≠ none → ¬ B' p) (h : OR K ρ H B w p) : OR K ρ H B' w p := OR.mono ⟨[], by simp⟩ (fun _ _ e _ => e) hB rfl h
theorem MR.weak {B B' : Addr → Prop} {w : MO} {p : Addr} (hB : ∀ p, ¬ B p → H p ≠ none → ¬ B' p) (h : MR K ρ H B w p) : MR K ρ H B' w p := MR.mono ⟨[], by simp⟩ (fun _ _ e _ => e) hB rfl h
theorem nodup_ixA {l : List Addr} (hN : l.Nodup) {i j : Nat} {x : Addr} (a : l[i]? = some x) (b : l[j]? = some x) : i = j := by
  obtain ⟨h1, e1⟩ := List.getElem?_eq_some_iff.mp a
  obtain ⟨h2, e2⟩ := List.getElem?_eq_some_iff.mp b
  exact (List.getElem_inj hN).mp (e1.trans e2.symm)
theorem ow_set {ws : List Sl} {i : Nat} {s : Sl} {v : Option V} {q : Addr} (h : Ow (ws.set i s) (σ.set i v) q) : Ow ws σ q ∨ ∃ w, s = .own w ∧ v = some (.ref q) := by
  obtain ⟨j, w, e, f⟩ := h
  by_cases hj : j = i
  · subst hj
    have l1 : j < (ws.set j s).length := (List.getElem?_eq_some_iff.mp e).1
    have l2 : j < (σ.set j v).length := (List.getElem?_eq_some_iff.mp f).1
    rw [List.length_set] at l1 l2
    rw [List.getElem?_set_self l1] at e
    rw [List.getElem?_set_self l2] at f
    exact .inr ⟨w, Option.some.inj e, Option.some.inj f⟩
  · rw [List.getElem?_set_ne (Ne.symm hj)] at e f
    exact .inl ⟨j, w, e, f⟩
theorem sr_setN (sr : SR K P ρ S σ H) {i : Nat} (s : Sl) (hs : ∀ w, s ≠ .own w) (v : Option V) (hv : ∀ w, s = .val w → ∃ x, v = some x ∧ RV K ρ H (Bd P ρ S.ws σ) w x) :
    SR K P ρ { S with ws := S.ws.set i s } (σ.set i v) H ∧ ∀ p, Bd P ρ (S.ws.set i s) (σ.set i v) p → Bd P ρ S.ws σ p := by
  have sub : ∀ p, Bd P ρ (S.ws.set i s) (σ.set i v) p → Bd P ρ S.ws σ p := fun p z => by
    rcases z with z | z | z
    · exact .inl z
    · exact .inr (.inl z)
    · rcases ow_set z with z | ⟨w, e, _⟩
      · exact .inr (.inr z)
      · exact absurd e (hs w)
  have hB : ∀ p, ¬ Bd P ρ S.ws σ p → H p ≠ none → ¬ Bd P ρ (S.ws.set i s) (σ.set i v) p := fun p n _ z => n (sub p z)
  refine ⟨⟨by simpa using sr.len, fun j w' e1 => ?_, fun j w' e1 => ?_, sr.hlen, sr.nd, fun k o e => ?_, sr.pr⟩, sub⟩
  · have e2 : (S.ws.set i s)[j]? = some (.val w') := e1
    by_cases hj : j = i
    · subst hj
      have l1 : j < (S.ws.set j s).length := (List.getElem?_eq_some_iff.mp e2).1
      rw [List.length_set] at l1
      rw [List.getElem?_set_self l1] at e2
      obtain ⟨x, rfl, y⟩ := hv w' (Option.some.inj e2)
      exact ⟨x, List.getElem?_set_self (by rw [← sr.len]; exact l1), y.weak hB⟩
    · rw [List.getElem?_set_ne (Ne.symm hj)] at e2
      obtain ⟨x, y, z⟩ := sr.vals j w' e2
      exact ⟨x, by rw [List.getElem?_set_ne (Ne.symm hj)]; exact y, z.weak hB⟩
  · have e2 : (S.ws.set i s)[j]? = some (.own w') := e1
    have hj : j ≠ i := by
      rintro rfl
      have l1 : j < (S.ws.set j s).length := (List.getElem?_eq_some_iff.mp e2).1
      rw [List.length_set] at l1
      rw [List.getElem?_set_self l1] at e2
      exact hs w' (Option.some.inj e2)
    rw [List.getElem?_set_ne (Ne.symm hj)] at e2
    obtain ⟨p, a, b, c, d, u⟩ := sr.owns j w' e2
    refine ⟨p, by rw [List.getElem?_set_ne (Ne.symm hj)]; exact a, b.weak hB, c, d, fun k w2 e3 e4 => ?_⟩
    have e5 : (S.ws.set i s)[k]? = some (.own w2) := e3
    have hk : k ≠ i := by
      rintro rfl
      have l1 : k < (S.ws.set k s).length := (List.getElem?_eq_some_iff.mp e5).1
      rw [List.length_set] at l1
      rw [List.getElem?_set_self l1] at e5
      exact hs w2 (Option.some.inj e5)
    rw [List.getElem?_set_ne (Ne.symm hk)] at e5 e4
    exact u k w2 e5 e4
  · obtain ⟨a, x, y⟩ := sr.hp k o e
    exact ⟨a, x, y.weak hB⟩
theorem sr_setO {p : Addr} {x : W} (sr : SR K (p :: P) ρ S σ H) (np : p ∉ P) (o : OR K ρ H (Bd (p :: P) ρ S.ws σ) x p) {i : Nat} (hi : i < S.ws.length) :
    SR K P ρ { S with ws := S.ws.set i (.own x) } (σ.set i (some (.ref p))) H ∧ ∀ q, Bd P ρ (S.ws.set i (.own x)) (σ.set i (some (.ref p))) q → Bd P ρ S.ws σ q ∨ q = p := by
  have sub : ∀ q, Bd P ρ (S.ws.set i (.own x)) (σ.set i (some (.ref p))) q → Bd P ρ S.ws σ q ∨ q = p := fun q z => by
    rcases z with z | z | z
    · exact .inl (.inl z)
    · exact .inl (.inr (.inl z))
    · rcases ow_set z with z | ⟨w, _, e⟩
      · exact .inl (.inr (.inr z))
      · cases e
        exact .inr rfl
  have hB : ∀ q, ¬ Bd (p :: P) ρ S.ws σ q → H q ≠ none → ¬ Bd P ρ (S.ws.set i (.own x)) (σ.set i (some (.ref p))) q := fun q n _ z => by
    rcases sub q z with z | z
    · rcases z with z | z
      · exact n (.inl (List.mem_cons_of_mem _ z))
      · exact n (.inr z)
    · exact n (.inl (z ▸ List.mem_cons_self))
  have pno : ∀ (j : Nat) (w' : W), S.ws[j]? = some (.own w') → σ[j]? ≠ some (some (V.ref p)) := fun j w' e f => by
    obtain ⟨q, a, b, c, _⟩ := sr.owns j w' e
    rw [f] at a
    cases a
    exact c List.mem_cons_self
  refine ⟨⟨by simpa using sr.len, fun j w' e1 => ?_, fun j w' e1 => ?_, sr.hlen, sr.nd, fun k o e => ?_, fun q m => sr.pr q (List.mem_cons_of_mem _ m)⟩, sub⟩
  · have e2 : (S.ws.set i (.own x))[j]? = some (.val w') := e1
    have hj : j ≠ i := by
      rintro rfl
      rw [List.getElem?_set_self hi] at e2
      cases e2
    rw [List.getElem?_set_ne (Ne.symm hj)] at e2
    obtain ⟨x, y, z⟩ := sr.vals j w' e2
    exact ⟨x, by rw [List.getElem?_set_ne (Ne.symm hj)]; exact y, z.weak hB⟩
  · have e2 : (S.ws.set i (.own x))[j]? = some (.own w') := e1
    by_cases hj : j = i
    · subst hj
      rw [List.getElem?_set_self hi] at e2
      cases e2
      refine ⟨p, List.getElem?_set_self (by rw [← sr.len]; exact hi), o.weak hB, np, (sr.pr p List.mem_cons_self).2, fun k w2 e3 e4 => ?_⟩
      by_cases hk : k = j
      · exact hk
      · have e5 : (S.ws.set j (.own x))[k]? = some (.own w2) := e3
        rw [List.getElem?_set_ne (Ne.symm hk)] at e5 e4
        exact absurd e4 (pno k w2 e5)
    · rw [List.getElem?_set_ne (Ne.symm hj)] at e2
      obtain ⟨q, a, b, c, d, u⟩ := sr.owns j w' e2
      refine ⟨q, by rw [List.getElem?_set_ne (Ne.symm hj)]; exact a, b.weak hB, fun z => c (List.mem_cons_of_mem _ z), d, fun k w2 e3 e4 => ?_⟩
      have e5 : (S.ws.set i (.own x))[k]? = some (.own w2) := e3
      by_cases hk : k = i
      · subst hk
        rw [List.getElem?_set_self (by rw [← sr.len]; exact hi)] at e4
        cases e4
        exact absurd a (pno j w' e2)
      · rw [List.getElem?_set_ne (Ne.symm hk)] at e5 e4
        exact u k w2 e5 e4
  · obtain ⟨a, x, y⟩ := sr.hp k o e
    exact ⟨a, x, y.weak hB⟩
/-- an owned container's content changes -/
theorem sr_mut (sr : SR K P ρ S σ H) {i : Nat} {w w' : W} {p : Addr} {o : HO} (e : S.ws[i]? = some (.own w)) (hp : σ[i]? = some (some (.ref p))) (n : OR K ρ (upd H p o) (Bd P ρ S.ws σ) w' p) :
    SR K P ρ { S with ws := S.ws.set i (.own w') } σ (upd H p o) ∧ Tr P ρ S.ws σ H ρ (S.ws.set i (.own w')) σ (upd H p o) := by
  have li : i < S.ws.length := (List.getElem?_eq_some_iff.mp e).1
  have ow : ∀ q, Ow (S.ws.set i (.own w')) σ q ↔ Ow S.ws σ q := fun q => by
    constructor
    · rintro ⟨j, u, a, b⟩
      by_cases hj : j = i
      · subst hj
        exact ⟨j, w, e, b⟩
      · rw [List.getElem?_set_ne (Ne.symm hj)] at a
        exact ⟨j, u, a, b⟩
    · rintro ⟨j, u, a, b⟩
      by_cases hj : j = i
      · subst hj
        exact ⟨j, w', List.getElem?_set_self li, b⟩
      · exact ⟨j, u, by rw [List.getElem?_set_ne (Ne.symm hj)]; exact a, b⟩
  have bd : Bd P ρ (S.ws.set i (.own w')) σ = Bd P ρ S.ws σ := funext fun q => by
    unfold Bd
    rw [ow q]
  obtain ⟨p', a', b', c', d', u'⟩ := sr.owns i w e
  rw [hp] at a'
  cases a'
  have bp : Bd P ρ S.ws σ p := .inr (.inr ⟨i, w, e, hp⟩)
  have hk : ∀ q u, H q = some u → ¬ Bd P ρ S.ws σ q → upd H p o q = some u := fun q u e n => by
    have nq : q ≠ p := fun z => n (by rw [z]; exact bp)
    rw [upd_ne nq]
    exact e
  refine ⟨⟨by simpa using sr.len, fun j u e1 => ?_, fun j u e1 => ?_, sr.hlen, sr.nd, fun k m e => ?_, fun q m => ?_⟩, ⟨fun q u e1 k => ?_, fun q z => ?_, ⟨[], by simp⟩, fun q n => ?_⟩⟩
  · have e2 : (S.ws.set i (.own w'))[j]? = some (.val u) := e1
    have hj : j ≠ i := by
      rintro rfl
      rw [List.getElem?_set_self li] at e2
      cases e2
    rw [List.getElem?_set_ne (Ne.symm hj)] at e2
    obtain ⟨x, y, z⟩ := sr.vals j u e2
    refine ⟨x, y, ?_⟩
    show RV K ρ (upd H p o) (Bd P ρ (S.ws.set i (.own w')) σ) u x
    rw [bd]
    exact RV.mono ⟨[], by simp⟩ hk (fun _ n _ => n) _ _ z
  · have e2 : (S.ws.set i (.own w'))[j]? = some (.own u) := e1
    by_cases hj : j = i
    · subst hj
      rw [List.getElem?_set_self li] at e2
      cases e2
      refine ⟨p, hp, ?_, c', d', fun k w2 e3 e4 => ?_⟩
      · show OR K ρ (upd H p o) (Bd P ρ (S.ws.set j (.own w')) σ) w' p
        rw [bd]
        exact n
      · by_cases hk : k = j
        · exact hk
        · have e5 : (S.ws.set j (.own w'))[k]? = some (.own w2) := e3
          rw [List.getElem?_set_ne (Ne.symm hk)] at e5
          exact u' k w2 e5 e4
    · rw [List.getElem?_set_ne (Ne.symm hj)] at e2
      obtain ⟨q, a, b, c, d, uu⟩ := sr.owns j u e2
      have nq : q ≠ p := by
        rintro rfl
        exact hj (u' j u e2 a)
      refine ⟨q, a, ?_, c, d, fun k w2 e3 e4 => ?_⟩
      · show OR K ρ (upd H p o) (Bd P ρ (S.ws.set i (.own w')) σ) u q
        rw [bd]
        exact OR.mono ⟨[], by simp⟩ hk (fun _ n _ => n) (upd_ne nq) b
      · have e5 : (S.ws.set i (.own w'))[k]? = some (.own w2) := e3
        by_cases hk : k = i
        · subst hk
          rw [hp] at e4
          cases e4
          exact absurd rfl nq
        · rw [List.getElem?_set_ne (Ne.symm hk)] at e5
          exact uu k w2 e5 e4
  · obtain ⟨a, x, y⟩ := sr.hp k m e
    have nq : a ≠ p := by
      rintro rfl
      exact d' (List.mem_of_getElem? x)
    refine ⟨a, x, ?_⟩
    show MR K ρ (upd H p o) (Bd P ρ (S.ws.set i (.own w')) σ) m a
    rw [bd]
    exact MR.mono ⟨[], by simp⟩ hk (fun _ n _ => n) (upd_ne nq) y
  · have nq : q ≠ p := by
      rintro rfl
      exact c' m
    rw [upd_ne nq]
    exact sr.pr q m
  · by_cases hq : q = p
    · subst hq
      rcases k with k | k
      · exact absurd k c'
      · exact absurd bp k
    · rw [upd_ne hq]
      exact e1
  · rw [bd] at z
    exact .inl z
  · by_cases hq : q = p
    · subst hq
      rw [upd_same]
      intro z
      cases z
    · rw [upd_ne hq]
      exact n
/-- an object's content changes -/
theorem sr_obj (sr : SR K P ρ S σ H) {k : Nat} {m m' : MO} {p : Addr} {o : HO} (e : S.h[k]? = some m) (hp : ρ[k]? = some p) (n : MR K ρ (upd H p o) (Bd P ρ S.ws σ) m' p) :
    SR K P ρ { S with h := S.h.set k m' } σ (upd H p o) ∧ Tr P ρ S.ws σ H ρ S.ws σ (upd H p o) := by
  have lk : k < S.h.length := (List.getElem?_eq_some_iff.mp e).1
  have mp : p ∈ ρ := List.mem_of_getElem? hp
  have bp : Bd P ρ S.ws σ p := .inr (.inl mp)
  have hk : ∀ q u, H q = some u → ¬ Bd P ρ S.ws σ q → upd H p o q = some u := fun q u e n => by
    have nq : q ≠ p := fun z => n (by rw [z]; exact bp)
    rw [upd_ne nq]
    exact e
  refine ⟨⟨sr.len, fun j u e1 => ?_, fun j u e1 => ?_, by simpa using sr.hlen, sr.nd, fun j u e1 => ?_, fun q m => ?_⟩, ⟨fun q u e1 k => ?_, fun q z => .inl z, ⟨[], by simp⟩, fun q n => ?_⟩⟩
  · obtain ⟨x, y, z⟩ := sr.vals j u e1
    exact ⟨x, y, RV.mono ⟨[], by simp⟩ hk (fun _ n _ => n) _ _ z⟩
  · obtain ⟨q, a, b, c, d, uu⟩ := sr.owns j u e1
    have nq : q ≠ p := by
      rintro rfl
      exact d mp
    exact ⟨q, a, OR.mono ⟨[], by simp⟩ hk (fun _ n _ => n) (upd_ne nq) b, c, d, uu⟩
  · have e2 : (S.h.set k m')[j]? = some u := e1
    by_cases hj : j = k
    · subst hj
      rw [List.getElem?_set_self lk] at e2
      cases e2
      exact ⟨p, hp, n⟩
    · rw [List.getElem?_set_ne (Ne.symm hj)] at e2
      obtain ⟨a, x, y⟩ := sr.hp j u e2
      have nq : a ≠ p := by
        rintro rfl
        exact hj (nodup_ixA sr.nd x hp)
      exact ⟨a, x, MR.mono ⟨[], by simp⟩ hk (fun _ n _ => n) (upd_ne nq) y⟩
  · have nq : q ≠ p := by
      rintro rfl
      exact (sr.pr q m).2 mp
    rw [upd_ne nq]
    exact sr.pr q m
  · by_cases hq : q = p
    · subst hq
      rcases k with k | k
      · exact absurd mp (sr.pr q k).2
      · exact absurd bp k
    · rw [upd_ne hq]
      exact e1
  · by_cases hq : q = p
    · subst hq
      rw [upd_same]
      intro z
      cases z
    · rw [upd_ne hq]
      exact n
end
end Mi

set_option Elab.async false
set_option linter.all false
set_option maxRecDepth 100000
set_option maxHeartbeats 4000000
namespace Mi
open PySem PySem.Spec PyProof.Rows L2

inductive Fl where
  | nx (s : Sta) | rt (r : R) (s : Sta) | bk (s : Sta) | ct (s : Sta) | exc (x : Exc) (s : Sta) | no
abbrev CS := Sta → Fl
@[reducible] def M.thn {α : Type} (m : M (α × Sta)) (k : α × Sta → Fl) : Fl := match m with
  | .ok a => k a
  | .exc x s => .exc x s
  | .no => .no
@[reducible] def Fl.thn (m : Fl) (k : CS) : Fl := match m with
  | .nx s => k s
  | o => o
def GoS (Γ : Ctx) (U : WX) (P ρ : List Addr) (S : Sta) (σ : L2.St) (H : Hp) (m : Fl) (D : Ends) : Prop :=
  match m with
  | .nx S' => ∀ σ' ρ' H', Tr P ρ S.ws σ H ρ' S'.ws σ' H' → SR Γ.K P ρ' S' σ' H' → D.nx σ' H'
  | .bk S' => ∀ σ' ρ' H', Tr P ρ S.ws σ H ρ' S'.ws σ' H' → SR Γ.K P ρ' S' σ' H' → D.bk σ' H'
  | .ct S' => ∀ σ' ρ' H', Tr P ρ S.ws σ H ρ' S'.ws σ' H' → SR Γ.K P ρ' S' σ' H' → D.ct σ' H'
  | .rt r S' => ∀ v σ' ρ' H', Tr P ρ S.ws σ H ρ' S'.ws σ' H' → RR Γ.K P H ρ' S' σ' H' r v → D.rt v H'
  | .exc x S' => ∀ cls d σ' ρ' H', Tr P ρ S.ws σ H ρ' S'.ws σ' H' → SR Γ.K P ρ' S' σ' H' → ExcR Γ ρ' H' (Bd P ρ' S'.ws σ') x cls d → U cls d σ' H'
  | .no => False
def rdS (Γ : Ctx) (U : WX) (f : CS) : TS := fun D σ H => ∃ P ρ S, SR Γ.K P ρ S σ H ∧ GoS Γ U P ρ S σ H (f S) D
section
variable {Γ : Ctx} {U : WX} {α β : Type} {r : Rl α β} {P ρ ρ1 : List Addr} {S S1 : Sta} {σ σ1 : L2.St} {H H1 : Hp} {D D' : Ends}
theorem GoS.shift (t : Tr P ρ S.ws σ H ρ1 S1.ws σ1 H1) {m : Fl} (h : GoS Γ U P ρ S σ H m D) : GoS Γ U P ρ1 S1 σ1 H1 m D := by
  cases m with
  | nx s => exact fun σ' ρ' H' t' x => h σ' ρ' H' (t.trans t') x
  | bk s => exact fun σ' ρ' H' t' x => h σ' ρ' H' (t.trans t') x
  | ct s => exact fun σ' ρ' H' t' x => h σ' ρ' H' (t.trans t') x
  | rt r s => exact fun v σ' ρ' H' t' x => h v σ' ρ' H' (t.trans t') (RR.back x t.there)
  | exc x s => exact fun cls d σ' ρ' H' t' x e => h cls d σ' ρ' H' (t.trans t') x e
  | no => exact h
theorem gos_bind {f : Sta → M (α × Sta)} {k : α × Sta → Fl} (sr : SR Γ.K P ρ S σ H) (g : GoS Γ U P ρ S σ H (M.thn (f S) k) D) :
    rd Γ U r f σ H (fun v H1 => ∃ ρ1 S1 a, Tr P ρ S.ws σ H ρ1 S1.ws σ H1 ∧ r P σ H ρ1 S1 H1 a v ∧ f S = .ok (a, S1) ∧ GoS Γ U P ρ S σ H (k (a, S1)) D) := by
  refine ⟨P, ρ, S, sr, ?_⟩
  cases e : f S with
  | ok a =>
    rw [e] at g
    obtain ⟨a, S1⟩ := a
    exact fun v ρ1 H1 t x => ⟨ρ1, S1, a, t, x, rfl, g⟩
  | exc x s =>
    rw [e] at g
    exact fun cls d ρ' H' t' x e => g cls d σ ρ' H' t' x e
  | no =>
    rw [e] at g
    exact g
end
def MS (X : Cx) (C : Nat → Addr) (U : WX) (s : Stmt) (f : CS) : Prop := PS X s (rdS ⟨X.K, C⟩ U f)
def MSs (X : Cx) (C : Nat → Addr) (U : WX) (s : List Stmt) (f : CS) : Prop := PSs X s (rdS ⟨X.K, C⟩ U f)
section
variable {X : Cx} {C : Nat → Addr} {U : WX} {e a b : Expr} {es : List Expr} {f g : CE} {pos : Pos} {s : Stmt} {ss : List Stmt} {F G : CS}

/-! ### blocks -/
def sNil : CS := fun S => .nx S
def sSeq (f g : CS) : CS := fun S => Fl.thn (f S) g
theorem mss_nil : MSs X C U [] sNil := PSs_imp pss_nil fun D σ H q => by
  obtain ⟨P, ρ, S, sr, g⟩ := q
  exact g σ ρ H Tr.refl sr
theorem mss_one (h : MS X C U s F) : MSs X C U [s] F := pss_one h
theorem mss_cons (h : MS X C U s F) (hs : MSs X C U ss G) : MSs X C U (s :: ss) (sSeq F G) := PSs_imp (pss_cons h hs) fun D σ H q => by
  obtain ⟨P, ρ, S, sr, g⟩ := q
  refine ⟨P, ρ, S, sr, ?_⟩
  unfold sSeq at g
  cases e : F S with
  | nx S1 =>
    rw [e] at g
    exact fun σ' ρ' H' t x => ⟨P, ρ', S1, x, GoS.shift t g⟩
  | rt r s =>
    rw [e] at g
    exact g
  | bk s =>
    rw [e] at g
    exact g
  | ct s =>
    rw [e] at g
    exact g
  | exc x s =>
    rw [e] at g
    exact g
  | no =>
    rw [e] at g
    exact g

/-! ### names, returns, branches -/
def R.sl : R → Sl
  | .w x => .val x
  | .fr x => .own x
def stSl (i : Nat) (r : R) (S : Sta) : Fl := if i < S.ws.length then .nx { S with ws := S.ws.set i r.sl } else .no
theorem store_rr {K : PySem.W.Frag} {P ρ : List Addr} {S : Sta} {σ : L2.St} {H0 H : Hp} {r : R} {v : V} {i : Nat} (x : RR K P H0 ρ S σ H r v) (hi : i < S.ws.length) :
    SR K P ρ { S with ws := S.ws.set i r.sl } (σ.set i (some v)) H ∧ ∀ q, Bd P ρ (S.ws.set i r.sl) (σ.set i (some v)) q → Bd P ρ S.ws σ q ∨ H0 q = none := by
  cases r with
  | w x' =>
    obtain ⟨sr, y⟩ := x
    obtain ⟨a, b⟩ := sr_setN sr (i := i) (.val x') (fun w z => by cases z) (some v) (fun w z => by cases z; exact ⟨v, rfl, y⟩)
    exact ⟨a, fun q z => .inl (b q z)⟩
  | fr x' =>
    obtain ⟨p, rfl, n, np, sr, o⟩ := x
    obtain ⟨a, b⟩ := sr_setO sr np o hi
    exact ⟨a, fun q z => (b q z).imp id fun e => by rw [e]; exact n⟩
theorem tr_store {P ρ ρ1 : List Addr} {ws ws1 ws2 : List Sl} {σ σ2 : L2.St} {H H1 : Hp} (t : Tr P ρ ws σ H ρ1 ws1 σ H1) (h : ∀ q, Bd P ρ1 ws2 σ2 q → Bd P ρ1 ws1 σ q ∨ H q = none) : Tr P ρ ws σ H ρ1 ws2 σ2 H1 :=
  ⟨t.keep, fun q z => (h q z).elim (t.new q) .inr, t.ext, t.there⟩
def sSet (i : Nat) (f : CE) : CS := fun S => M.thn (f S) fun p => stSl i p.1 p.2
theorem rd_set {i : Nat} {D : Ends} {σ : L2.St} {H : Hp} (q : rdS ⟨X.K, C⟩ U (sSet i f) D σ H) : tAsg (rd ⟨X.K, C⟩ U (rE X.K) f) (gName i) D σ H := by
  obtain ⟨P, ρ, S, sr, g⟩ := q
  obtain ⟨P0, ρ0, S0, sr0, g0⟩ := gos_bind (r := rE X.K) sr g
  refine ⟨P0, ρ0, S0, sr0, g0.mono fun v H1 z => ?_⟩
  obtain ⟨ρ1, S1, a, t, x, e, g1⟩ := z
  unfold stSl at g1
  dsimp only at g1
  split at g1
  · rename_i hi
    obtain ⟨sr1, n⟩ := store_rr x hi
    exact g1 _ ρ1 H1 (tr_store t n) sr1
  · exact g1.elim
theorem ms_set {i : Nat} {x : Str} {pos' : Pos} (hN : X.N.Nodup) (he : ME X C U e f) (hi : X.N[i]? = some x := by rfl) (hx : Loc X.env.scope x := by first | exact .inl rfl | exact .inr rfl) (hs : swapsWith e (some (.Name x pos')) pos.line X.env = pure false := by rfl)
    (hf : X.fn x = true ∨ X.env.scope.names.lookup x = some .local := by first | exact .inl rfl | exact .inr rfl) : MS X C U (.Assign [.Name x pos'] e pos) (sSet i f) := PS_imp (ps_set hN hi hx he hs hf) fun _ _ _ q => rd_set q
def sExp (f : CE) : CS := fun S => M.thn (f S) fun p => .nx p.2
theorem ms_expr (he : ME X C U e f) (hs : swapsWith e none pos.line X.env = pure false := by rfl) : MS X C U (.Expr e pos) (sExp f) := PS_imp (ps_expr he hs) fun D σ H q => by
  obtain ⟨P, ρ, S, sr, g⟩ := q
  obtain ⟨P0, ρ0, S0, sr0, g0⟩ := gos_bind (r := rE X.K) sr g
  refine ⟨P0, ρ0, S0, sr0, g0.mono fun v H1 z => ?_⟩
  obtain ⟨ρ1, S1, a, t, x, e, g1⟩ := z
  exact g1 σ ρ1 H1 t (RR.w x).1
def sRet (f : CE) : CS := fun S => M.thn (f S) fun p => .rt p.1 p.2
theorem ms_ret (he : ME X C U e f) : MS X C U (.Return (some e) pos) (sRet f) := PS_imp (ps_ret he) fun D σ H q => by
  obtain ⟨P, ρ, S, sr, g⟩ := q
  obtain ⟨P0, ρ0, S0, sr0, g0⟩ := gos_bind (r := rE X.K) sr g
  refine ⟨P0, ρ0, S0, sr0, g0.mono fun v H1 z => ?_⟩
  obtain ⟨ρ1, S1, a, t, x, e, g1⟩ := z
  exact g1 v σ ρ1 H1 t x
def sRetN : CS := fun S => .rt (.w .non) S
theorem ms_retN : MS X C U (.Return none pos) sRetN := PS_imp ps_retN fun D σ H q => by
  obtain ⟨P, ρ, S, sr, g⟩ := q
  exact g .non σ ρ H Tr.refl ⟨sr, rfl⟩
def sCt : CS := fun S => .ct S
def sBk : CS := fun S => .bk S
theorem ms_ct : MS X C U (.Continue pos) sCt := PS_imp ps_continue fun D σ H q => by
  obtain ⟨P, ρ, S, sr, g⟩ := q
  exact g σ ρ H Tr.refl sr
theorem ms_bk : MS X C U (.Break pos) sBk := PS_imp ps_break fun D σ H q => by
  obtain ⟨P, ρ, S, sr, g⟩ := q
  exact g σ ρ H Tr.refl sr
theorem ms_pass : MS X C U (.Pass pos) sNil := PS_imp ps_pass fun D σ H q => by
  obtain ⟨P, ρ, S, sr, g⟩ := q
  exact g σ ρ H Tr.refl sr
def sIf (c : CT) (f g : CS) : CS := fun S => M.thn (c S) fun p => if p.1 = true then f p.2 else g p.2
theorem ms_if {c : Expr} {sa sb : List Stmt} {t : CT} (hc : MT X C U c t) (ha : MSs X C U sa F) (hb : MSs X C U sb G) : MS X C U (.If c sa sb pos) (sIf t F G) := PS_imp (ps_if hc ha hb) fun D σ H q => by
  obtain ⟨P, ρ, S, sr, g⟩ := q
  obtain ⟨P0, ρ0, S0, sr0, g0⟩ := gos_bind (r := rT X.K) sr g
  refine ⟨P0, ρ0, S0, sr0, g0.mono fun v H1 z => ?_⟩
  obtain ⟨ρ1, S1, a, t, ⟨sr1, x⟩, e, g1⟩ := z
  subst x
  dsimp only at g1
  split at g1
  · rename_i h
    rw [if_pos h]
    exact ⟨P, ρ1, S1, sr1, GoS.shift t g1⟩
  · rename_i h
    rw [if_neg h]
    exact ⟨P, ρ1, S1, sr1, GoS.shift t g1⟩

/-! ### while -/
def loopW : Nat → CT → CS → CS
  | 0, _, _ => fun _ => .no
  | n + 1, c, b => fun S => M.thn (c S) fun p => if p.1 = true then (match b p.2 with
      | .nx S' => loopW n c b S'
      | .ct S' => loopW n c b S'
      | .bk S' => .nx S'
      | .rt r S' => .rt r S'
      | .exc x S' => .exc x S'
      | .no => .no) else .nx p.2
/-- turns that a while may have -/
def turns : Nat := 1099511627776
def sWhile (c : CT) (b : CS) : CS := fun S => loopW turns c b S
theorem ms_while {c : Expr} {body : List Stmt} {t : CT} (hp : PassesOwn (model X.prog X.w) X.A X.env X.xe) (hc : MT X C U c t) (hb : MSs X C U body F) : MS X C U (.While c body [] pos) (sWhile t F) := PS_imp (ps_while hp hc hb) fun D σ H q => by
  obtain ⟨P, ρ, S, sr, g⟩ := q
  refine ⟨fun m σ H => ∃ P ρ S, SR X.K P ρ S σ H ∧ GoS ⟨X.K, C⟩ U P ρ S σ H (loopW m t F S) D, ⟨turns, P, ρ, S, sr, g⟩, ?_⟩
  rintro m σ H ⟨P, ρ, S, sr, g⟩
  cases m with
  | zero => exact g.elim
  | succ m =>
    obtain ⟨P0, ρ0, S0, sr0, g0⟩ := gos_bind (r := rT X.K) sr g
    refine ⟨P0, ρ0, S0, sr0, g0.mono fun v H1 z => ?_⟩
    obtain ⟨ρ1, S1, a, t1, ⟨sr1, x⟩, e, g1⟩ := z
    subst x
    dsimp only at g1
    split at g1
    · rename_i h
      rw [if_pos h]
      have g2 := GoS.shift t1 g1
      refine ⟨fun σ' H' => ∃ P ρ S, SR X.K P ρ S σ' H' ∧ GoS ⟨X.K, C⟩ U P ρ S σ' H' (loopW m t F S) D, fun σ' H' n => ⟨m, Nat.lt_succ_self m, n⟩, P, ρ1, S1, sr1, ?_⟩
      cases eb : F S1 with
      | nx S' =>
        rw [eb] at g2
        exact fun σ' ρ' H' t x => ⟨P, ρ', S', x, GoS.shift t g2⟩
      | ct S' =>
        rw [eb] at g2
        exact fun σ' ρ' H' t x => ⟨P, ρ', S', x, GoS.shift t g2⟩
      | bk S' =>
        rw [eb] at g2
        exact g2
      | rt r S' =>
        rw [eb] at g2
        exact g2
      | exc x S' =>
        rw [eb] at g2
        exact g2
      | no =>
        rw [eb] at g2
        exact g2
    · rename_i h
      rw [if_neg h]
      exact g1 σ ρ1 H1 t1 sr1

/-! ### targets -/
abbrev Tg := W → Sta → Option Sta
/-- slots changed at some places alone -/
def Ch (is : List Nat) (σ σ' : L2.St) : Prop := σ'.length = σ.length ∧ ∀ j, j ∉ is → σ'[j]? = σ[j]?
theorem Ch.refl {is : List Nat} {σ : L2.St} : Ch is σ σ := ⟨rfl, fun _ _ => rfl⟩
theorem Ch.app {is js : List Nat} {σ σ' σ2 : L2.St} (a : Ch is σ σ') (b : Ch js σ' σ2) : Ch (is ++ js) σ σ2 := ⟨b.1.trans a.1, fun j n => (b.2 j fun z => n (List.mem_append_right _ z)).trans (a.2 j fun z => n (List.mem_append_left _ z))⟩
def rdG (K : PySem.W.Frag) (is : List Nat) (g : Tg) : TG := fun v σ H Q => ∃ P ρ S w, SR K P ρ S σ H ∧ RV K ρ H (Bd P ρ S.ws σ) w v ∧ match g w S with
  | some S' => ∀ σ', Ch is σ σ' → Tr P ρ S.ws σ H ρ S'.ws σ' H → SR K P ρ S' σ' H → Q σ' H
  | none => False
def rdGs (K : PySem.W.Frag) (is : List Nat) (g : List W → Sta → Option Sta) : TGs := fun vs σ H Q => ∃ P ρ S ws, SR K P ρ S σ H ∧ RVs K ρ H (Bd P ρ S.ws σ) ws vs ∧ match g ws S with
  | some S' => ∀ σ', Ch is σ σ' → Tr P ρ S.ws σ H ρ S'.ws σ' H → SR K P ρ S' σ' H → Q σ' H
  | none => False
theorem PG_imp {X : Cx} {e : Expr} {t t' : TG} (h : PG X e t) (i : ∀ v σ H Q, t' v σ H Q → t v σ H Q) : PG X e t' := ⟨fun pins s σ H v u Q I r q => h.run pins s σ H v u Q I r (i v σ H Q q)⟩
theorem PGs_imp {X : Cx} {e : List Expr} {t t' : TGs} (h : PGs X e t) (i : ∀ v σ H Q, t' v σ H Q → t v σ H Q) : PGs X e t' := ⟨fun pins s σ H v u Q I r q => h.run pins s σ H v u Q I r (i v σ H Q q)⟩
def MG (X : Cx) (e : Expr) (is : List Nat) (g : Tg) : Prop := PG X e (rdG X.K is g)
def MGs (X : Cx) (e : List Expr) (is : List Nat) (g : List W → Sta → Option Sta) : Prop := PGs X e (rdGs X.K is g)
def gN (i : Nat) : Tg := fun w S => if i < S.ws.length then some { S with ws := S.ws.set i (.val w) } else none
theorem mg_name {i : Nat} {x : Str} (hN : X.N.Nodup) (hi : X.N[i]? = some x := by rfl) (hx : Loc X.env.scope x := by first | exact .inl rfl | exact .inr rfl)
    (hf : X.fn x = true ∨ X.env.scope.names.lookup x = some .local := by first | exact .inl rfl | exact .inr rfl) : MG X (.Name x pos) [i] (gN i) := PG_imp (pg_name hN hi hx hf) fun v σ H Q q => by
  obtain ⟨P, ρ, S, w, sr, rv, g⟩ := q
  unfold gN at g
  split at g
  · rename_i S' e
    split at e
    · cases e
      obtain ⟨a, b⟩ := sr_setN sr (i := i) (.val w) (fun w z => by cases z) (some v) (fun w z => by cases z; exact ⟨v, rfl, rv⟩)
      exact g _ ⟨by simp, fun j n => List.getElem?_set_ne (fun z => n (by simp [z]))⟩ (tr_store Tr.refl fun q z => .inl (b q z)) a
    · cases e
  · exact g.elim
def gsN : List W → Sta → Option Sta := fun ws S => match ws with
  | [] => some S
  | _ => none
def gsC (g : Tg) (gs : List W → Sta → Option Sta) : List W → Sta → Option Sta := fun ws S => match ws with
  | [] => none
  | w :: ws => match g w S with
    | some S' => gs ws S'
    | none => none
theorem mgs_nil : MGs X [] [] gsN := PGs_imp pgs_nil fun v σ H Q q => by
  obtain ⟨P, ρ, S, ws, sr, rv, g⟩ := q
  cases ws with
  | nil => exact ⟨rv, g σ Ch.refl Tr.refl sr⟩
  | cons w ws => exact g.elim
theorem mgs_cons {is js : List Nat} {gg : Tg} {gs : List W → Sta → Option Sta} (h : MG X e is gg) (hs : MGs X es js gs) (ha : (assignEach (e :: es) X.env).map (·.2) = assign e X.env :: (assignEach es X.env).map (·.2) := by rfl) : MGs X (e :: es) (is ++ js) (gsC gg gs) := PGs_imp (pgs_cons h hs ha) fun v σ H Q q => by
  obtain ⟨P, ρ, S, ws, sr, rv, g⟩ := q
  cases ws with
  | nil => exact g.elim
  | cons w ws =>
    obtain ⟨x, r, e, rv1, rv2⟩ := rv
    refine ⟨x, r, e, P, ρ, S, w, sr, rv1, ?_⟩
    unfold gsC at g
    cases eg : gg w S with
    | none =>
      simp only [eg] at g
    | some S1 =>
      simp only [eg] at g
      intro σ' ch t sr1
      refine ⟨P, ρ, S1, ws, sr1, t.rvs rv2, ?_⟩
      split
      · rename_i S2 e2
        rw [e2] at g
        exact fun σ2 c2 t2 s2 => g σ2 (ch.app c2) (t.trans t2) s2
      · rename_i e2
        rw [e2] at g
        exact g
/-- a, b, .. out of a tuple, a list -/
def gTu (n : Nat) (gs : List W → Sta → Option Sta) : Tg := fun w S => match w with
  | .tup ws => if ws.length = n then gs ws S else none
  | _ => none
def gLi (n : Nat) (gs : List W → Sta → Option Sta) : Tg := fun w S => match w with
  | .lst ws => if ws.length = n then gs ws S else none
  | _ => none
theorem mg_tup {is : List Nat} {k : Nat} {n : Nat} {gs : List W → Sta → Option Sta} (hc : X.calm = true) (h : MGs X es is gs) (hn : (assignEach es X.env).length = n := by rfl) (hst : (assignEach es X.env).findIdx? (·.1) = none := by rfl) : MG X (.Tuple es k pos) is (gTu n gs) := PG_imp (pg_tup hc h hn hst) fun v σ H Q q => by
  obtain ⟨P, ρ, S, w, sr, rv, g⟩ := q
  unfold gTu at g
  cases w with
  | tup ws =>
    obtain ⟨p, vs, e, tv, r⟩ := rv
    dsimp only at g
    split at g
    · rename_i S' e1
      split at e1
      · rename_i hl
        refine ⟨p, vs, e, tv.sq, by rw [← r.length]; exact hl, P, ρ, S, ws, sr, r, ?_⟩
        rw [e1]
        exact g
      · cases e1
    · exact g.elim
  | _ => exact g.elim
theorem mg_lst {is : List Nat} {k : Nat} {n : Nat} {gs : List W → Sta → Option Sta} (hc : X.calm = true) (h : MGs X es is gs) (hn : (assignEach es X.env).length = n := by rfl) (hst : (assignEach es X.env).findIdx? (·.1) = none := by rfl) : MG X (.Tuple es k pos) is (gLi n gs) := PG_imp (pg_lst hc h hn hst) fun v σ H Q q => by
  obtain ⟨P, ρ, S, w, sr, rv, g⟩ := q
  unfold gLi at g
  cases w with
  | lst ws =>
    obtain ⟨p, vs, e, tv, r⟩ := rv
    dsimp only at g
    split at g
    · rename_i S' e1
      split at e1
      · rename_i hl
        refine ⟨p, vs, e, .inl (.inl tv.1), by rw [← r.length]; exact hl, P, ρ, S, ws, sr, r, ?_⟩
        rw [e1]
        exact g
      · cases e1
    · exact g.elim
  | _ => exact g.elim
@[reducible] def ofG (o : Option Sta) : Fl := match o with
  | some S => .nx S
  | none => .no
def sAsg (g : Tg) (f : CE) : CS := fun S => M.thn (f S) fun p => ofG (g p.1.val p.2)
theorem ms_asg {is : List Nat} {tg : Expr} {gg : Tg} (he : ME X C U e f) (hg : MG X tg is gg) (hs : swapsWithSole [tg] e pos.line X.env = pure false := by rfl) (hw : swappedStores [tg] e X.env = pure none := by rfl)
    (h1 : (assignEach [tg] X.env).map (·.2) = [assign tg X.env] := by rfl) : MS X C U (.Assign [tg] e pos) (sAsg gg f) := PS_imp (ps_asg he hg hs hw h1) fun D σ H q => by
  obtain ⟨P, ρ, S, sr, g⟩ := q
  obtain ⟨P0, ρ0, S0, sr0, g0⟩ := gos_bind (r := rE X.K) sr g
  refine ⟨P0, ρ0, S0, sr0, g0.mono fun v H1 z => ?_⟩
  obtain ⟨ρ1, S1, a, t, x, e, g1⟩ := z
  obtain ⟨sr1, rv⟩ := RR.w x
  refine ⟨P, ρ1, S1, a.val, sr1, rv, ?_⟩
  dsimp only at g1
  split
  · rename_i S' e1
    rw [e1] at g1
    exact fun σ' _ t' s' => g1 σ' ρ1 H1 (t.trans t') s'
  · rename_i e1
    rw [e1] at g1
    exact g1
/-- a, b = x, y -/
def sPar (i j : Nat) (f g : CE) : CS := fun S => M.thn (f S) fun p => M.thn (g p.2) fun q => if i < q.2.ws.length ∧ j < q.2.ws.length then .nx { q.2 with ws := (q.2.ws.set i p.1.sl).set j q.1.sl } else .no

/-! ### for -/
/-- an iterator that hands out these, whatever is done meanwhile -/
def ItOk (K : PySem.W.Frag) (P ρ : List Addr) (ws : List Sl) (σ : L2.St) (H : Hp) (J : It) (its : List W) : Prop :=
  ∀ P2 ρ2 S2 σ2 H2, Tr P ρ ws σ H ρ2 S2.ws σ2 H2 → SR K P2 ρ2 S2 σ2 H2 → (∀ p ∈ P2, p ∈ P ∨ H p = none) → (∀ i, its.length ≤ i → J.stop i H2) ∧ ∀ i w, its[i]? = some w → J.go i H2 ∧ ∀ x H3, J.yld i H2 x H3 → Gr H2 H3 ∧ RV K ρ2 H3 (Bd P2 ρ2 S2.ws σ2) w x
abbrev CI := Sta → M (List W × Sta)
def rdI (Γ : Ctx) (U : WX) (ci : CI) : TI := fun σ H R => ∃ P ρ S, SR Γ.K P ρ S σ H ∧ match ci S with
  | .ok (its, S') => ∀ ρ' H' J, Tr P ρ S.ws σ H ρ' S'.ws σ H' → SR Γ.K P ρ' S' σ H' → ItOk Γ.K P ρ' S'.ws σ H' J its → R J H'
  | .exc x S' => ∀ cls d ρ' H', Tr P ρ S.ws σ H ρ' S'.ws σ H' → SR Γ.K P ρ' S' σ H' → ExcR Γ ρ' H' (Bd P ρ' S'.ws σ) x cls d → U cls d σ H'
  | .no => False
theorem PI_imp {X : Cx} {tg e : Expr} {t t' : TI} (h : PI X tg e t) (i : ∀ σ H Q, t' σ H Q → t σ H Q) : PI X tg e t' := ⟨fun pins s σ H R I q => h.run pins s σ H R I (i σ H R q)⟩
def MI (X : Cx) (C : Nat → Addr) (U : WX) (tg e : Expr) (f : CI) : Prop := PI X tg e (rdI ⟨X.K, C⟩ U f)
def forL (g : Tg) (b : CS) : List W → CS
  | [] => fun S => .nx S
  | w :: ws => fun S => match g w S with
    | none => .no
    | some S1 => match b S1 with
      | .nx S' => forL g b ws S'
      | .ct S' => forL g b ws S'
      | .bk S' => .nx S'
      | .rt r S' => .rt r S'
      | .exc x S' => .exc x S'
      | .no => .no
def sFor (ci : CI) (g : Tg) (b : CS) : CS := fun S => M.thn (ci S) fun p => forL g b p.1 p.2
theorem ms_for {is : List Nat} {tg iter : Expr} {body : List Stmt} {ci : CI} {gg : Tg} (hp : PassesOwn (model X.prog X.w) X.A X.env X.xe) (hc : X.calm = true) (hi : MI X C U tg iter ci) (hg : MG X tg is gg) (hb : MSs X C U body F)
    (hs : ∀ x, foldedSetIterable iter X.env x = pure x := by intro _; rfl) : MS X C U (.For tg iter body [] pos) (sFor ci gg F) := PS_imp (ps_for hp hc hi hg hb hs) fun D σ H q => by
  obtain ⟨P, ρ, S, sr, g⟩ := q
  refine ⟨P, ρ, S, sr, ?_⟩
  unfold sFor at g
  cases e : ci S with
  | no =>
    rw [e] at g
    exact g
  | exc x S' =>
    rw [e] at g
    exact fun cls d ρ' H' t s ex => g cls d σ ρ' H' t s ex
  | ok p =>
    rw [e] at g
    obtain ⟨its, S1⟩ := p
    intro ρ1 H1 J t1 sr1 io
    refine ⟨fun i m σ' H' => m = its.length - i ∧ i ≤ its.length ∧ ∃ ρ2 S2, Tr P ρ1 S1.ws σ H1 ρ2 S2.ws σ' H' ∧ SR X.K P ρ2 S2 σ' H' ∧ GoS ⟨X.K, C⟩ U P ρ2 S2 σ' H' (forL gg F (its.drop i) S2) D,
      ⟨its.length, by omega, by omega, ρ1, S1, Tr.refl, sr1, GoS.shift t1 g⟩, ?_⟩
    rintro i m σ' H' ⟨rfl, hi, ρ2, S2, t2, sr2, g2⟩
    obtain ⟨st, gy⟩ := io P ρ2 S2 σ' H' t2 sr2 (fun p m => .inl m)
    by_cases hlt : i < its.length
    · refine .inr ?_
      obtain ⟨go, yy⟩ := gy i its[i] (List.getElem?_eq_getElem hlt)
      refine ⟨go, fun σ3 H3 => ∃ ρ2 S2, Tr P ρ1 S1.ws σ H1 ρ2 S2.ws σ3 H3 ∧ SR X.K P ρ2 S2 σ3 H3 ∧ GoS ⟨X.K, C⟩ U P ρ2 S2 σ3 H3 (forL gg F (its.drop (i + 1)) S2) D, fun σ3 H3 n => ⟨its.length - (i + 1), by omega, rfl, hlt, n⟩, fun x H3 y => ?_⟩
      obtain ⟨gr, rv⟩ := yy x H3 y
      rw [List.drop_eq_getElem_cons hlt] at g2
      unfold forL at g2
      have t3 : Tr P ρ2 S2.ws σ' H' ρ2 S2.ws σ' H3 := gr.tr
      refine ⟨P, ρ2, S2, its[i], sr2.gr gr, rv, ?_⟩
      split
      · rename_i S3 e3
        rw [e3] at g2
        intro σ3 _ t4 sr3
        have g3 := GoS.shift (t3.trans t4) g2
        have t5 := t2.trans (t3.trans t4)
        refine ⟨P, ρ2, S3, sr3, ?_⟩
        dsimp only at g3
        cases eb : F S3 with
        | nx S' =>
          rw [eb] at g3
          exact fun σ' ρ' H' t x => ⟨ρ', S', t5.trans t, x, GoS.shift t g3⟩
        | ct S' =>
          rw [eb] at g3
          exact fun σ' ρ' H' t x => ⟨ρ', S', t5.trans t, x, GoS.shift t g3⟩
        | bk S' =>
          rw [eb] at g3
          exact g3
        | rt r S' =>
          rw [eb] at g3
          exact g3
        | exc x S' =>
          rw [eb] at g3
          exact g3
        | no =>
          rw [eb] at g3
          exact g3
      · rename_i e3
        rw [e3] at g2
        exact g2
    · refine .inl ⟨st i (by omega), ?_⟩
      have ed : its.drop i = [] := List.drop_eq_nil_of_le (by omega)
      rw [ed] at g2
      exact g2 σ' ρ2 H' Tr.refl sr2
end
end Mi

set_option Elab.async false
set_option linter.all false
set_option maxRecDepth 100000
set_option maxHeartbeats 4000000
namespace Mi
open PySem PySem.Spec PyProof.Rows L2
section
variable {X : Cx} {C : Nat → Addr} {U : WX} {e a b : Expr} {es : List Expr} {f g : CE} {pos : Pos} {s : Stmt} {ss : List Stmt} {F G : CS} {tg : Expr}

/-! ### iterators -/
/-- over a list, a tuple, a text -/
def seqItems : W → Option (List W)
  | .lst ws => some ws
  | .rol ws => some ws
  | .tup ws => some ws
  | .str s => some (s.cps.toList.map fun c => .str ⟨#[c]⟩)
  | _ => none
@[reducible] def ofI (o : Option (List W)) (S : Sta) : M (List W × Sta) := match o with
  | some l => .ok (l, S)
  | none => .no
def iSeq (f : CE) : CI := fun S => M.bind (f S) fun p => ofI (seqItems p.1.val) p.2
def iAny (K : PySem.W.Frag) (te : TE) : TI := fun σ H R => te σ H fun v H1 => (∃ a, v = .ref a ∧ (∃ xs, SqL K H1 a xs) ∧ R (Itl K a) H1) ∨ (∃ a, v = .ref a ∧ (∃ xs, SqT K H1 a xs) ∧ R (Itt K a) H1) ∨ ∃ x, v = .str x ∧ R (Its x) H1
theorem pi_any {l : Expr} {tl : TE} (hl : PE X l tl) : PI X tg l (iAny X.K tl) := by
  refine ⟨fun pins s σ H R I h => ?_⟩
  refine thn (hl.run pins s σ H _ I h) fun v s1 ⟨x, H1, I1, r1, q1⟩ => ?_
  rcases q1 with ⟨a, e, ⟨xs, hq⟩, q⟩ | ⟨a, e, ⟨xs, hq⟩, q⟩ | ⟨x, e, q⟩
  · subst e
    cases r1
    obtain ⟨its, rv, p, hz⟩ := I1.list hq
    refine wpAny_pyIter_list p.isList ?_
    refine ⟨s1.heap.objs.size, [s1.heap.objs.size], _, _, H1, rfl, I1.kept (t' := s1.toks) fun b o e => Heap.get?_push_of_some _ e, turn_list a _, ⟨_, Heap.get?_push_size _ rfl, rfl, rfl⟩, fun b hb => ?_, q⟩
    have e : b = s1.heap.objs.size := by simpa using hb
    subst e
    exact I1.fpOk (Nat.le_refl _) (I1.hok.fresh (Nat.le_refl _))
  · subst e
    cases r1
    obtain ⟨its, rv, p, hz⟩ := I1.tuple hq
    refine wpAny_pyIter_tuple (show s1.heap.IsTuple a its.toArray from p) ?_
    refine ⟨s1.heap.objs.size, [s1.heap.objs.size], _, _, H1, rfl, I1.kept (t' := s1.toks) fun b o e => Heap.get?_push_of_some _ e, turn_tuple a _, ⟨_, Heap.get?_push_size _ rfl, rfl, rfl⟩, fun b hb => ?_, q⟩
    have e : b = s1.heap.objs.size := by simpa using hb
    subst e
    exact I1.fpOk (Nat.le_refl _) (I1.hok.fresh (Nat.le_refl _))
  · subst e
    obtain ⟨t, rfl⟩ := r1
    cases ha : x.cps.all (· < 128)
    · exact wpAny_pyIter_wide ha (pi_one (tk := s1.toks) I1 _ (turn_str _ x t "str_iterator" (.inr rfl)) ⟨_, Heap.get?_push_size _ rfl, rfl, rfl⟩ q)
    · exact wpAny_pyIter_ascii ha (pi_one (tk := s1.toks) I1 _ (turn_str _ x t "str_ascii_iterator" (.inl rfl)) ⟨_, Heap.get?_push_size _ rfl, rfl, rfl⟩ q)
theorem lv_tr {K : PySem.W.Frag} {P ρ ρ' : List Addr} {ws ws' : List Sl} {σ σ' : L2.St} {H H' : Hp} {p : Addr} {vs : List V} (t : Tr P ρ ws σ H ρ' ws' σ' H') (h : LV K H (Bd P ρ ws σ) p vs) : SqL K H' p vs := by
  rcases h with ⟨h, n⟩ | h
  · exact .inl (Rd.mono (fun p o e n => t.keep p o e (.inr n)) h n)
  · exact LV.sq (B := fun _ => True) (.inr h)
theorem tv_tr {K : PySem.W.Frag} {P ρ ρ' : List Addr} {ws ws' : List Sl} {σ σ' : L2.St} {H H' : Hp} {p : Addr} {vs : List V} (t : Tr P ρ ws σ H ρ' ws' σ' H') (h : TV K H (Bd P ρ ws σ) p vs) : SqT K H' p vs := by
  rcases h with ⟨h, n⟩ | h
  · exact .inl (Rd.mono (fun p o e n => t.keep p o e (.inr n)) h n)
  · exact TV.sq (B := fun _ => True) (.inr h)
theorem rvs_it {K : PySem.W.Frag} {P P2 ρ ρ' : List Addr} {ws ws' : List Sl} {σ σ' : L2.St} {H H' : Hp} {its : List W} {vs : List V} (t : Tr P ρ ws σ H ρ' ws' σ' H') (hP : ∀ p ∈ P2, p ∈ P ∨ H p = none) (r : RVs K ρ H (Bd P ρ ws σ) its vs) :
    RVs K ρ' H' (Bd P2 ρ' ws' σ') its vs := RVs.mono t.ext (fun p o e n => t.keep p o e (.inr n)) (fun p n e z => by
  rcases z with z | z
  · rcases hP p z with y | y
    · exact n (.inl y)
    · exact e y
  · rcases t.new p (.inr z) with y | y
    · exact n y
    · exact e y) _ _ r
theorem it_list {K : PySem.W.Frag} {P ρ : List Addr} {ws : List Sl} {σ : L2.St} {H : Hp} {p : Addr} {vs : List V} {its : List W} (h : LV K H (Bd P ρ ws σ) p vs) (r : RVs K ρ H (Bd P ρ ws σ) its vs) : ItOk K P ρ ws σ H (Itl K p) its := by
  intro P2 ρ2 S2 σ2 H2 t sr hP
  have q := lv_tr t h
  refine ⟨fun i hi => ⟨vs, q, by rw [← r.length]; exact hi⟩, fun i w e => ?_⟩
  obtain ⟨v, ev, rv⟩ := (rvs_it t hP r).get e
  refine ⟨⟨vs, v, q, ev⟩, fun x H3 y => ?_⟩
  obtain ⟨rfl, y⟩ := y
  have z := y vs q
  rw [ev] at z
  cases z
  exact ⟨Gr.refl, rv⟩
theorem it_tup {K : PySem.W.Frag} {P ρ : List Addr} {ws : List Sl} {σ : L2.St} {H : Hp} {p : Addr} {vs : List V} {its : List W} (h : TV K H (Bd P ρ ws σ) p vs) (r : RVs K ρ H (Bd P ρ ws σ) its vs) : ItOk K P ρ ws σ H (Itt K p) its := by
  intro P2 ρ2 S2 σ2 H2 t sr hP
  have q := tv_tr t h
  refine ⟨fun i hi => ⟨vs, q, by rw [← r.length]; exact hi⟩, fun i w e => ?_⟩
  obtain ⟨v, ev, rv⟩ := (rvs_it t hP r).get e
  refine ⟨⟨vs, v, q, ev⟩, fun x H3 y => ?_⟩
  obtain ⟨rfl, y⟩ := y
  have z := y vs q
  rw [ev] at z
  cases z
  exact ⟨Gr.refl, rv⟩
theorem it_str {K : PySem.W.Frag} {P ρ : List Addr} {ws : List Sl} {σ : L2.St} {H : Hp} {x : Str} : ItOk K P ρ ws σ H (Its x) (x.cps.toList.map fun c => W.str ⟨#[c]⟩) := by
  intro P2 ρ2 S2 σ2 H2 t sr hP
  refine ⟨fun i hi => by
    show x.cps.size ≤ i
    simpa using hi, fun i w e => ?_⟩
  rw [List.getElem?_map] at e
  cases q : x.cps.toList[i]? with
  | none => rw [q] at e; cases e
  | some c =>
    rw [q] at e
    cases e
    refine ⟨by
      show i < x.cps.size
      have := (List.getElem?_eq_some_iff.mp q).1
      simpa using this, fun y H3 yy => ?_⟩
    obtain ⟨rfl, d, ed, rfl⟩ := yy
    have : d = c := by
      have q' : x.cps[i]? = some c := by simpa using q
      rw [q'] at ed
      cases ed
      rfl
    subst this
    exact ⟨Gr.refl, rfl⟩
theorem mi_seq (h : ME X C U e f) : MI X C U tg e (iSeq f) := PI_imp (pi_any h) fun σ H R q => by
  obtain ⟨P, ρ, S, sr, g⟩ := q
  refine ⟨P, ρ, S, sr, ?_⟩
  unfold iSeq at g
  cases e : f S with
  | no =>
    rw [e] at g
    exact g
  | exc x S' =>
    rw [e] at g
    exact g
  | ok p =>
    obtain ⟨r, S1⟩ := p
    rw [e] at g
    intro v ρ1 H1 t x
    obtain ⟨sr1, rv⟩ := RR.w x
    dsimp only [M.bind] at g
    cases hw : r.val with
    | lst ws =>
      rw [hw] at rv g
      obtain ⟨p, vs, rfl, lv, r⟩ := rv
      exact .inl ⟨p, rfl, ⟨vs, .inl (.inl lv.1)⟩, g ρ1 H1 _ t sr1 (it_list (.inl ⟨.inl lv.1, lv.2⟩) r)⟩
    | rol ws =>
      rw [hw] at rv g
      obtain ⟨p, vs, rfl, lv, r⟩ := rv
      exact .inl ⟨p, rfl, ⟨vs, lv.sq⟩, g ρ1 H1 _ t sr1 (it_list lv r)⟩
    | tup ws =>
      rw [hw] at rv g
      obtain ⟨p, vs, rfl, lv, r⟩ := rv
      exact .inr (.inl ⟨p, rfl, ⟨vs, lv.sq⟩, g ρ1 H1 _ t sr1 (it_tup lv r)⟩)
    | str z =>
      rw [hw] at rv g
      exact .inr (.inr ⟨z, rv, g ρ1 H1 _ t sr1 it_str⟩)
    | non =>
      rw [hw] at g
      exact g.elim
    | bl =>
      rw [hw] at g
      exact g.elim
    | int =>
      rw [hw] at g
      exact g.elim
    | dic =>
      rw [hw] at g
      exact g.elim
    | obj =>
      rw [hw] at g
      exact g.elim
def rngItems (lo : Int) (n : Nat) : List W := (List.range n).map fun (i : Nat) => W.int (lo + (i : Int))
theorem it_rng {K : PySem.W.Frag} {P ρ : List Addr} {ws : List Sl} {σ : L2.St} {H : Hp} {lo : Int} {n : Nat} : ItOk K P ρ ws σ H (Itr lo n) (rngItems lo n) := by
  intro P2 ρ2 S2 σ2 H2 t sr hP
  refine ⟨fun i hi => by
    show n ≤ i
    simpa [rngItems] using hi, fun i w e => ?_⟩
  unfold rngItems at e
  rw [List.getElem?_map] at e
  cases q : (List.range n)[i]? with
  | none => rw [q] at e; cases e
  | some c =>
    rw [q] at e
    cases e
    obtain ⟨l, ec⟩ := List.getElem?_eq_some_iff.mp q
    rw [List.getElem_range] at ec
    subst ec
    refine ⟨by
      show i < n
      simpa using l, fun y H3 yy => ?_⟩
    obtain ⟨rfl, rfl⟩ := yy
    exact ⟨Gr.refl, rfl⟩
def iRng1' (a : CE) : CI := fun S => M.bind (a S) fun p => match p.1.val with
  | .int j => if Sm j then .ok (rngItems 0 j.toNat, p.2) else .no
  | _ => .no
def iRng2' (a b : CE) : CI := fun S => M.bind (a S) fun p => M.bind (b p.2) fun q => match p.1.val, q.1.val with
  | .int i, .int j => if Sm i ∧ Sm j then .ok (rngItems i (j - i).toNat, q.2) else .no
  | _, _ => .no
theorem mi_rng1 {p : Pos} (hg : Gl X "range") (hm : X.mg "range" = none) (h : ME X C U a f) (hs : starEach [a] X.env = [(false, eval a X.env)] := by rfl) : MI X C U tg (.Call (.Name "range" p) [a] [] pos) (iRng1' f) :=
  PI_imp (pi_range1 hg hm (pa_cons h pa_nil hs) hs) fun σ H R q => by
  obtain ⟨P, ρ, S, sr, g⟩ := q
  refine ⟨P, ρ, S, sr, ?_⟩
  unfold iRng1' at g
  cases e : f S with
  | no =>
    rw [e] at g
    exact g
  | exc x S' =>
    rw [e] at g
    exact g
  | ok p =>
    obtain ⟨r, S1⟩ := p
    rw [e] at g
    intro v ρ1 H1 t x
    obtain ⟨sr1, rv⟩ := RR.w x
    dsimp only [M.bind] at g
    cases hw : r.val with
    | int j =>
      rw [hw] at rv g
      dsimp only at g
      cases (show v = V.int j from rv)
      split at g
      · rename_i its S' e2
        split at e2
        · rename_i hj
          cases e2
          exact ⟨j, rfl, (sm62 hj).1, (sm62 hj).2, g ρ1 H1 _ t sr1 it_rng⟩
        · cases e2
      · rename_i x S' e2
        split at e2 <;> cases e2
      · exact g.elim
    | _ =>
      rw [hw] at g
      exact g.elim

/-! ### comprehensions -/
def wipeS (own : List Nat) (S : Sta) : Sta := { S with ws := own.foldr (fun i ws => ws.set i .un) S.ws }
/-- nothing may be raised -/
@[reducible] def M.bindN {α β : Type} (m : M α) (f : α → M β) : M β := match m with
  | .ok a => f a
  | _ => .no
def lcL (own : List Nat) (g : Tg) (c : CT) (elt : CE) : List W → List W → CE
  | [], acc => fun S => .ok (.fr (.lst acc), S)
  | w :: ws, acc => fun S => match g w S with
    | none => .no
    | some S1 => M.bindN (c S1) fun p => if p.1 = true then
        M.bindN (elt p.2) fun q => if acc.length < 16777216 then lcL own g c elt ws (acc ++ [q.1.val]) (wipeS own q.2) else .no
      else lcL own g c elt ws acc (wipeS own p.2)
def cLc (own : List Nat) (ci : CI) (g : Tg) (c : CT) (elt : CE) : CE := fun S => M.bind (ci S) fun p => lcL own g c elt p.1 [] (wipeS own p.2)
theorem wipeS_cons (i : Nat) (own : List Nat) (S : Sta) : wipeS (i :: own) S = { S with ws := (wipeS own S).ws.set i .un } := rfl
theorem sr_wipe {K : PySem.W.Frag} {P ρ : List Addr} {S : Sta} {σ : L2.St} {H : Hp} (sr : SR K P ρ S σ H) : ∀ own : List Nat, SR K P ρ (wipeS own S) (wipe σ own) H ∧ ∀ p, Bd P ρ (wipeS own S).ws (wipe σ own) p → Bd P ρ S.ws σ p
  | [] => ⟨sr, fun _ h => h⟩
  | i :: own => by
    obtain ⟨a, b⟩ := sr_wipe sr own
    obtain ⟨c, d⟩ := sr_setN a (i := i) .un (fun w z => by cases z) none (fun w z => by cases z)
    exact ⟨c, fun p h => b p (d p h)⟩
theorem wipeS_get {own : List Nat} {S : Sta} {i : Nat} {s : Sl} (h : (wipeS own S).ws[i]? = some s) (hs : s ≠ .un) : i ∉ own ∧ S.ws[i]? = some s := by
  induction own with
  | nil => exact ⟨by simp, h⟩
  | cons j own ih =>
    rw [wipeS_cons] at h
    have h' : ((wipeS own S).ws.set j .un)[i]? = some s := h
    by_cases hj : j = i
    · subst hj
      have l := (List.getElem?_eq_some_iff.mp h').1
      rw [List.length_set] at l
      rw [List.getElem?_set_self l] at h'
      exact absurd (Option.some.inj h').symm hs
    · rw [List.getElem?_set_ne hj] at h'
      obtain ⟨a, b⟩ := ih h'
      exact ⟨by simp only [List.mem_cons, not_or]; exact ⟨fun e => hj e.symm, a⟩, b⟩
/-- the same state, seen from slots that agree where anything is known -/
theorem sr_sig {K : PySem.W.Frag} {P ρ : List Addr} {S : Sta} {σ σ' : L2.St} {H : Hp} (sr : SR K P ρ S σ H) (hl : σ'.length = σ.length) (h : ∀ (i : Nat) (s : Sl), S.ws[i]? = some s → s ≠ .un → σ'[i]? = σ[i]?) : SR K P ρ S σ' H ∧ Bd P ρ S.ws σ' = Bd P ρ S.ws σ := by
  have bd : Bd P ρ S.ws σ' = Bd P ρ S.ws σ := funext fun q => by
    have ow : Ow S.ws σ' q ↔ Ow S.ws σ q := by
      constructor
      · rintro ⟨i, w, a, b⟩
        exact ⟨i, w, a, by rw [← h i _ a (by intro z; cases z)]; exact b⟩
      · rintro ⟨i, w, a, b⟩
        exact ⟨i, w, a, by rw [h i _ a (by intro z; cases z)]; exact b⟩
    unfold Bd
    rw [ow]
  refine ⟨⟨by rw [hl]; exact sr.len, fun i w e => ?_, fun i w e => ?_, sr.hlen, sr.nd, ?_, sr.pr⟩, bd⟩
  · rw [bd, h i _ e (by intro z; cases z)]
    exact sr.vals i w e
  · rw [bd, h i _ e (by intro z; cases z)]
    obtain ⟨p, a, b, c, d, u⟩ := sr.owns i w e
    refine ⟨p, a, b, c, d, fun j w' e1 e2 => u j w' e1 ?_⟩
    rw [← h j _ e1 (by intro z; cases z)]
    exact e2
  · rw [bd]
    exact sr.hp
theorem tr_unguard {P ρ ρ1 ρ2 : List Addr} {ws ws1 ws2 : List Sl} {σ σ1 σ2 : L2.St} {H H1 H2 : Hp} {p : Addr} (n : H p = none) (t : Tr P ρ ws σ H ρ1 ws1 σ1 H1) (u : Tr (p :: P) ρ1 ws1 σ1 H1 ρ2 ws2 σ2 H2) : Tr P ρ ws σ H ρ2 ws2 σ2 H2 where
  keep := fun q o e k => by
    have hq : q ≠ p := fun z => by rw [z, n] at e; cases e
    refine u.keep q o (t.keep q o e k) ?_
    rcases k with k | k
    · exact .inl (List.mem_cons_of_mem _ k)
    · refine .inr fun z => ?_
      have z' : Bd P ρ1 ws1 σ1 q := by
        rcases z with z | z
        · exact .inl ((List.mem_cons.mp z).resolve_left hq)
        · exact .inr z
      rcases t.new q z' with y | y
      · exact k y
      · rw [e] at y; cases y
  new := fun q z => by
    have z' : Bd (p :: P) ρ2 ws2 σ2 q := by
      rcases z with z | z
      · exact .inl (List.mem_cons_of_mem _ z)
      · exact .inr z
    rcases u.new q z' with y | y
    · rcases y with y | y
      · rcases List.mem_cons.mp y with y | y
        · exact .inr (y ▸ n)
        · exact t.new q (.inl y)
      · exact t.new q (.inr y)
    · refine .inr ?_
      cases e : H q with
      | none => rfl
      | some o => exact absurd y (t.there q (by rw [e]; intro z; cases z))
  ext := by
    obtain ⟨m, rfl⟩ := t.ext
    obtain ⟨m2, rfl⟩ := u.ext
    exact ⟨m ++ m2, by simp⟩
  there := fun q n => u.there q (t.there q n)
theorem mi_rng2 {p : Pos} (hg : Gl X "range") (hm : X.mg "range" = none) (h : ME X C U a f) (h2 : ME X C U b g) (hs : starEach [a, b] X.env = [(false, eval a X.env), (false, eval b X.env)] := by rfl) (hs2 : starEach [b] X.env = [(false, eval b X.env)] := by rfl) :
    MI X C U tg (.Call (.Name "range" p) [a, b] [] pos) (iRng2' f g) :=
  PI_imp (pi_range2 hg hm (pa_cons h (pa_cons h2 pa_nil hs2) (by rw [hs, hs2])) hs hs2) fun σ H R q => by
  obtain ⟨P, ρ, S, sr, gg⟩ := q
  refine ⟨P, ρ, S, sr, ?_⟩
  unfold iRng2' at gg
  cases e : f S with
  | no =>
    rw [e] at gg
    exact gg
  | exc x S' =>
    rw [e] at gg
    exact gg
  | ok p =>
    obtain ⟨r, S1⟩ := p
    rw [e] at gg
    intro v ρ1 H1 t x
    obtain ⟨sr1, rv⟩ := RR.w x
    refine ⟨P, ρ1, S1, sr1, ?_⟩
    dsimp only [M.bind] at gg
    cases e2 : g S1 with
    | no =>
      rw [e2] at gg
      exact gg
    | exc x S' =>
      rw [e2] at gg
      exact fun cls d ρ' H' t' s' ex => gg cls d ρ' H' (t.trans t') s' ex
    | ok p2 =>
      obtain ⟨r2, S2⟩ := p2
      rw [e2] at gg
      intro v2 ρ2 H2 t2 x2
      obtain ⟨sr2, rv2⟩ := RR.w x2
      have rv := t2.rv rv
      dsimp only at gg
      cases hw : r.val with
      | int i =>
        rw [hw] at rv gg
        cases hw2 : r2.val with
        | int j =>
          rw [hw2] at rv2 gg
          dsimp only at gg
          cases (show v = V.int i from rv)
          cases (show v2 = V.int j from rv2)
          split at gg
          · rename_i its S' e2
            split at e2
            · rename_i hj
              cases e2
              exact ⟨i, j, rfl, ⟨(sm62 hj.1).1, (sm62 hj.1).2, sm62 hj.2⟩, gg ρ2 H2 _ (t.trans t2) sr2 it_rng⟩
            · cases e2
          · rename_i x S' e2
            split at e2 <;> cases e2
          · exact gg.elim
        | _ =>
          rw [hw2] at gg
          exact gg.elim
      | _ =>
        rw [hw] at gg
        exact gg.elim
/-- what lies under protection may change -/
theorem sr_prot {K : PySem.W.Frag} {P ρ : List Addr} {S : Sta} {σ : L2.St} {H : Hp} {D : Addr} {o : HO} (sr : SR K P ρ S σ H) (m : D ∈ P) : SR K P ρ S σ (upd H D o) := by
  have hk : ∀ q u, H q = some u → ¬ Bd P ρ S.ws σ q → upd H D o q = some u := fun q u e n => by
    have nq : q ≠ D := fun z => n (by rw [z]; exact .inl m)
    rw [upd_ne nq]
    exact e
  refine ⟨sr.len, fun i w e => ?_, fun i w e => ?_, sr.hlen, sr.nd, fun k u e => ?_, fun q mq => ⟨?_, (sr.pr q mq).2⟩⟩
  · obtain ⟨v, a, b⟩ := sr.vals i w e
    exact ⟨v, a, RV.mono ⟨[], by simp⟩ hk (fun _ n _ => n) _ _ b⟩
  · obtain ⟨p, a, b, c, d⟩ := sr.owns i w e
    have nq : p ≠ D := fun z => c (z ▸ m)
    exact ⟨p, a, OR.mono ⟨[], by simp⟩ hk (fun _ n _ => n) (upd_ne nq) b, c, d⟩
  · obtain ⟨a, b, c⟩ := sr.hp k u e
    have nq : a ≠ D := fun z => (sr.pr D m).2 (z ▸ List.mem_of_getElem? b)
    exact ⟨a, b, MR.mono ⟨[], by simp⟩ hk (fun _ n _ => n) (upd_ne nq) c⟩
  · by_cases hq : q = D
    · rw [hq, upd_same]
      intro z
      cases z
    · rw [upd_ne hq]
      exact (sr.pr q mq).1
theorem tr_D {P ρ ρ1 : List Addr} {ws ws1 : List Sl} {σ σ1 : L2.St} {H H1 : Hp} {D : Addr} {o : HO} (n : H D = none) (t : Tr P ρ ws σ H ρ1 ws1 σ1 H1) : Tr P ρ ws σ H ρ1 ws1 σ1 (upd H1 D o) := by
  refine ⟨fun p u e k => ?_, t.new, t.ext, fun p z => ?_⟩
  · have hp : p ≠ D := fun z => by rw [z, n] at e; cases e
    rw [upd_ne hp]
    exact t.keep p u e k
  · have hp : p ≠ D := fun y => z (y ▸ n)
    rw [upd_ne hp]
    exact t.there p z
theorem wipe_out' {σ : L2.St} {i : Nat} : ∀ {vs : List Nat}, i ∉ vs → (wipe σ vs)[i]? = σ[i]?
  | [], _ => rfl
  | v :: vs, h => by
    simp only [List.mem_cons, not_or] at h
    unfold wipe
    rw [List.getElem?_set_ne (Ne.symm h.1)]
    exact wipe_out' h.2
theorem wipe_in {σ : L2.St} {i : Nat} : ∀ {vs : List Nat}, i ∈ vs → i < σ.length → (wipe σ vs)[i]? = some none
  | [], h, _ => by cases h
  | v :: vs, h, l => by
    unfold wipe
    by_cases e : v = i
    · subst e
      exact List.getElem?_set_self (by rw [wipe_length]; exact l)
    · rw [List.getElem?_set_ne e]
      exact wipe_in ((List.mem_cons.mp h).resolve_left (Ne.symm e)) l
theorem wipe_ch {σ σ' : L2.St} {own is : List Nat} (h : Ch is (wipe σ own) σ') (hs : ∀ i ∈ is, i ∈ own) : wipe σ' own = wipe σ own := by
  have hl : σ'.length = σ.length := h.1.trans (wipe_length σ own)
  apply List.ext_getElem?
  intro i
  by_cases m : i ∈ own
  · by_cases l : i < σ.length
    · rw [wipe_in m l, wipe_in m (by rw [hl]; exact l)]
    · rw [List.getElem?_eq_none (by rw [wipe_length]; omega), List.getElem?_eq_none (by rw [wipe_length]; omega)]
  · rw [wipe_out' m, wipe_out' m, h.2 i (fun z => m (hs i z)), wipe_out' m]
theorem tr_wipe {P ρ : List Addr} {S : Sta} {σ : L2.St} {H : Hp} {own : List Nat} : Tr P ρ S.ws σ H ρ (wipeS own S).ws σ H := by
  refine ⟨fun _ _ e _ => e, fun p z => .inl ?_, ⟨[], by simp⟩, fun _ n => n⟩
  rcases z with z | z | ⟨i, w, a, b⟩
  · exact .inl z
  · exact .inr (.inl z)
  · exact .inr (.inr ⟨i, w, (wipeS_get a (by intro z; cases z)).2, b⟩)
/-- slots forgotten in the state alone -/
theorem sr_wipeS {K : PySem.W.Frag} {P ρ : List Addr} {S : Sta} {σ σ0 : L2.St} {H : Hp} {own : List Nat} (sr : SR K P ρ S σ H) (h : wipe σ own = wipe σ0 own) : SR K P ρ (wipeS own S) σ0 H ∧ ∀ p, Bd P ρ (wipeS own S).ws σ0 p → Bd P ρ S.ws σ p := by
  obtain ⟨a, b⟩ := sr_wipe sr own
  have hl : σ0.length = (wipe σ own).length := by rw [h, wipe_length]
  obtain ⟨c, d⟩ := sr_sig (σ' := σ0) a hl (fun i s e n => by rw [h, wipe_out' (wipeS_get e n).1])
  exact ⟨c, fun p z => b p (by rw [← d]; exact z)⟩
section
variable {is own : List Nat} {gg : Tg} {c : CT} {elt : CE}
abbrev UN : WX := fun _ _ _ _ => False
/-- the turns of a comprehension: the list so far lies at D -/
theorem lc_turns {Y : Cx} (hK : Y.K = X.K) {P ρ : List Addr} {S : Sta} {σ : L2.St} {H : Hp} {Q : VK} {its : List W} {D : Addr} {J : It} (his : ∀ i ∈ is, i ∈ own) (hD : H D = none) (sr : SR X.K P ρ S σ H) (io : ItOk X.K P ρ S.ws σ H J its)
    (g : Go ⟨X.K, C⟩ U (rE X.K) P ρ S σ H (lcL own gg c elt its [] (wipeS own S)) Q) :
    ∃ W : Nat → Nat → Hp → Prop, (∃ m, W 0 m (upd H D (.lst []))) ∧ ∀ i m H, W i m H →
      (J.stop i H ∧ Q (.ref D) H) ∨ (J.go i H ∧ ∃ Nx : Hp → Prop, (∀ H', Nx H' → ∃ m', m' < m ∧ W (i + 1) m' H') ∧ ∀ x H', J.yld i H x H' → rdG X.K is gg x (wipe σ own) H' fun σ2 H2 => wipe σ2 own = wipe σ own ∧ rd ⟨X.K, C⟩ UN (rT X.K) c σ2 H2 fun b H3 =>
        if b = true then rd ⟨X.K, C⟩ UN (rE X.K) elt σ2 H3 fun y H4 => ∃ acc, H4 D = some (.lst acc) ∧ acc.length < sizeLine ∧ Nx (upd H4 D (.lst (acc ++ [y]))) else Nx H3) := by
  have gr0 : Gr H (upd H D (.lst [])) := Gr.new hD
  have nP : D ∉ P := fun z => (sr.pr D z).1 hD
  let Inv := fun (i : Nat) (H' : Hp) => i ≤ its.length ∧ ∃ ρ2 S2 acc vs, Tr P ρ S.ws σ H ρ2 S2.ws σ H' ∧ SR X.K (D :: P) ρ2 S2 σ H' ∧ H' D = some (.lst vs) ∧ RVs X.K ρ2 H' (Bd (D :: P) ρ2 S2.ws σ) acc vs ∧
    (∀ i s, S2.ws[i]? = some s → s ≠ .un → i ∉ own) ∧ Go ⟨X.K, C⟩ U (rE X.K) P ρ S σ H (lcL own gg c elt (its.drop i) acc S2) Q
  have hP : ∀ p ∈ D :: P, p ∈ P ∨ H p = none := fun p m => (List.mem_cons.mp m).elim (fun e => .inr (e ▸ hD)) .inl
  refine ⟨fun i m H' => m = its.length - i ∧ Inv i H', ⟨its.length, by simp, Nat.zero_le _, ρ, wipeS own S, [], [], ?_, ?_, upd_same, rfl, fun i s e n => (wipeS_get e n).1, g⟩, ?_⟩
  · exact tr_D hD tr_wipe
  · exact (sr_wipeS (own := own) (σ0 := σ) (sr.guard gr0 hD (by rw [upd_same]; intro z; cases z)) rfl).1
  rintro i m H' ⟨rfl, hi, ρ2, S2, acc, vs, t2, sr2, hDv, rvs, hun, g2⟩
  obtain ⟨st, gy⟩ := io (D :: P) ρ2 S2 σ H' t2 sr2 hP
  by_cases hlt : i < its.length
  · refine .inr ?_
    obtain ⟨go, yy⟩ := gy i its[i] (List.getElem?_eq_getElem hlt)
    refine ⟨go, Inv (i + 1), fun H3 n => ⟨its.length - (i + 1), by omega, rfl, n⟩, fun x H3 y => ?_⟩
    obtain ⟨gr, rv⟩ := yy x H3 y
    rw [List.drop_eq_getElem_cons hlt] at g2
    unfold lcL at g2
    have sr3 := sr2.gr gr
    have t3 : Tr P ρ S.ws σ H ρ2 S2.ws σ H3 := t2.trans gr.tr
    obtain ⟨sr4, bd4⟩ := sr_sig (σ' := wipe σ own) sr3 (wipe_length σ own) (fun j s e n => wipe_out' (hun j s e n))
    refine ⟨D :: P, ρ2, S2, its[i], sr4, by rw [bd4]; exact rv, ?_⟩
    split
    · rename_i S3 e3
      rw [e3] at g2
      dsimp only at g2
      intro σ3 ch t4 sr5
      refine ⟨wipe_ch ch his, D :: P, ρ2, S3, sr5, ?_⟩
      have bdw : ∀ p, Bd (D :: P) ρ2 S2.ws (wipe σ own) p → Bd (D :: P) ρ2 S2.ws σ p := fun p z => by rw [← bd4]; exact z
      have tw : Tr (D :: P) ρ2 S2.ws σ H3 ρ2 S2.ws (wipe σ own) H3 := ⟨fun _ _ e _ => e, fun p z => .inl (bdw p z), ⟨[], by simp⟩, fun _ n => n⟩
      have rvs3 : RVs X.K ρ2 H3 (Bd (D :: P) ρ2 S2.ws σ) acc vs := gr.rvs rvs
      have hD3 : H3 D = some (.lst vs) := gr D _ hDv
      cases ec : c S3 with
      | no =>
        rw [ec] at g2
        exact g2.elim
      | exc x s =>
        rw [ec] at g2
        exact g2.elim
      | ok p =>
        obtain ⟨b, S4⟩ := p
        rw [ec] at g2
        dsimp only [M.bindN] at g2
        intro b' ρ4 H4 t5 sb
        obtain ⟨sr6, rfl⟩ := sb
        have t45 := tw.trans (t4.trans t5)
        have hD4 : H4 D = some (.lst vs) := t45.keep D _ hD3 (.inl List.mem_cons_self)
        have rvs4 := t45.rvs rvs3
        split
        · rename_i hb
          rw [if_pos hb] at g2
          refine ⟨D :: P, ρ4, S4, sr6, ?_⟩
          cases ee : elt S4 with
          | no =>
            rw [ee] at g2
            exact g2.elim
          | exc x s =>
            rw [ee] at g2
            exact g2.elim
          | ok p =>
            obtain ⟨r, S5⟩ := p
            rw [ee] at g2
            dsimp only [M.bindN] at g2
            intro y ρ5 H5 t6 x6
            obtain ⟨sr7, rv7⟩ := RR.w x6
            have hD5 : H5 D = some (.lst vs) := t6.keep D _ hD4 (.inl List.mem_cons_self)
            have rvs5 := t6.rvs rvs4
            split at g2
            · rename_i hl
              obtain ⟨sr8, bd8⟩ := sr_wipeS (own := own) (σ0 := σ) sr7 (wipe_ch ch his)
              refine ⟨vs, hD5, by rw [line_eq, ← rvs.length]; exact hl, hlt, ρ5, wipeS own S5, acc ++ [r.val], vs ++ [y], ?_, sr_prot sr8 List.mem_cons_self, upd_same, ?_, fun i s e n => (wipeS_get e n).1, g2⟩
              · refine tr_D hD (tr_unguard hD t3 ?_)
                exact (t45.trans t6).trans ⟨fun _ _ e _ => e, fun p z => .inl (bd8 p z), ⟨[], by simp⟩, fun _ n => n⟩
              · refine RVs.mono (ρ' := ρ5) ⟨[], by simp⟩ (fun q u e n => ?_) (fun q n e z => n (bd8 q z)) _ _ (RVs.append rvs5 (RVs.one rv7))
                have nq : q ≠ D := fun z => n (by rw [z]; exact .inl List.mem_cons_self)
                rw [upd_ne nq]
                exact e
            · exact g2.elim
        · rename_i hb
          rw [if_neg hb] at g2
          obtain ⟨sr8, bd8⟩ := sr_wipeS (own := own) (σ0 := σ) sr6 (wipe_ch ch his)
          refine ⟨hlt, ρ4, wipeS own S4, acc, vs, ?_, sr8, hD4, RVs.mono (ρ' := ρ4) ⟨[], by simp⟩ (fun _ _ e _ => e) (fun q n e z => n (bd8 q z)) _ _ rvs4, fun i s e n => (wipeS_get e n).1, g2⟩
          refine tr_unguard hD t3 ?_
          exact t45.trans ⟨fun _ _ e _ => e, fun p z => .inl (bd8 p z), ⟨[], by simp⟩, fun _ n => n⟩
    · rename_i e3
      rw [e3] at g2
      exact g2.elim
  · refine .inl ⟨st i (by omega), ?_⟩
    have ed : its.drop i = [] := List.drop_eq_nil_of_le (by omega)
    rw [ed] at g2
    exact g2 (.ref D) ρ2 H' t2 ⟨D, rfl, hD, nP, sr2, vs, hDv, rvs⟩
theorem rd_lc {ci : CI} (his : ∀ i ∈ is, i ∈ own) (σ : L2.St) (H : Hp) (Q : VK) (q : rd ⟨X.K, C⟩ U (rE X.K) (cLc own ci gg c elt) σ H Q) :
    tLc (rdI ⟨X.K, C⟩ U ci) (rdG X.K is gg) (rd ⟨X.K, C⟩ UN (rT X.K) c) (rd ⟨X.K, C⟩ UN (rE X.K) elt) own σ H Q := by
  obtain ⟨P, ρ, S, sr, g⟩ := q
  refine ⟨P, ρ, S, sr, ?_⟩
  unfold cLc at g
  cases e : ci S with
  | no =>
    rw [e] at g
    exact g
  | exc x S' =>
    rw [e] at g
    exact g
  | ok p =>
    obtain ⟨its, S1⟩ := p
    rw [e] at g
    intro ρ1 H1 J t1 sr1 io D hD
    exact lc_turns (Y := X) rfl his hD sr1 io (Go.shift rE_ok t1 g)
def MTs (X : Cx) (C : Nat → Addr) (ifs : List Expr) (f : CT) : Prop := PTs X ifs (rd ⟨X.K, C⟩ UN (rT X.K) f)
def tY : CT := fun S => .ok (true, S)
theorem mts_nil : MTs X C [] tY := ⟨fun pins s σ H Q I h => pts_nil.run pins s σ H Q I (by
  obtain ⟨P, ρ, S, sr, g⟩ := h
  exact g true ρ H Tr.refl ⟨sr, rfl⟩)⟩
theorem mts_one {t : CT} (h : MT X C UN a t) : MTs X C [a] t := pts_one h
theorem me_lc {ci : CI} {tgt iter el : Expr} {ifs : List Expr} {scope : Scope} {ow : List (Str × Nat)} (hc : X.calm = true) (hN : X.N.Nodup) (hi : MI X C U tgt iter ci) (ok : BlkOk X.N X.env.scope scope ow) (his : ∀ i ∈ is, i ∈ ow.map (·.2))
    (hg : ∀ (s : Shared) (H : Hp) (C : Addr) (cl : List (Str × Addr)) (fp : List Addr), MG (X.blk s H scope (compEnvC scope cl C X.env) fp) tgt is gg) (ht : ∀ (s : Shared) (H : Hp) (C' : Addr) (cl : List (Str × Addr)) (fp : List Addr), MTs (X.blk s H scope (compEnvC scope cl C' X.env) fp) C ifs c)
    (he : ∀ (s : Shared) (H : Hp) (C' : Addr) (cl : List (Str × Addr)) (fp : List Addr), ME (X.blk s H scope (compEnvC scope cl C' X.env) fp) C UN el elt) (hs : ∀ x, foldedSetIterable iter X.env x = pure x := by intro _; rfl) :
    ME X C U (.ListComp el [⟨tgt, iter, ifs, 0⟩] scope pos) (cLc (ow.map (·.2)) ci gg c elt) := PE_imp (pe_lc (g := rdG X.K is gg) (tt := rd ⟨X.K, C⟩ UN (rT X.K) c) (te := rd ⟨X.K, C⟩ UN (rE X.K) elt) hc hN hi ok hg ht he hs) (rd_lc his)
/-- name = [..] -/
theorem ms_setLc {ci : CI} {i : Nat} {y : Str} {py spos : Pos} {tgt iter el : Expr} {ifs : List Expr} {scope : Scope} {ow : List (Str × Nat)} (hc : X.calm = true) (hN : X.N.Nodup) (hi : MI X C U tgt iter ci) (ok : BlkOk X.N X.env.scope scope ow) (his : ∀ i ∈ is, i ∈ ow.map (·.2))
    (hg : ∀ (s : Shared) (H : Hp) (C : Addr) (cl : List (Str × Addr)) (fp : List Addr), MG (X.blk s H scope (compEnvC scope cl C X.env) fp) tgt is gg) (ht : ∀ (s : Shared) (H : Hp) (C' : Addr) (cl : List (Str × Addr)) (fp : List Addr), MTs (X.blk s H scope (compEnvC scope cl C' X.env) fp) C ifs c)
    (he : ∀ (s : Shared) (H : Hp) (C' : Addr) (cl : List (Str × Addr)) (fp : List Addr), ME (X.blk s H scope (compEnvC scope cl C' X.env) fp) C UN el elt)
    (hsw : swapsWith (.ListComp el [⟨tgt, iter, ifs, 0⟩] scope pos) (some (.Name y py)) spos.line X.env = pure true) (hy : X.N[i]? = some y := by rfl) (hyl : X.env.scope.names.lookup y = some .local := by rfl) (hs : ∀ x, foldedSetIterable iter X.env x = pure x := by intro _; rfl) :
    MS X C U (.Assign [.Name y py] (.ListComp el [⟨tgt, iter, ifs, 0⟩] scope pos) spos) (sSet i (cLc (ow.map (·.2)) ci gg c elt)) := PS_imp (ps_setLc (g := rdG X.K is gg) (tt := rd ⟨X.K, C⟩ UN (rT X.K) c) (te := rd ⟨X.K, C⟩ UN (rE X.K) elt) hc hN hy hyl hsw hi ok hg ht he hs) fun D σ H q => by
  have h := rd_set q
  exact rd_lc his σ H _ h
end
end
end Mi

set_option Elab.async false
set_option linter.all false
set_option maxRecDepth 100000
set_option maxHeartbeats 4000000
/-! Operations on values. -/
namespace Mi
open PySem PySem.Spec PyProof.Rows L2

section
variable {K : PySem.W.Frag} {ρ : List Addr} {H : Hp} {B : Addr → Prop}
theorem opr_or {X : Cx} {f : Value → Value → Sem Value} {r r' : R2} (h : OpR X f r) (h' : OpR X f r') : OpR X f (fun x y H Q => r x y H Q ∨ r' x y H Q) := fun pins s σ H x y v u Q I rx ry q => by
  rcases q with q | q
  · exact h pins s σ H x y v u Q I rx ry q
  · exact h' pins s σ H x y v u Q I rx ry q
/-- an item of what is known is known -/
theorem rv_w {w : W} {v : V} (h : RV K ρ H B w v) : PRes K ρ H B (.w w) v H := ⟨Gr.refl, h⟩
theorem pres_tup {ws : List W} {vs : List V} {p : Addr} (hB : ∀ p, B p → H p ≠ none) (hp : H p = none) (h : RVs K ρ H B ws vs) : PRes K ρ H B (.w (.tup ws)) (.ref p) (upd H p (.tup vs)) := by
  have gr : Gr H (upd H p (.tup vs)) := Gr.new hp
  exact ⟨gr, p, vs, rfl, .inl ⟨.inl upd_same, fun z => hB p z hp⟩, gr.rvs h⟩
theorem pres_lst {ws : List W} {vs : List V} {p : Addr} (hp : H p = none) (h : RVs K ρ H B ws vs) : PRes K ρ H B (.fr (.lst ws)) (.ref p) (upd H p (.lst vs)) := by
  have gr : Gr H (upd H p (.lst vs)) := Gr.new hp
  refine ⟨gr, p, rfl, hp, vs, upd_same, RVs.mono (ρ' := ρ) ⟨[], by simp⟩ (fun q o e _ => gr q o e) (fun q nb ne z => ?_) _ _ h⟩
  rcases z with z | rfl
  · exact nb z
  · exact ne hp

/-! ### + - * // % ** -/
def NL : Nat := 16777216
def addF : W → W → Option R
  | .int i, .int j => some (.w (.int (i + j)))
  | .str a, .str b => if a.length + b.length ≤ 16777216 then some (.w (.str (a ++ b))) else none
  | .tup xs, .tup ys => if xs.length + ys.length ≤ 16777216 then some (.w (.tup (xs ++ ys))) else none
  | .lst xs, .lst ys => if xs.length + ys.length ≤ 16777216 then some (.fr (.lst (xs ++ ys))) else none
  | _, _ => none
def rAddU (K : PySem.W.Frag) : R2 := fun x y H Q => (rI0 fun i j => .int (i + j)) x y H Q ∨ (∃ i j, x = .str i ∧ y = .str j ∧ i.length + j.length ≤ sizeLine ∧ Q (.str (i ++ j)) H) ∨ rCatA K x y H Q ∨ rCat x y H Q
theorem op_addU {X : Cx} : OpR X (binaryOp .Add) (rAddU X.K) := opr_or op_add (opr_or op_add_str (opr_or op_catA op_cat))
theorem ok_add : P2ok K (rAddU K) addF := by
  intro ρ H B w u v x res hB h1 h2 e Q q
  unfold addF at e
  split at e
  · cases e
    exact .inl ⟨_, _, h1.int, h2.int, q _ _ ⟨Gr.refl, rfl⟩⟩
  · split at e
    · rename_i hl
      cases e
      exact .inr (.inl ⟨_, _, h1.str, h2.str, by rw [line_eq]; exact hl, q _ _ ⟨Gr.refl, rfl⟩⟩)
    · cases e
  · split at e
    · rename_i xs ys hl
      cases e
      have h1' : RV K ρ H B (.tup xs) v := h1.resolve_right fun ⟨p, _, z⟩ => z.elim
      have h2' : RV K ρ H B (.tup ys) x := h2.resolve_right fun ⟨p, _, z⟩ => z.elim
      obtain ⟨p1, vs1, e1, t1, r1⟩ := id h1'
      obtain ⟨p2, vs2, e2, t2, r2⟩ := id h2'
      refine .inr (.inr (.inl ⟨p1, p2, vs1, vs2, e1, e2, t1.sq, t2.sq, by rw [line_eq, ← r1.length, ← r2.length]; exact hl, fun z => ?_, fun _ z => ?_, fun _ _ p hp => q _ _ (pres_tup hB hp (r1.append r2))⟩))
      · subst z
        have ex : xs = [] := List.eq_nil_of_length_eq_zero r1.length
        subst ex
        rw [← e2]
        exact q _ _ (rv_w h2')
      · subst z
        have ey : ys = [] := List.eq_nil_of_length_eq_zero r2.length
        subst ey
        rw [← e1]
        exact q _ _ (rv_w (by rw [List.append_nil]; exact h1'))
    · cases e
  · split at e
    · rename_i xs ys hl
      cases e
      obtain ⟨p1, vs1, e1, t1, r1⟩ := h1.lst
      obtain ⟨p2, vs2, e2, t2, r2⟩ := h2.lst
      exact .inr (.inr (.inr ⟨p1, p2, vs1, vs2, e1, e2, t1, t2, by rw [line_eq, ← r1.length, ← r2.length]; exact hl, fun p hp => q _ _ (pres_lst hp (r1.append r2))⟩))
    · cases e
  · cases e
def subF : W → W → Option R
  | .int i, .int j => some (.w (.int (i - j)))
  | _, _ => none
theorem ok_sub : P2ok K (rI0 fun i j => .int (i - j)) subF := by
  intro ρ H B w u v x res hB h1 h2 e Q q
  unfold subF at e
  split at e
  · cases e
    exact ⟨_, _, h1.int, h2.int, q _ _ ⟨Gr.refl, rfl⟩⟩
  · cases e
def divF : W → W → Option R
  | .int i, .int j => if 0 < j ∧ j.natAbs < 1073741824 then some (.w (.int (i / j))) else none
  | _, _ => none
theorem ok_div : P2ok K (rI CDiv fun i j => .int (i / j)) divF := by
  intro ρ H B w u v x res hB h1 h2 e Q q
  unfold divF at e
  split at e
  · split at e
    · rename_i hj
      cases e
      exact ⟨_, _, h1.int, h2.int, ⟨hj.1, by omega⟩, q _ _ ⟨Gr.refl, rfl⟩⟩
    · cases e
  · cases e
def modF : W → W → Option R
  | .int i, .int j => if 0 < j then some (.w (.int (i % j))) else none
  | _, _ => none
theorem ok_mod : P2ok K (rI (fun _ j => 0 < j) fun i j => .int (i % j)) modF := by
  intro ρ H B w u v x res hB h1 h2 e Q q
  unfold modF at e
  split at e
  · split at e
    · rename_i hj
      cases e
      exact ⟨_, _, h1.int, h2.int, hj, q _ _ ⟨Gr.refl, rfl⟩⟩
    · cases e
  · cases e
def powF : W → W → Option R
  | .int i, .int j => if 0 ≤ j ∧ j.natAbs ≤ 1000000 ∧ i.natAbs < 2 ^ 64 then some (.w (.int (i ^ j.toNat))) else none
  | _, _ => none
theorem ok_pow : P2ok K (rI CPow fun i j => .int (i ^ j.toNat)) powF := by
  intro ρ H B w u v x res hB h1 h2 e Q q
  unfold powF at e
  split at e
  · split at e
    · rename_i hj
      cases e
      exact ⟨_, _, h1.int, h2.int, ⟨hj.1, by omega, hj.2.2⟩, q _ _ ⟨Gr.refl, rfl⟩⟩
    · cases e
  · cases e
/-- a text times an int -/
def repS (s : Str) (n : Nat) : Str := ⟨(List.replicate n s.cps).foldl (· ++ ·) #[]⟩
def rMulS : R2 := fun x y H Q => ∃ s n, x = .str s ∧ y = .int n ∧ 1 ≤ n ∧ n < 2 ^ 63 ∧ s.length * n.toNat ≤ sizeLine ∧ Q (.str (repS s n.toNat)) H
theorem repS_one (s : Str) : repS s 1 = s := by
  unfold repS
  simp
theorem repS_empty {s : Str} (h : s.length = 0) (n : Nat) : repS s n = s := by
  have e : s.cps = #[] := by
    have h' : s.cps.size = 0 := h
    exact Array.eq_empty_of_size_eq_zero h'
  have z : ∀ (n : Nat) (a : Array Nat), (List.replicate n s.cps).foldl (· ++ ·) a = a := by
    intro n
    induction n with
    | zero => intro a; rfl
    | succ n ih =>
      intro a
      rw [List.replicate_succ, List.foldl_cons, ih, e, Array.append_empty]
  unfold repS
  rw [z]
  cases s
  simp only [] at e
  rw [e]
theorem repS_len (s : Str) (n : Nat) : (repS s n).length = n * s.length := by
  have z : ∀ (n : Nat) (a : Array Nat), ((List.replicate n s.cps).foldl (· ++ ·) a).size = a.size + n * s.cps.size := by
    intro n
    induction n with
    | zero => intro a; simp
    | succ n ih =>
      intro a
      rw [List.replicate_succ, List.foldl_cons, ih, Array.size_append, Nat.succ_mul]
      omega
  show ((List.replicate n s.cps).foldl (· ++ ·) #[]).size = n * s.cps.size
  rw [z]
  simp
theorem op_mulS {X : Cx} : OpR X (binaryOp .Mult) rMulS := by
  intro pins s σ H x y v u Q I rx ry h
  obtain ⟨z, n, rfl, rfl, h1, h2, hl, q⟩ := h
  obtain ⟨t, rfl⟩ := rx
  obtain ⟨t', rfl⟩ := ry
  have hl' : z.length * n.toNat ≤ 16777216 := by rw [line_eq] at hl; exact hl
  have zl : (z.length : Int) * n ≤ 16777216 := by
    have e : ((z.length * n.toNat : Nat) : Int) ≤ 16777216 := by omega
    rw [Int.natCast_mul, Int.toNat_of_nonneg (by omega)] at e
    exact e
  refine PySem.P.mul_str (by
    have a : ¬ n < -(2 ^ 63 : Int) := by omega
    have b : ¬ n ≥ 2 ^ 63 := by omega
    rw [decide_eq_false a, decide_eq_false b]; rfl) (fun _ _ => ?_) (fun _ _ => ?_) ?_
  · have h3 : (z.length : Int) ≤ (2 ^ 63 - 1) / n := by
      refine Int.le_ediv_of_mul_le (by omega) ?_
      omega
    omega
  · unfold Builtin.Str.tooLong
    rw [line_eq]
    exact decide_eq_false (by omega)
  · rw [if_neg (by omega)]
    split
    · rename_i hc
      have hc' : n = 1 ∨ z.length = 0 := by simpa using hc
      have e : repS z n.toNat = z := by
        rcases hc' with e | e
        · subst e
          exact repS_one z
        · exact repS_empty e _
      rw [e] at q
      exact ⟨.str z, H, I, ⟨t, rfl⟩, q⟩
    · refine ⟨?_, ⟨.str _, H, I.tok _, ⟨_, rfl⟩, q⟩⟩
      show (repS z n.toNat).length ≤ sizeLine
      rw [repS_len, line_eq, Nat.mul_comm]
      exact hl'
def mulF : W → W → Option R
  | .int i, .int j => if i.natAbs < 18446744073709551616 ∨ j.natAbs < 18446744073709551616 then some (.w (.int (i * j))) else none
  | .lst xs, .int k => if Sm k ∧ xs.length * k.toNat ≤ 16777216 then some (.fr (.lst (List.replicate k.toNat xs).flatten)) else none
  | .str s, .int n => if 1 ≤ n ∧ Sm n ∧ s.length * n.toNat ≤ 16777216 then some (.w (.str (repS s n.toNat))) else none
  | _, _ => none
def rMulU : R2 := fun x y H Q => (rI CMul fun i j => .int (i * j)) x y H Q ∨ rRep x y H Q ∨ rMulS x y H Q
theorem op_mulU {X : Cx} : OpR X (binaryOp .Mult) rMulU := opr_or op_mul (opr_or op_rep op_mulS)
theorem RVs.rep {ws : List W} {vs : List V} (h : RVs K ρ H B ws vs) : ∀ k : Nat, RVs K ρ H B (List.replicate k ws).flatten (List.replicate k vs).flatten
  | 0 => rfl
  | k + 1 => by
    rw [List.replicate_succ, List.replicate_succ, List.flatten_cons, List.flatten_cons]
    exact h.append (RVs.rep h k)
theorem ok_mul : P2ok K rMulU mulF := by
  intro ρ H B w u v x res hB h1 h2 e Q q
  unfold mulF at e
  split at e
  · split at e
    · rename_i hj
      cases e
      exact .inl ⟨_, _, h1.int, h2.int, hj.imp sm64 sm64, q _ _ ⟨Gr.refl, rfl⟩⟩
    · cases e
  · split at e
    · rename_i hj
      cases e
      obtain ⟨p1, vs1, e1, t1, r1⟩ := h1.lst
      exact .inr (.inl ⟨p1, _, vs1, e1, h2.int, t1, (sm63 hj.1).1, (sm63 hj.1).2, by rw [line_eq, ← r1.length]; exact hj.2, fun p hp => q _ _ (pres_lst hp (r1.rep _))⟩)
    · cases e
  · split at e
    · rename_i hj
      cases e
      exact .inr (.inr ⟨_, _, h1.str, h2.int, hj.1, (sm63 hj.2.1).2, by rw [line_eq]; exact hj.2.2, q _ _ ⟨Gr.refl, rfl⟩⟩)
    · cases e
  · cases e

/-! ### == != in not in < <= > >= is -/
mutual
def toPy : W → Option PyData
  | .non => some .none
  | .bl b => some (.bool b)
  | .int i => some (.int i)
  | .str s => some (.str s)
  | .tup xs => (toPys xs).map .tuple
  | .lst xs => (toPys xs).map .list
  | _ => none
def toPys : List W → Option (List PyData)
  | [] => some []
  | w :: ws => match toPy w, toPys ws with
    | some d, some ds => some (d :: ds)
    | _, _ => none
end
mutual
theorem dp_of : ∀ (w : W) (v : V) (d : PyData), RV K ρ H B w v → toPy w = some d → Dp K H v d
  | .non, v, d, h, e => by
    cases e
    cases (show v = .non from h)
    exact .non
  | .bl b, v, d, h, e => by
    cases e
    cases (show v = .bl b from h)
    exact .bl b
  | .int b, v, d, h, e => by
    cases e
    cases (show v = .int b from h)
    exact .int b
  | .str b, v, d, h, e => by
    cases e
    cases (show v = .str b from h)
    exact .str b
  | .tup xs, v, d, h, e => by
    obtain ⟨p, vs, rfl, t, r⟩ := h
    unfold toPy at e
    cases es : toPys xs with
    | none => rw [es] at e; cases e
    | some ds =>
      rw [es] at e
      cases e
      exact .tup t.sq (dp_ofs xs vs ds r es)
  | .lst xs, v, d, h, e => by
    obtain ⟨p, vs, rfl, t, r⟩ := h
    unfold toPy at e
    cases es : toPys xs with
    | none => rw [es] at e; cases e
    | some ds =>
      rw [es] at e
      cases e
      exact .lst (.inl (.inl t.1)) (dp_ofs xs vs ds r es)
  | .rol _, _, _, _, e => by cases e
  | .dic _ _, _, _, _, e => by cases e
  | .obj _, _, _, _, e => by cases e
theorem dp_ofs : ∀ (ws : List W) (vs : List V) (ds : List PyData), RVs K ρ H B ws vs → toPys ws = some ds → DpAll K H vs ds
  | [], vs, ds, h, e => by
    cases (show vs = [] from h)
    cases e
    exact .nil
  | w :: ws, vs, ds, h, e => by
    obtain ⟨v, r, rfl, a, b⟩ := h
    unfold toPys at e
    cases e1 : toPy w with
    | none => rw [e1] at e; cases e
    | some d =>
      cases e2 : toPys ws with
      | none => rw [e1, e2] at e; cases e
      | some es =>
        rw [e1, e2] at e
        cases e
        exact .cons (dp_of w v d a e1) (dp_ofs ws r es b e2)
end
theorem dp_ro {w : W} {v : V} {d : PyData} (h : RO K ρ H B w v) (e : toPy w = some d) : Dp K H v d := by
  rcases h with h | ⟨p, rfl, h⟩
  · exact dp_of w v d h e
  · cases w with
    | lst xs =>
      obtain ⟨vs, e1, r⟩ := h
      unfold toPy at e
      cases es : toPys xs with
      | none => rw [es] at e; cases e
      | some ds =>
        rw [es] at e
        cases e
        exact .lst (.inl (.inl e1)) (dp_ofs xs vs ds r es)
    | dic => cases e
    | rol => cases e
    | obj => cases e
    | _ => exact h.elim
@[reducible] def eqV' (neg : Bool) (w u : W) : Option R := match toPy w, toPy u with
  | some d, some e => if SeqAt.shaped d = true ∧ SeqAt.shaped e = true then some (.w (.bl (if neg = true then !PyData.eqv d e else PyData.eqv d e))) else none
  | _, _ => none
def eqF : W → W → Option R := eqV' false
def neF : W → W → Option R := eqV' true
theorem ok_eqV {neg : Bool} {r : R2} (hr : ∀ x y H Q d e, Dp K H x d → Dp K H y e → SeqAt.shaped d = true → SeqAt.shaped e = true → Q (.bl (if neg = true then !PyData.eqv d e else PyData.eqv d e)) H → r x y H Q) : P2ok K r (eqV' neg) := by
  intro ρ H B w u v x res hB h1 h2 e Q q
  unfold eqV' at e
  split at e
  · split at e
    · rename_i d e' e1 e2 hs
      cases e
      exact hr _ _ _ _ d e' (dp_ro h1 e1) (dp_ro h2 e2) hs.1 hs.2 (q _ _ ⟨Gr.refl, rfl⟩)
    · cases e
  · cases e
theorem ok_eq : P2ok K (rEqD K) eqF := ok_eqV fun x y H Q d e h1 h2 h3 h4 q => ⟨d, e, h1, h2, h3, h4, by simpa using q⟩
theorem ok_ne : P2ok K (rNeD K) neF := ok_eqV fun x y H Q d e h1 h2 h3 h4 q => ⟨d, e, h1, h2, h3, h4, by simpa using q⟩
def cmpI (p : Int → Int → Bool) : W → W → Option R
  | .int i, .int j => some (.w (.bl (p i j)))
  | _, _ => none
theorem ok_cmpI {p : Int → Int → Bool} : P2ok K (rI0 fun i j => .bl (p i j)) (cmpI p) := by
  intro ρ H B w u v x res hB h1 h2 e Q q
  unfold cmpI at e
  split at e
  · cases e
    exact ⟨_, _, h1.int, h2.int, q _ _ ⟨Gr.refl, rfl⟩⟩
  · cases e
def ltF := cmpI fun i j => decide (i < j)
def leF := cmpI fun i j => decide (i ≤ j)
def gtF := cmpI fun i j => decide (j < i)
def geF := cmpI fun i j => decide (j ≤ i)
def W.isNon : W → Bool
  | .non => true
  | _ => false
def isnF (neg : Bool) : W → W → Option R := fun w u => match u with
  | .non => some (.w (.bl (if neg = true then !w.isNon else w.isNon)))
  | _ => none
theorem ro_notnone {w : W} {v : V} (h : RO K ρ H B w v) (hw : w ≠ .non) : v ≠ .non := by
  rcases h with h | ⟨p, rfl, h⟩
  · cases w with
    | non => exact absurd rfl hw
    | bl b => rw [show v = .bl b from h]; intro z; cases z
    | int b => rw [show v = .int b from h]; intro z; cases z
    | str b => rw [show v = .str b from h]; intro z; cases z
    | tup xs => obtain ⟨p, vs, rfl, _⟩ := h; intro z; cases z
    | lst xs => obtain ⟨p, vs, rfl, _⟩ := h; intro z; cases z
    | rol xs => obtain ⟨p, vs, rfl, _⟩ := h; intro z; cases z
    | dic ks xs => obtain ⟨p, vs, rfl, _⟩ := h; intro z; cases z
    | obj k => obtain ⟨a, _, rfl⟩ := h; intro z; cases z
  · intro z; cases z
theorem non_iff {w : W} {v : V} (h : RO K ρ H B w v) : decide (v = .non) = w.isNon := by
  cases w with
  | non => rw [h.non]; rfl
  | _ =>
    rw [decide_eq_false (ro_notnone h (by intro z; cases z))]
    rfl
theorem ok_isn : P2ok K rIsN (isnF false) := by
  intro ρ H B w u v x res hB h1 h2 e Q q
  unfold isnF at e
  split at e
  · cases e
    refine ⟨h2.non, ?_⟩
    rw [non_iff h1]
    exact q _ _ ⟨Gr.refl, rfl⟩
  · cases e
theorem ok_notn : P2ok K rNotN (isnF true) := by
  intro ρ H B w u v x res hB h1 h2 e Q q
  unfold isnF at e
  split at e
  · cases e
    refine ⟨h2.non, ?_⟩
    rw [non_iff h1]
    exact q _ _ ⟨Gr.refl, rfl⟩
  · cases e
/-! in -/
def W.flat : W → Option V
  | .non => some .non
  | .bl b => some (.bl b)
  | .int i => some (.int i)
  | .str s => some (.str s)
  | _ => none
def flats : List W → Option (List V)
  | [] => some []
  | w :: ws => match w.flat, flats ws with
    | some v, some vs => some (v :: vs)
    | _, _ => none
theorem flat_rv {w : W} {v x : V} (h : RV K ρ H B w v) (e : w.flat = some x) : v = x ∧ flatV v = true := by
  cases w with
  | non => cases e; exact ⟨h, by rw [show v = .non from h] <;> rfl⟩
  | bl b => cases e; exact ⟨h, by rw [show v = .bl b from h] <;> rfl⟩
  | int b => cases e; exact ⟨h, by rw [show v = .int b from h] <;> rfl⟩
  | str b => cases e; exact ⟨h, by rw [show v = .str b from h] <;> rfl⟩
  | _ => cases e
theorem flats_rv : ∀ {ws : List W} {vs xs : List V}, RVs K ρ H B ws vs → flats ws = some xs → vs = xs ∧ vs.all flatV = true
  | [], vs, xs, h, e => by
    cases (show vs = [] from h)
    cases e
    exact ⟨rfl, rfl⟩
  | w :: ws, vs, xs, h, e => by
    obtain ⟨v, r, rfl, a, b⟩ := h
    unfold flats at e
    cases e1 : w.flat with
    | none => rw [e1] at e; cases e
    | some x =>
      cases e2 : flats ws with
      | none => rw [e1, e2] at e; cases e
      | some ys =>
        rw [e1, e2] at e
        cases e
        obtain ⟨z1, z2⟩ := flat_rv a e1
        obtain ⟨z3, z4⟩ := flats_rv b e2
        exact ⟨by rw [z1, z3], by rw [List.all_cons, z2, z4] <;> rfl⟩
theorem ro_flat {w : W} {v x : V} (h : RO K ρ H B w v) (e : w.flat = some x) : v = x ∧ flatV v = true := by
  rcases h with h | ⟨p, rfl, h⟩
  · exact flat_rv h e
  · cases w with
    | lst => cases e
    | dic => cases e
    | _ => exact h.elim
/-- a sign, a text in a text -/
def inS (a b : Str) : Bool := if a.cps.size = 1 then decide (a.cps.getD 0 0 ∈ b.cps.toList) else !(Builtin.Str.occurrences b a 0 b.length 1).isEmpty
def inF (neg : Bool) (w u : W) : Option R := match w, u with
  | .str a, .str b => some (.w (.bl (if neg = true then !inS a b else inS a b)))
  | w, .tup ws => match w.flat, flats ws with
    | some v, some vs => some (.w (.bl (if neg = true then !inV v vs else inV v vs)))
    | _, _ => none
  | w, .lst ws => match w.flat, flats ws with
    | some v, some vs => some (.w (.bl (if neg = true then !inV v vs else inV v vs)))
    | _, _ => match toPy w, toPys ws with
      | some d, some ds => if SeqAt.shaped d = true ∧ SeqAt.shaped (.list ds) = true then some (.w (.bl (if neg = true then !(ds.any fun z => PyData.eqv z d) else ds.any fun z => PyData.eqv z d))) else none
      | _, _ => none
  | _, _ => none
def rInU (K : PySem.W.Frag) : R2 := fun x y H Q => rInS x y H Q ∨ (∃ i j, x = .str i ∧ y = .str j ∧ Q (.bl (!(Builtin.Str.occurrences j i 0 j.length 1).isEmpty)) H) ∨ rIn K false x y H Q ∨ rInD K x y H Q
def rNotInU (K : PySem.W.Frag) : R2 := fun x y H Q => rNotInS x y H Q ∨ (∃ i j, x = .str i ∧ y = .str j ∧ Q (.bl (!(!(Builtin.Str.occurrences j i 0 j.length 1).isEmpty))) H) ∨ rIn K true x y H Q ∨ rNotInD K x y H Q
theorem op_inU {X : Cx} (hu : X.A.units + 65 < cLine) : OpR X (compareOp .In) (rInU X.K) := opr_or op_inS (opr_or op_in_str (opr_or op_in_seq (op_inD hu)))
theorem op_notInU {X : Cx} (hu : X.A.units + 65 < cLine) : OpR X (compareOp .NotIn) (rNotInU X.K) := opr_or op_notInS (opr_or op_notin_str (opr_or op_notIn_seq (op_notInD hu)))
theorem one_sign {a : Str} (h : a.cps.size = 1) : a = ⟨#[a.cps.getD 0 0]⟩ := by
  obtain ⟨l⟩ := a
  obtain ⟨l⟩ := l
  have h' : l.length = 1 := h
  obtain ⟨c, rfl⟩ := List.length_eq_one_iff.mp h'
  rfl
theorem ok_in : P2ok K (rInU K) (inF false) := by
  intro ρ H B w u v x res hB h1 h2 e Q q
  unfold inF at e
  split at e
  · cases e
    rename_i a b
    unfold inS at q
    by_cases ha : a.cps.size = 1
    · refine .inl ⟨a.cps.getD 0 0, b, by rw [h1.str]; exact congrArg V.str (one_sign ha), h2.str, ?_⟩
      have q' := q _ _ ⟨Gr.refl, rfl⟩
      rw [if_pos ha] at q'
      exact q'
    · refine .inr (.inl ⟨a, b, h1.str, h2.str, ?_⟩)
      have q' := q _ _ ⟨Gr.refl, rfl⟩
      rw [if_neg ha] at q'
      exact q'
  · split at e
    · rename_i v' vs' e1 e2
      cases e
      obtain ⟨p, vs, rfl, t, r⟩ := h2.tup
      obtain ⟨z1, z2⟩ := ro_flat h1 e1
      obtain ⟨z3, z4⟩ := flats_rv r e2
      subst z1 z3
      exact .inr (.inr (.inl ⟨p, vs, rfl, .inr t, z2, z4, q _ _ ⟨Gr.refl, rfl⟩⟩))
    · cases e
  · split at e
    · rename_i v' vs' e1 e2
      cases e
      obtain ⟨p, vs, rfl, t, r⟩ := h2.lst
      obtain ⟨z1, z2⟩ := ro_flat h1 e1
      obtain ⟨z3, z4⟩ := flats_rv r e2
      subst z1 z3
      exact .inr (.inr (.inl ⟨p, vs, rfl, .inl (.inl (.inl t)), z2, z4, q _ _ ⟨Gr.refl, rfl⟩⟩))
    · split at e
      · split at e
        · rename_i d ds e1 e2 hs
          cases e
          refine .inr (.inr (.inr ⟨d, ds, dp_ro h1 e1, dp_ro h2 (by unfold toPy; rw [e2] <;> rfl), hs.1, hs.2, q _ _ ⟨Gr.refl, rfl⟩⟩))
        · cases e
      · cases e
  · cases e
theorem ok_notin : P2ok K (rNotInU K) (inF true) := by
  intro ρ H B w u v x res hB h1 h2 e Q q
  unfold inF at e
  split at e
  · cases e
    rename_i a b
    unfold inS at q
    by_cases ha : a.cps.size = 1
    · refine .inl ⟨a.cps.getD 0 0, b, by rw [h1.str]; exact congrArg V.str (one_sign ha), h2.str, ?_⟩
      have q' := q _ _ ⟨Gr.refl, rfl⟩
      rw [if_pos ha] at q'
      exact q'
    · refine .inr (.inl ⟨a, b, h1.str, h2.str, ?_⟩)
      have q' := q _ _ ⟨Gr.refl, rfl⟩
      rw [if_neg ha] at q'
      exact q'
  · split at e
    · rename_i v' vs' e1 e2
      cases e
      obtain ⟨p, vs, rfl, t, r⟩ := h2.tup
      obtain ⟨z1, z2⟩ := ro_flat h1 e1
      obtain ⟨z3, z4⟩ := flats_rv r e2
      subst z1 z3
      exact .inr (.inr (.inl ⟨p, vs, rfl, .inr t, z2, z4, q _ _ ⟨Gr.refl, rfl⟩⟩))
    · cases e
  · split at e
    · rename_i v' vs' e1 e2
      cases e
      obtain ⟨p, vs, rfl, t, r⟩ := h2.lst
      obtain ⟨z1, z2⟩ := ro_flat h1 e1
      obtain ⟨z3, z4⟩ := flats_rv r e2
      subst z1 z3
      exact .inr (.inr (.inl ⟨p, vs, rfl, .inl (.inl (.inl t)), z2, z4, q _ _ ⟨Gr.refl, rfl⟩⟩))
    · split at e
      · split at e
        · rename_i d ds e1 e2 hs
          cases e
          refine .inr (.inr (.inr ⟨d, ds, dp_ro h1 e1, dp_ro h2 (by unfold toPy; rw [e2] <;> rfl), hs.1, hs.2, q _ _ ⟨Gr.refl, rfl⟩⟩))
        · cases e
      · cases e
  · cases e

/-! ### items, slices, lengths -/
def ixF : W → W → Option R
  | .lst ws, .int i => (atI ws i).map .w
  | .tup ws, .int i => (atI ws i).map .w
  | .str s, .int i => if s.length ≤ 16777216 then (atI s.cps.toList i).map fun c => .w (.str ⟨#[c]⟩) else none
  | _, _ => none
theorem atI_rvs {ws : List W} {vs : List V} {i : Int} {w : W} (r : RVs K ρ H B ws vs) (e : atI ws i = some w) : ∃ v, atI vs i = some v ∧ RV K ρ H B w v := by
  unfold atI at e ⊢
  rw [← r.length]
  cases h : ixN ws.length i with
  | none => rw [h] at e; cases e
  | some j =>
    rw [h] at e
    exact r.get e
theorem ok_ix : P2ok K (rIx K) ixF := by
  intro ρ H B w u v x res hB h1 h2 e Q q
  unfold ixF at e
  split at e
  · rename_i ws i
    cases hi : atI ws i with
    | none => rw [hi] at e; cases e
    | some w =>
      rw [hi] at e
      cases e
      obtain ⟨p, vs, rfl, t, r⟩ := h1.lst
      obtain ⟨v, ev, rv⟩ := atI_rvs r hi
      exact .inl ⟨p, vs, i, v, rfl, h2.int, .inl (.inl t), ev, q _ _ (rv_w rv)⟩
  · rename_i ws i
    cases hi : atI ws i with
    | none => rw [hi] at e; cases e
    | some w =>
      rw [hi] at e
      cases e
      obtain ⟨p, vs, rfl, t, r⟩ := h1.tup
      obtain ⟨v, ev, rv⟩ := atI_rvs r hi
      exact .inr (.inl ⟨p, vs, i, v, rfl, h2.int, t, ev, q _ _ (rv_w rv)⟩)
  · split at e
    · rename_i s i hl
      cases hi : atI s.cps.toList i with
      | none => rw [hi] at e; cases e
      | some c =>
        rw [hi] at e
        cases e
        exact .inr (.inr ⟨s, i, c, h1.str, h2.int, by rw [line_eq]; exact hl, hi, q _ _ ⟨Gr.refl, rfl⟩⟩)
    · cases e
  · cases e
def cutW (xs : List W) (lo hi : Option Int) : List W := (xs.drop (HT.sIx xs.length 0 lo)).take (HT.sIx xs.length xs.length hi - HT.sIx xs.length 0 lo)
theorem RVs.cut {ws : List W} {vs : List V} {lo hi : Option Int} (r : RVs K ρ H B ws vs) : RVs K ρ H B (cutW ws lo hi) (cutV vs lo hi) := by
  unfold cutW cutV
  rw [← r.length]
  exact (r.drop _).take _
def slF (lo hi : Option Int) : W → Option R
  | .lst ws => some (.fr (.lst (cutW ws lo hi)))
  | .tup ws => some (.w (.tup (cutW ws lo hi)))
  | .str s => if s.length ≤ 16777216 then some (.w (.str (cutS s lo hi))) else none
  | _ => none
def rSlU (K : PySem.W.Frag) : V → Option Int → Option Int → Hp → VK → Prop := fun x lo hi H Q => rSlL K x lo hi H Q ∨ rSlA K x lo hi H Q ∨ rSlS x lo hi H Q
theorem sl_any {X : Cx} : SlR X (rSlU X.K) := SlR.or sl_list (SlR.or sl_tupA sl_str)
theorem ok_sl {lo hi : Option Int} : P1ok K (fun x H Q => rSlU K x lo hi H Q) (slF lo hi) := by
  intro ρ H B w v res hB h1 e Q q
  unfold slF at e
  split at e
  · cases e
    obtain ⟨p, vs, rfl, t, r⟩ := h1.lst
    exact .inl ⟨p, vs, rfl, .inl (.inl t), fun p' hp => q _ _ (pres_lst hp r.cut)⟩
  · rename_i ws
    cases e
    have h1' : RV K ρ H B (.tup ws) v := h1.resolve_right fun ⟨p, _, z⟩ => z.elim
    obtain ⟨p, vs, rfl, t, r⟩ := id h1'
    refine .inr (.inl ⟨p, vs, rfl, t.sq, fun hw => ?_, fun hw p' hp => q _ _ (pres_tup hB hp r.cut)⟩)
    have e : cutW ws lo hi = ws := by
      unfold cutW
      rw [r.length, hw.1, hw.2, List.drop_zero, Nat.sub_zero, ← r.length, List.take_length]
    rw [e] at q
    exact q _ _ (rv_w h1')
  · split at e
    · rename_i s hl
      cases e
      exact .inr (.inr ⟨s, h1.str, by rw [line_eq]; exact hl, q _ _ ⟨Gr.refl, rfl⟩⟩)
    · cases e
  · cases e
def slLoF (w u : W) : Option R := match u with
  | .int i => slF (some i) none w
  | _ => none
def slHiF (w u : W) : Option R := match u with
  | .int i => slF none (some i) w
  | _ => none
def slBoF (w u x : W) : Option R := match u, x with
  | .int i, .int j => slF (some i) (some j) w
  | _, _ => none
theorem ok_slLo : P2ok K (fun x y H Q => ∃ i, y = .int i ∧ rSlU K x (some i) none H Q) slLoF := by
  intro ρ H B w u v x res hB h1 h2 e Q q
  unfold slLoF at e
  split at e
  · exact ⟨_, h2.int, ok_sl ρ H B w v res hB h1 e Q q⟩
  · cases e
theorem ok_slHi : P2ok K (fun x y H Q => ∃ i, y = .int i ∧ rSlU K x none (some i) H Q) slHiF := by
  intro ρ H B w u v x res hB h1 h2 e Q q
  unfold slHiF at e
  split at e
  · exact ⟨_, h2.int, ok_sl ρ H B w v res hB h1 e Q q⟩
  · cases e
theorem ok_slBo : P3ok K (fun x y z H Q => ∃ i, y = .int i ∧ ∃ j, z = .int j ∧ rSlU K x (some i) (some j) H Q) slBoF := by
  intro ρ H B w u t v x y res hB h1 h2 h3 e Q q
  unfold slBoF at e
  split at e
  · exact ⟨_, h2.int, _, h3.int, ok_sl ρ H B w v res hB h1 e Q q⟩
  · cases e
end
section
variable {X : Cx} {C : Nat → Addr} {U : WX} {e a b c : Expr} {fa fb fc : CA} {pos : Pos}
theorem me_slLo {p2 : Pos} (ha : MA X C U a fa) (hb : MA X C U b fb) : ME X C U (.Subscript a (.Slice (some b) none none p2) pos) (cP2 slLoF fa fb) :=
  me_p2 ok_slLo ha hb fun ta tb h1 h2 => PE_imp (pe_slice sl_any h1 (po_some h2) po_none) fun σ H Q q => q
theorem me_slHi {p2 : Pos} (ha : MA X C U a fa) (hb : MA X C U b fb) : ME X C U (.Subscript a (.Slice none (some b) none p2) pos) (cP2 slHiF fa fb) :=
  me_p2 ok_slHi ha hb fun ta tb h1 h2 => PE_imp (pe_slice sl_any h1 po_none (po_some h2)) fun σ H Q q => q
def cSlBo (a b c : CA) : CE := fun S => M.bind (a S) fun p => M.bind (b p.2) fun q => match q.1.get q.2 with
  | some (.int i) => M.bind (c q.2) fun t => match p.1.get t.2, t.1.get t.2 with
    | some w, some (.int j) => retO (slF (some i) (some j) w) t.2
    | _, _ => .no
  | _ => .no
theorem me_slBo {p2 : Pos} (ha : MA X C U a fa) (hb : MA X C U b fb) (hc : MA X C U c fc) : ME X C U (.Subscript a (.Slice (some b) (some c) none p2) pos) (cSlBo fa fb fc) := by
  refine PE_imp (pe_slice sl_any ha (po_some hb) (po_some hc)) fun σ H Q q => ?_
  obtain ⟨P, ρ, S, sr, g⟩ := q
  obtain ⟨P, ρ, S, sr, g⟩ := go_bind (r := rA X.K) rE_ok sr g
  refine ⟨P, ρ, S, sr, g.mono fun v H1 z => ?_⟩
  obtain ⟨ρ1, S1, a, t, ⟨sr1, x⟩, e, g1⟩ := z
  obtain ⟨P, ρ1, S1, sr1, g1⟩ := go_bind (r := rA X.K) rE_ok sr1 g1
  refine ⟨P, ρ1, S1, sr1, g1.mono fun v2 H2 z => ?_⟩
  obtain ⟨ρ2, S2, a2, t2, ⟨sr2, x2⟩, e2, g2⟩ := z
  dsimp only at g2
  split at g2
  · rename_i i ei
    refine ⟨i, (AR.get sr2 x2 ei).int, ?_⟩
    obtain ⟨P, ρ2, S2, sr2, g2⟩ := go_bind (r := rA X.K) rE_ok sr2 g2
    refine ⟨P, ρ2, S2, sr2, g2.mono fun v3 H3 z => ?_⟩
    obtain ⟨ρ3, S3, a3, t3, ⟨sr3, x3⟩, e3, g3⟩ := z
    dsimp only at g3
    split at g3
    · rename_i w j ew ej
      refine ⟨j, (AR.get sr3 x3 ej).int, ?_⟩
      obtain ⟨res, er, k⟩ := go_ret sr3 g3
      exact ok_sl ρ3 H3 _ w v res (fun p b => sr3.some b) (AR.get sr3 ((x.tr t2).tr t3) ew) er Q k
    · exact g3.elim
  · exact g2.elim
theorem me_ix (ha : MA X C U a fa) (hb : MA X C U b fb) (hs : PlainIx b := by exact fun _ _ => rfl) : ME X C U (.Subscript a b pos) (cP2 ixF fa fb) := me_p2 ok_ix ha hb fun _ _ h1 h2 => pe_ix ix_seq h1 h2 hs
theorem me_add (ha : MA X C U a fa) (hb : MA X C U b fb) : ME X C U (.BinOp a .Add b pos) (cP2 addF fa fb) := me_bin op_addU ok_add ha hb
theorem me_sub (ha : MA X C U a fa) (hb : MA X C U b fb) : ME X C U (.BinOp a .Sub b pos) (cP2 subF fa fb) := me_bin op_sub ok_sub ha hb
theorem me_mul (ha : MA X C U a fa) (hb : MA X C U b fb) : ME X C U (.BinOp a .Mult b pos) (cP2 mulF fa fb) := me_bin op_mulU ok_mul ha hb
theorem me_div (ha : MA X C U a fa) (hb : MA X C U b fb) : ME X C U (.BinOp a .FloorDiv b pos) (cP2 divF fa fb) := me_bin op_fdiv ok_div ha hb
theorem me_mod (ha : MA X C U a fa) (hb : MA X C U b fb) : ME X C U (.BinOp a .Mod b pos) (cP2 modF fa fb) := me_bin op_mod ok_mod ha hb
theorem me_pow (ha : MA X C U a fa) (hb : MA X C U b fb) : ME X C U (.BinOp a .Pow b pos) (cP2 powF fa fb) := me_bin op_pow ok_pow ha hb
variable {k : Nat}
theorem room65 (hr : Room k X.A) : X.A.units + 65 < cLine := by have := hr.un; omega
theorem room64 (hr : Room k X.A) : X.A.units + 64 < cLine := by have := hr.un; omega
theorem me_eq (hr : Room k X.A) (ha : MA X C U a fa) (hb : MA X C U b fb) : ME X C U (.Compare a [.Eq] [b] pos) (cP2 eqF fa fb) := me_cmp (op_eqD (room64 hr)) ok_eq ha hb
theorem me_ne (hr : Room k X.A) (ha : MA X C U a fa) (hb : MA X C U b fb) : ME X C U (.Compare a [.NotEq] [b] pos) (cP2 neF fa fb) := me_cmp (op_neD (room64 hr)) ok_ne ha hb
theorem me_lt (ha : MA X C U a fa) (hb : MA X C U b fb) : ME X C U (.Compare a [.Lt] [b] pos) (cP2 ltF fa fb) := me_cmp op_lt ok_cmpI ha hb
theorem me_le (ha : MA X C U a fa) (hb : MA X C U b fb) : ME X C U (.Compare a [.LtE] [b] pos) (cP2 leF fa fb) := me_cmp op_le ok_cmpI ha hb
theorem me_gt (ha : MA X C U a fa) (hb : MA X C U b fb) : ME X C U (.Compare a [.Gt] [b] pos) (cP2 gtF fa fb) := me_cmp op_gt ok_cmpI ha hb
theorem me_ge (ha : MA X C U a fa) (hb : MA X C U b fb) : ME X C U (.Compare a [.GtE] [b] pos) (cP2 geF fa fb) := me_cmp op_ge ok_cmpI ha hb
theorem me_is (ha : MA X C U a fa) (hb : MA X C U b fb) : ME X C U (.Compare a [.Is] [b] pos) (cP2 (isnF false) fa fb) := me_cmp op_isN1 ok_isn ha hb
theorem me_isnot (ha : MA X C U a fa) (hb : MA X C U b fb) : ME X C U (.Compare a [.IsNot] [b] pos) (cP2 (isnF true) fa fb) := me_cmp op_notN1 ok_notn ha hb
theorem me_in (hr : Room k X.A) (ha : MA X C U a fa) (hb : MA X C U b fb) (hm : behindInMarks .In b = false := by rfl) : ME X C U (.Compare a [.In] [b] pos) (cP2 (inF false) fa fb) := me_cmp (op_inU (room65 hr)) ok_in ha hb hm
theorem me_notin (hr : Room k X.A) (ha : MA X C U a fa) (hb : MA X C U b fb) (hm : behindInMarks .NotIn b = false := by rfl) : ME X C U (.Compare a [.NotIn] [b] pos) (cP2 (inF true) fa fb) := me_cmp (op_notInU (room65 hr)) ok_notin ha hb hm
theorem mt_eq (hr : Room k X.A) (ha : MA X C U a fa) (hb : MA X C U b fb) : MT X C U (.Compare a [.Eq] [b] pos) (tE (cP2 eqF fa fb)) := mt_cmp (op_eqD (room64 hr)) ok_eq ha hb
theorem mt_ne (hr : Room k X.A) (ha : MA X C U a fa) (hb : MA X C U b fb) : MT X C U (.Compare a [.NotEq] [b] pos) (tE (cP2 neF fa fb)) := mt_cmp (op_neD (room64 hr)) ok_ne ha hb
theorem mt_lt (ha : MA X C U a fa) (hb : MA X C U b fb) : MT X C U (.Compare a [.Lt] [b] pos) (tE (cP2 ltF fa fb)) := mt_cmp op_lt ok_cmpI ha hb
theorem mt_le (ha : MA X C U a fa) (hb : MA X C U b fb) : MT X C U (.Compare a [.LtE] [b] pos) (tE (cP2 leF fa fb)) := mt_cmp op_le ok_cmpI ha hb
theorem mt_gt (ha : MA X C U a fa) (hb : MA X C U b fb) : MT X C U (.Compare a [.Gt] [b] pos) (tE (cP2 gtF fa fb)) := mt_cmp op_gt ok_cmpI ha hb
theorem mt_ge (ha : MA X C U a fa) (hb : MA X C U b fb) : MT X C U (.Compare a [.GtE] [b] pos) (tE (cP2 geF fa fb)) := mt_cmp op_ge ok_cmpI ha hb
theorem mt_is (ha : MA X C U a fa) (hb : MA X C U b fb) : MT X C U (.Compare a [.Is] [b] pos) (tE (cP2 (isnF false) fa fb)) := mt_cmp op_isN1 ok_isn ha hb
theorem mt_isnot (ha : MA X C U a fa) (hb : MA X C U b fb) : MT X C U (.Compare a [.IsNot] [b] pos) (tE (cP2 (isnF true) fa fb)) := mt_cmp op_notN1 ok_notn ha hb
theorem mt_in (hr : Room k X.A) (ha : MA X C U a fa) (hb : MA X C U b fb) (hm : behindInMarks .In b = false := by rfl) : MT X C U (.Compare a [.In] [b] pos) (tE (cP2 (inF false) fa fb)) := mt_cmp (op_inU (room65 hr)) ok_in ha hb hm
theorem mt_notin (hr : Room k X.A) (ha : MA X C U a fa) (hb : MA X C U b fb) (hm : behindInMarks .NotIn b = false := by rfl) : MT X C U (.Compare a [.NotIn] [b] pos) (tE (cP2 (inF true) fa fb)) := mt_cmp (op_notInU (room65 hr)) ok_notin ha hb hm

/-! ### built-ins by name -/
/-- f(a), a built-in function; a built-in class -/
theorem me_b1 {x : Str} {id : String} {p : Pos} {r : List V → Hp → VK → Prop} {pf : W → Option R} (hc : CallR X (.builtin id) r) (hp : P1ok X.K (fun x H Q => r [x] H Q) pf) (hg : Gl X x) (hm : X.mg x = none) (hv : bootBuiltins x = some (.builtin id)) (ha : MA X C U a fa)
    (hn : x ≠ "__name__" := by decide) (hdb : (x == ("__debug__" : Str)) = false := by decide) (hs : starEach [a] X.env = (false, eval a X.env) :: starEach [] X.env := by rfl) : ME X C U (.Call (.Name x p) [a] [] pos) (cP1 pf fa) :=
  me_p1 hp ha fun ta h => PE_imp (pe_callB hc hg hm hv (pa_cons h pa_nil hs) hn hdb hs (by rfl)) fun σ H Q q => q
theorem me_t1 {x : Str} {T : String} {p : Pos} {r : List V → Hp → VK → Prop} {pf : W → Option R} (hc : CallR X (.type T) r) (hp : P1ok X.K (fun x H Q => r [x] H Q) pf) (hg : Gl X x) (hm : X.mg x = none) (hv : bootBuiltins x = some (.type T)) (ha : MA X C U a fa)
    (hn : x ≠ "__name__" := by decide) (hdb : (x == ("__debug__" : Str)) = false := by decide) (hs : starEach [a] X.env = (false, eval a X.env) :: starEach [] X.env := by rfl) : ME X C U (.Call (.Name x p) [a] [] pos) (cP1 pf fa) :=
  me_p1 hp ha fun ta h => PE_imp (pe_callTy hc hg hm hv (pa_cons h pa_nil hs) hn hdb hs (by rfl)) fun σ H Q q => q
theorem me_b2 {x : Str} {id : String} {p : Pos} {r : List V → Hp → VK → Prop} {pf : W → W → Option R} (hc : CallR X (.builtin id) r) (hp : P2ok X.K (fun x y H Q => r [x, y] H Q) pf) (hg : Gl X x) (hm : X.mg x = none) (hv : bootBuiltins x = some (.builtin id)) (ha : MA X C U a fa) (hb : MA X C U b fb)
    (hn : x ≠ "__name__" := by decide) (hdb : (x == ("__debug__" : Str)) = false := by decide) (hs : starEach [a, b] X.env = (false, eval a X.env) :: starEach [b] X.env := by rfl) (hs2 : starEach [b] X.env = (false, eval b X.env) :: starEach [] X.env := by rfl)
    (hpl : (backTo pos (starEach [b] X.env)).any (·.1) = false := by rfl) : ME X C U (.Call (.Name x p) [a, b] [] pos) (cP2 pf fa fb) :=
  me_p2 hp ha hb fun ta tb h h2 => PE_imp (pe_callB hc hg hm hv (pa_cons h (pa_cons h2 pa_nil hs2) hs) hn hdb hs hpl) fun σ H Q q => q
def lenF : W → Option R
  | .lst ws => some (.w (.int ws.length))
  | .rol ws => some (.w (.int ws.length))
  | .tup ws => some (.w (.int ws.length))
  | .str s => if s.length ≤ 16777216 then some (.w (.int s.length)) else none
  | _ => none
section
variable {K : PySem.W.Frag}
theorem ok_len : P1ok K (fun x H Q => ∃ y n, [x] = [y] ∧ LenV K y H n ∧ Q (.int n) H) lenF := by
  intro ρ H B w v res hB h1 e Q q
  unfold lenF at e
  split at e
  · cases e
    obtain ⟨p, vs, rfl, t, r⟩ := h1.lst
    exact ⟨_, vs.length, rfl, .inl ⟨vs, .inl (.inl t), rfl⟩, by rw [← r.length]; exact q _ _ ⟨Gr.refl, rfl⟩⟩
  · cases e
    obtain ⟨p, vs, rfl, t, r⟩ := h1.rol
    exact ⟨_, vs.length, rfl, .inl ⟨vs, t, rfl⟩, by rw [← r.length]; exact q _ _ ⟨Gr.refl, rfl⟩⟩
  · cases e
    obtain ⟨p, vs, rfl, t, r⟩ := h1.tup
    exact ⟨_, vs.length, rfl, .inr ⟨vs, t, rfl⟩, by rw [← r.length]; exact q _ _ ⟨Gr.refl, rfl⟩⟩
  · split at e
    · rename_i s hl
      cases e
      exact ⟨_, s.length, rfl, by rw [h1.str]; exact ⟨by rw [line_eq]; exact hl, rfl⟩, q _ _ ⟨Gr.refl, rfl⟩⟩
    · cases e
  · cases e
def intF : W → Option R
  | .int i => some (.w (.int i))
  | .bl b => some (.w (.int (if b then 1 else 0)))
  | _ => none
theorem ok_int : P1ok K (fun x H Q => (∃ i, [x] = [.int i] ∧ Q (.int i) H) ∨ ∃ k, [x] = [.bl k] ∧ Q (.int (if k then 1 else 0)) H) intF := by
  intro ρ H B w v res hB h1 e Q q
  unfold intF at e
  split at e
  · cases e
    exact .inl ⟨_, by rw [h1.int], q _ _ ⟨Gr.refl, rfl⟩⟩
  · cases e
    exact .inr ⟨_, by rw [h1.bl], q _ _ ⟨Gr.refl, rfl⟩⟩
  · cases e
/-- list(x) -/
def listF : W → Option R
  | .lst ws => some (.fr (.lst ws))
  | .rol ws => some (.fr (.lst ws))
  | .tup ws => some (.fr (.lst ws))
  | .str s => if s.cps.size ≤ 16777216 then some (.fr (.lst (s.cps.toList.map fun c => .str ⟨#[c]⟩))) else none
  | _ => none
def rListU (K : PySem.W.Frag) : List V → Hp → VK → Prop := fun xs H Q => (∃ p ys, xs = [.ref p] ∧ (SqL K H p ys ∨ SqT K H p ys) ∧ ∀ l, H l = none → Q (.ref l) (upd H l (.lst ys))) ∨
  ∃ s : Str, xs = [.str s] ∧ s.cps.size ≤ sizeLine ∧ ∀ l, H l = none → Q (.ref l) (upd H l (.lst (s.cps.toList.map fun c => V.str ⟨#[c]⟩)))
theorem ok_list : P1ok K (fun x H Q => rListU K [x] H Q) listF := by
  intro ρ H B w v res hB h1 e Q q
  unfold listF at e
  split at e
  · cases e
    obtain ⟨p, vs, rfl, t, r⟩ := h1.lst
    exact .inl ⟨p, vs, rfl, .inl (.inl (.inl t)), fun l hl => q _ _ (pres_lst hl r)⟩
  · cases e
    obtain ⟨p, vs, rfl, t, r⟩ := h1.rol
    exact .inl ⟨p, vs, rfl, .inl t, fun l hl => q _ _ (pres_lst hl r)⟩
  · cases e
    obtain ⟨p, vs, rfl, t, r⟩ := h1.tup
    exact .inl ⟨p, vs, rfl, .inr t, fun l hl => q _ _ (pres_lst hl r)⟩
  · split at e
    · rename_i s hl
      cases e
      refine .inr ⟨s, by rw [h1.str], by rw [line_eq]; exact hl, fun l hl => q _ _ (pres_lst hl ?_)⟩
      generalize s.cps.toList = cs
      induction cs with
      | nil => exact rfl
      | cons c cs ih => exact ⟨_, _, rfl, rfl, ih⟩
    · cases e
  · cases e
end
theorem vals_ext : ∀ (vs : List V) (us : List Value), vs.length = us.length → (∀ (j : Nat) v u, vs[j]? = some v → us[j]? = some u → RelV v u) → Vals vs us
  | [], [], _, _ => .nil
  | [], _ :: _, h, _ => by cases h
  | _ :: _, [], h, _ => by cases h
  | v :: vs, u :: us, h, k => .cons (k 0 v u rfl rfl) (vals_ext vs us (by simpa using h) fun j v' u' e1 e2 => k (j + 1) v' u' (by simpa using e1) (by simpa using e2))
theorem itemsOf_vals {x : Str} {acc : Array Value} (h : ItemsOf (SignAt x) acc x.cps.size) : Vals (x.cps.toList.map fun c => V.str ⟨#[c]⟩) acc.toList := by
  obtain ⟨hl, hi⟩ := h
  refine vals_ext _ _ (by simp [hl]) fun j v u e1 e2 => ?_
  obtain ⟨c, t, ec, rfl⟩ := hi j u (by simpa using e2)
  rw [List.getElem?_map] at e1
  have e3 : x.cps.toList[j]? = some c := by simpa using ec
  rw [e3] at e1
  cases e1
  exact ⟨t, rfl⟩
theorem call_listU (hc : X.calm = true) : CallR X (.type "list") (rListU X.K) := by
  refine CallR.or call_list_of ?_
  intro pins s σ H xs us Q I r h
  obtain ⟨z, rfl, hz, q⟩ := h
  obtain ⟨u, rfl, t, rfl⟩ := vals1 r
  refine PySem.call_list_str (I.ok.hd hc) z t (fun h' tk acc' c' kp e it => ?_) hz
  have rv := itemsOf_vals it
  refine ⟨.ref s.heap.objs.size, _, I.laid (t' := tk) kp (Nat.le_refl _) (show ObjOk X.prog X.w _ h' _ (.lst (z.cps.toList.map fun c => V.str ⟨#[c]⟩)) from ⟨?_, acc'.toList, c', rv, by simpa using e⟩), rfl, q _ (I.hok.fresh (Nat.le_refl _))⟩
  simpa using hz
section
variable {K : PySem.W.Frag}
/-- tuple(x) -/
def tupF : W → Option R
  | .lst ws => some (.w (.tup ws))
  | .rol ws => some (.w (.tup ws))
  | .tup ws => some (.w (.tup ws))
  | _ => none
theorem ok_tuple : P1ok K (fun x H Q => ∃ p ys, [x] = [.ref p] ∧ ((SqL K H p ys ∧ ∀ l, H l = none → Q (.ref l) (upd H l (.tup ys))) ∨ (SqT K H p ys ∧ Q (.ref p) H))) tupF := by
  intro ρ H B w v res hB h1 e Q q
  unfold tupF at e
  split at e
  · cases e
    obtain ⟨p, vs, rfl, t, r⟩ := h1.lst
    exact ⟨p, vs, rfl, .inl ⟨.inl (.inl t), fun l hl => q _ _ (pres_tup hB hl r)⟩⟩
  · cases e
    obtain ⟨p, vs, rfl, t, r⟩ := h1.rol
    exact ⟨p, vs, rfl, .inl ⟨t, fun l hl => q _ _ (pres_tup hB hl r)⟩⟩
  · rename_i ws
    cases e
    have h1' : RV K ρ H B (.tup ws) v := h1.resolve_right fun ⟨p, _, z⟩ => z.elim
    obtain ⟨p, vs, rfl, t, r⟩ := id h1'
    exact ⟨p, vs, rfl, .inr ⟨t.sq, q _ _ (rv_w h1')⟩⟩
  · cases e
/-- texts -/
def strsW : List W → Option (List Str)
  | [] => some []
  | .str s :: ws => (strsW ws).map (s :: ·)
  | _ :: _ => none
theorem strs_rv {ρ : List Addr} {H : Hp} {B : Addr → Prop} : ∀ {ws : List W} {vs : List V} {xs : List Str}, RVs K ρ H B ws vs → strsW ws = some xs → vs = xs.map V.str
  | [], vs, xs, h, e => by
    cases e
    exact h
  | .str s :: ws, vs, xs, h, e => by
    obtain ⟨v, r, rfl, a, b⟩ := h
    unfold strsW at e
    cases e1 : strsW ws with
    | none => rw [e1] at e; cases e
    | some ys =>
      rw [e1] at e
      cases e
      rw [show v = V.str s from a, strs_rv b e1] <;> rfl
  | .non :: _, _, _, _, e => by cases e
  | .bl _ :: _, _, _, _, e => by cases e
  | .int _ :: _, _, _, _, e => by cases e
  | .tup _ :: _, _, _, _, e => by cases e
  | .lst _ :: _, _, _, _, e => by cases e
  | .rol _ :: _, _, _, _, e => by cases e
  | .dic _ _ :: _, _, _, _, e => by cases e
  | .obj _ :: _, _, _, _, e => by cases e
def joinF : W → W → Option R := fun w u => match w with
  | .str a => match (match u with | .lst ws => strsW ws | .tup ws => strsW ws | _ => none) with
    | some ys => if (ys.map (·.length)).sum + ys.length * a.length ≤ 16777216 then some (.w (.str (Txt.join a ys))) else none
    | none => none
  | _ => none
theorem ok_join : P2ok K (fun x y H Q => ∃ a p, ∃ ys : List Str, x = .str a ∧ [y] = [.ref p] ∧ (SqL K H p (ys.map V.str) ∨ SqT K H p (ys.map V.str)) ∧
    (ys.map (·.length)).sum + ys.length * a.length ≤ 16777216 ∧ Q (.str (Txt.join a ys)) H) joinF := by
  intro ρ H B w u v x res hB h1 h2 e Q q
  unfold joinF at e
  split at e
  · rename_i a
    split at e
    · rename_i ys ey
      split at e
      · rename_i hl
        cases e
        split at ey
        · obtain ⟨p, vs, rfl, t, r⟩ := h2.lst
          cases strs_rv r ey
          exact ⟨a, p, ys, h1.str, rfl, .inl (.inl (.inl t)), hl, q _ _ ⟨Gr.refl, rfl⟩⟩
        · obtain ⟨p, vs, rfl, t, r⟩ := h2.tup
          cases strs_rv r ey
          exact ⟨a, p, ys, h1.str, rfl, .inr t, hl, q _ _ ⟨Gr.refl, rfl⟩⟩
        · cases ey
      · cases e
    · cases e
  · cases e
theorem rvs_strs {ρ : List Addr} {H : Hp} {B : Addr → Prop} : ∀ xs : List Str, RVs K ρ H B (xs.map W.str) (xs.map V.str)
  | [] => rfl
  | x :: xs => ⟨_, _, rfl, rfl, rvs_strs xs⟩
def splitF : W → W → Option R
  | .str a, .str b => if (b.length == 0) = false ∧ a.length + 2 ≤ 16777216 then some (.fr (.lst ((Txt.split a b).map W.str))) else none
  | _, _ => none
theorem ok_split : P2ok K (fun x y H Q => ∃ a b, x = .str a ∧ [y] = [.str b] ∧ (b.length == 0) = false ∧ a.length + 2 ≤ sizeLine ∧ rNewStrs (Txt.split a b) H Q) splitF := by
  intro ρ H B w u v x res hB h1 h2 e Q q
  unfold splitF at e
  split at e
  · split at e
    · rename_i a b hl
      cases e
      exact ⟨a, b, h1.str, by rw [h2.str], hl.1, by rw [line_eq]; exact hl.2, fun p hp => q _ _ (pres_lst hp (rvs_strs _))⟩
    · cases e
  · cases e
def alnumF : W → Option R
  | .str a => some (.w (.bl (Txt.isalnum a)))
  | _ => none
theorem ok_alnum : P1ok K (fun x H Q => ∃ a, x = .str a ∧ ([] : List V) = [] ∧ True ∧ Q (.bl (Txt.isalnum a)) H) alnumF := by
  intro ρ H B w v res hB h1 e Q q
  unfold alnumF at e
  split at e
  · cases e
    exact ⟨_, h1.str, rfl, trivial, q _ _ ⟨Gr.refl, rfl⟩⟩
  · cases e
def maxF : W → W → Option R
  | .int i, .int j => some (.w (.int (if j > i then j else i)))
  | _, _ => none
theorem ok_max : P2ok K (fun x y H Q => ∃ i j, [x, y] = [.int i, .int j] ∧ Q (.int (if j > i then j else i)) H) maxF := by
  intro ρ H B w u v x res hB h1 h2 e Q q
  unfold maxF at e
  split at e
  · cases e
    exact ⟨_, _, by rw [h1.int, h2.int], q _ _ ⟨Gr.refl, rfl⟩⟩
  · cases e
def boolsW : List W → Option (List Bool)
  | [] => some []
  | .bl s :: ws => (boolsW ws).map (s :: ·)
  | _ :: _ => none
theorem bools_rv {ρ : List Addr} {H : Hp} {B : Addr → Prop} : ∀ {ws : List W} {vs : List V} {xs : List Bool}, RVs K ρ H B ws vs → boolsW ws = some xs → vs = xs.map V.bl
  | [], vs, xs, h, e => by
    cases e
    exact h
  | .bl s :: ws, vs, xs, h, e => by
    obtain ⟨v, r, rfl, a, b⟩ := h
    unfold boolsW at e
    cases e1 : boolsW ws with
    | none => rw [e1] at e; cases e
    | some ys =>
      rw [e1] at e
      cases e
      rw [show v = V.bl s from a, bools_rv b e1] <;> rfl
  | .non :: _, _, _, _, e => by cases e
  | .str _ :: _, _, _, _, e => by cases e
  | .int _ :: _, _, _, _, e => by cases e
  | .tup _ :: _, _, _, _, e => by cases e
  | .lst _ :: _, _, _, _, e => by cases e
  | .rol _ :: _, _, _, _, e => by cases e
  | .dic _ _ :: _, _, _, _, e => by cases e
  | .obj _ :: _, _, _, _, e => by cases e
def allF : W → Option R
  | .lst ws => (boolsW ws).map fun bs => .w (.bl (bs.all id))
  | _ => none
def anyF : W → Option R
  | .lst ws => (boolsW ws).map fun bs => .w (.bl (bs.any id))
  | _ => none
theorem ok_all : P1ok K (fun x H Q => rAll K [x] H Q) allF := by
  intro ρ H B w v res hB h1 e Q q
  unfold allF at e
  split at e
  · rename_i ws
    cases e1 : boolsW ws with
    | none => rw [e1] at e; cases e
    | some ys =>
      rw [e1] at e
      cases e
      obtain ⟨p, vs, rfl, t, r⟩ := h1.lst
      cases bools_rv r e1
      exact ⟨p, ys, rfl, .inl (.inl t), q _ _ ⟨Gr.refl, rfl⟩⟩
  · cases e
theorem ok_any : P1ok K (fun x H Q => rAny K [x] H Q) anyF := by
  intro ρ H B w v res hB h1 e Q q
  unfold anyF at e
  split at e
  · rename_i ws
    cases e1 : boolsW ws with
    | none => rw [e1] at e; cases e
    | some ys =>
      rw [e1] at e
      cases e
      obtain ⟨p, vs, rfl, t, r⟩ := h1.lst
      cases bools_rv r e1
      exact ⟨p, ys, rfl, .inl (.inl t), q _ _ ⟨Gr.refl, rfl⟩⟩
  · cases e
/-! isinstance of built-in classes -/
inductive Ty where
  | int | bool | str | tuple | list | dict
def Ty.nm : Ty → String
  | .int => "int" | .bool => "bool" | .str => "str" | .tuple => "tuple" | .list => "list" | .dict => "dict"
def W.ty : W → Option String
  | .non => some "NoneType" | .bl _ => some "bool" | .int _ => some "int" | .str _ => some "str" | .tup _ => some "tuple" | .lst _ => some "list" | .dic _ _ => some "dict" | _ => none
def isTy : W → Ty → Option Bool
  | .non, _ => some false
  | .bl _, .bool => some true
  | .bl _, .int => some true
  | .bl _, _ => some false
  | .int _, .int => some true
  | .int _, _ => some false
  | .str _, .str => some true
  | .str _, _ => some false
  | .tup _, .tuple => some true
  | .tup _, _ => some false
  | .lst _, .list => some true
  | .lst _, _ => some false
  | .dic _ _, .dict => some true
  | .dic _ _, _ => some false
  | _, _ => none
theorem isTy_kit {w : W} {t : Ty} {b : Bool} (e : isTy w t = some b) : ∃ n, w.ty = some n ∧ kitB n t.nm = some b := by
  cases w <;> first
    | (cases e; done)
    | (refine ⟨_, rfl, ?_⟩; cases t <;> (cases e; decide +kernel))
theorem tyx_of {ρ : List Addr} {H : Hp} {B : Addr → Prop} {w : W} {v : V} {n : String} (h : RO K ρ H B w v) (e : w.ty = some n) : TyX K H v (.type n) := by
  cases w with
  | non => cases e; rw [h.non]; exact .base .non
  | bl b => cases e; rw [h.bl]; exact .base (.bl b)
  | int b => cases e; rw [h.int]; exact .base (.int b)
  | str b => cases e; rw [h.str]; exact .base (.str b)
  | tup xs =>
    cases e
    obtain ⟨p, vs, rfl, t, r⟩ := h.tup
    rcases t with (t | ⟨o, t⟩) | ⟨o, its, n, t, c, _⟩
    · exact .base (.tup t)
    · exact .fTuple t
    · exact .kTuple t c
  | lst xs =>
    cases e
    obtain ⟨p, vs, rfl, t, r⟩ := h.lst
    exact .base (.lst t)
  | dic ks xs =>
    cases e
    obtain ⟨p, vs, rfl, t, r⟩ := h.dic
    exact .base (.dK t)
  | rol xs => cases e
  | obj k => cases e
def isiF (t : Ty) (w : W) : Option R := (isTy w t).map fun b => .w (.bl b)
theorem ok_isi {t : Ty} : P1ok K (fun x H Q => rIsi K [x, .ty t.nm] H Q) (isiF t) := by
  intro ρ H B w v res hB h1 e Q q
  unfold isiF at e
  cases e1 : isTy w t with
  | none => rw [e1] at e; cases e
  | some b =>
    rw [e1] at e
    cases e
    obtain ⟨n, e2, k⟩ := isTy_kit e1
    exact ⟨v, .ty t.nm, .type n, .type t.nm, b, rfl, .ty _, tyx_of h1 e2, kit_ty k, q _ _ ⟨Gr.refl, rfl⟩⟩
end
/-- isinstance(a, T) -/
theorem me_isi {x y : Str} {p p2 : Pos} (t : Ty) (hg : Gl X x) (hm : X.mg x = none) (hv : bootBuiltins x = some (.builtin "isinstance")) (hg2 : Gl X y) (hm2 : X.mg y = none) (hv2 : bootBuiltins y = some (.type t.nm)) (ha : MA X C U a fa)
    (hn : x ≠ "__name__" := by decide) (hdb : (x == ("__debug__" : Str)) = false := by decide) (hn2 : y ≠ "__name__" := by decide) (hdb2 : (y == ("__debug__" : Str)) = false := by decide)
    (hs : starEach [a, .Name y p2] X.env = (false, eval a X.env) :: starEach [.Name y p2] X.env := by rfl) (hs2 : starEach [.Name y p2] X.env = (false, eval (.Name y p2) X.env) :: starEach [] X.env := by rfl)
    (hpl : (backTo pos (starEach [.Name y p2] X.env)).any (·.1) = false := by rfl) : ME X C U (.Call (.Name x p) [a, .Name y p2] [] pos) (cP1 (isiF t) fa) :=
  me_p1 ok_isi ha fun ta h => PE_imp (pe_callB call_isi hg hm hv (pa_cons h (pa_cons (pe_bltn (v := .ty t.nm) hg2 hm2 hv2 rfl hn2 hdb2) pa_nil hs2) hs) hn hdb hs hpl) fun σ H Q q => q
end
end Mi

set_option Elab.async false
set_option linter.all false
set_option maxRecDepth 100000
set_option maxHeartbeats 4000000
/-! Containers changed in place, dicts, pairs of stores, calls of defs, defs. -/
namespace Mi
open PySem PySem.Spec PyProof.Rows L2
section
variable {X : Cx} {C : Nat → Addr} {U : WX} {e a b c o : Expr} {f g : CE} {fa fb fc : CA} {pos : Pos}

/-! ### lists in slots -/
/-- x.append(e) -/
def cApp (i : Nat) (f : CE) : CE := fun S => match S.ws[i]? with
  | some (.own (.lst _)) => M.bind (f S) fun p => match p.2.ws[i]? with
    | some (.own (.lst xs)) => if xs.length < 16777216 then .ok (.w .non, { p.2 with ws := p.2.ws.set i (.own (.lst (xs ++ [p.1.val]))) }) else .no
    | _ => .no
  | _ => .no
theorem me_app {i : Nat} {x : Str} {apos p1 : Pos} (he : ME X C U e f) (hN : X.N[i]? = some x := by rfl) (hv : Vis X.env.scope x := by first | exact Or.inl rfl | exact Or.inr (Or.inl rfl) | exact Or.inr (Or.inr rfl)) (hd : (x == ("__debug__" : Str)) = false := by decide)
    (hcd : (x == ("__classdict__" : Str)) = false := by decide) (hs : starEach [e] X.env = (false, eval e X.env) :: starEach [] X.env := by rfl)
    (hbase : attributeBase (.Name x p1) "append" X.env (eval (.Name x p1) X.env) = eval (.Name x p1) X.env := by rfl)
    (hfew : ((backTo pos (starEach [e] X.env)).all (fun x => !x.1) && (backToKw pos (keywordEach [] X.env)).all (fun x => x.1.isSome)
      && decide (([e] : List Expr).length + ([] : List Keyword).length + (if ([] : List Keyword).isEmpty then 0 else 1) < 30)) = true := by rfl)
    (hline : (apos.endLine == pos.line) = true := by rfl) : ME X C U (.Call (.Attribute (.Name x p1) "append" apos) [e] [] pos) (cApp i f) := by
  refine PE_imp (pe_bm PySem.F.plainAttrs_list PySem.F.slot_list_append PySem.F.type_list_append mt_append (pe_var hN hv hd hcd) (pa_cons he pa_nil hs) hbase hfew hline hs (by rfl)) fun σ H Q q => ?_
  obtain ⟨P, ρ, S, sr, g⟩ := q
  unfold cApp at g
  split at g
  · rename_i xs0 e0
    obtain ⟨p, a, b, _⟩ := sr.owns i _ e0
    obtain ⟨vs0, b, _⟩ := b
    refine ⟨_, a, .inl ⟨rfl, vs0, .inl (.inl b)⟩, ?_⟩
    obtain ⟨P0, ρ0, S0, sr0, g⟩ := go_bind (r := rE X.K) rE_ok sr g
    refine ⟨P0, ρ0, S0, sr0, g.mono fun v H1 z => ?_⟩
    obtain ⟨ρ1, S1, r, t, x, e, g1⟩ := z
    obtain ⟨sr1, rv⟩ := RR.w x
    dsimp only at g1
    split at g1
    · rename_i xs e1
      split at g1
      · rename_i hl
        obtain ⟨p', a', b', _⟩ := sr1.owns i _ e1
        rw [a] at a'
        cases a'
        obtain ⟨vs, b', r'⟩ := b'
        refine ⟨p, vs, v, rfl, rfl, b', by rw [line_eq, ← r'.length]; exact hl, ?_⟩
        have bp : Bd P ρ1 S1.ws σ p := .inr (.inr ⟨i, _, e1, a⟩)
        obtain ⟨sr2, t2⟩ := sr_mut (o := .lst (vs ++ [v])) (w' := .lst (xs ++ [r.val])) sr1 e1 a ⟨_, upd_same, RVs.mono (ρ' := ρ1) ⟨[], by simp⟩ (fun q u e n => by
          have nq : q ≠ p := fun z => n (by rw [z]; exact bp)
          rw [upd_ne nq]
          exact e) (fun _ n _ => n) _ _ (r'.append (RVs.one rv))⟩
        exact g1 .non ρ1 _ t2 ⟨sr2, rfl⟩
      · exact g1.elim
    · exact g1.elim
  · exact g.elim
/-- x.pop(e) -/
def cPopAt (i : Nat) (f : CE) : CE := fun S => match S.ws[i]? with
  | some (.own (.lst _)) => M.bind (f S) fun p => match p.1.val, p.2.ws[i]? with
    | .int k, some (.own (.lst xs)) => if Sm k then (match seqIndex? k xs.length with
        | some j => match xs[j]? with
          | some w => .ok (.w w, { p.2 with ws := p.2.ws.set i (.own (.lst (xs.eraseIdx j))) })
          | none => .no
        | none => .no) else .no
    | _, _ => .no
  | _ => .no
theorem me_popAt {i : Nat} {x : Str} {apos p1 : Pos} (he : ME X C U e f) (hN : X.N[i]? = some x := by rfl) (hv : Vis X.env.scope x := by first | exact Or.inl rfl | exact Or.inr (Or.inl rfl) | exact Or.inr (Or.inr rfl)) (hd : (x == ("__debug__" : Str)) = false := by decide)
    (hcd : (x == ("__classdict__" : Str)) = false := by decide) (hs : starEach [e] X.env = (false, eval e X.env) :: starEach [] X.env := by rfl)
    (hbase : attributeBase (.Name x p1) "pop" X.env (eval (.Name x p1) X.env) = eval (.Name x p1) X.env := by rfl)
    (hfew : ((backTo pos (starEach [e] X.env)).all (fun x => !x.1) && (backToKw pos (keywordEach [] X.env)).all (fun x => x.1.isSome)
      && decide (([e] : List Expr).length + ([] : List Keyword).length + (if ([] : List Keyword).isEmpty then 0 else 1) < 30)) = true := by rfl)
    (hline : (apos.endLine == pos.line) = true := by rfl) : ME X C U (.Call (.Attribute (.Name x p1) "pop" apos) [e] [] pos) (cPopAt i f) := by
  refine PE_imp (pe_bm PySem.F.plainAttrs_list PySem.F.slot_list_pop PySem.F.type_list_pop mt_popAt (pe_var hN hv hd hcd) (pa_cons he pa_nil hs) hbase hfew hline hs (by rfl)) fun σ H Q q => ?_
  obtain ⟨P, ρ, S, sr, g⟩ := q
  unfold cPopAt at g
  split at g
  · rename_i xs0 e0
    obtain ⟨p, a, b, _⟩ := sr.owns i _ e0
    obtain ⟨vs0, b, _⟩ := b
    refine ⟨_, a, .inl ⟨rfl, vs0, .inl (.inl b)⟩, ?_⟩
    obtain ⟨P0, ρ0, S0, sr0, g⟩ := go_bind (r := rE X.K) rE_ok sr g
    refine ⟨P0, ρ0, S0, sr0, g.mono fun v H1 z => ?_⟩
    obtain ⟨ρ1, S1, r, t, x, e, g1⟩ := z
    obtain ⟨sr1, rv⟩ := RR.w x
    dsimp only at g1
    split at g1
    · rename_i k xs ek e1
      split at g1
      · rename_i hk
        split at g1
        · rename_i j ej
          split at g1
          · rename_i w ew
            rw [ek] at rv
            cases (show v = V.int k from rv)
            obtain ⟨p', a', b', _⟩ := sr1.owns i _ e1
            rw [a] at a'
            cases a'
            obtain ⟨vs, b', r'⟩ := b'
            obtain ⟨y, ey, ry⟩ := r'.get ew
            refine ⟨p, vs, k, j, y, rfl, rfl, b', (sm63 hk).1, (sm63 hk).2, by rw [← r'.length]; exact ej, ey, ?_⟩
            have bp : Bd P ρ1 S1.ws σ p := .inr (.inr ⟨i, _, e1, a⟩)
            have kp : ∀ (q : Addr) (u : HO), H1 q = some u → ¬ Bd P ρ1 S1.ws σ q → upd H1 p (.lst (vs.eraseIdx j)) q = some u := fun q u e n => by
              have nq : q ≠ p := fun z => n (by rw [z]; exact bp)
              rw [upd_ne nq]
              exact e
            obtain ⟨sr2, t2⟩ := sr_mut (o := .lst (vs.eraseIdx j)) (w' := .lst (xs.eraseIdx j)) sr1 e1 a ⟨_, upd_same, RVs.mono (ρ' := ρ1) ⟨[], by simp⟩ kp (fun _ n _ => n) _ _ (r'.eraseIdx j)⟩
            exact g1 y ρ1 _ t2 ⟨sr2, t2.rv ry⟩
          · exact g1.elim
        · exact g1.elim
      · exact g1.elim
    · exact g1.elim
  · exact g.elim
/-- x.pop() -/
def cPop (i : Nat) : CE := fun S => match S.ws[i]? with
  | some (.own (.lst xs)) => match xs[xs.length - 1]? with
    | some w => .ok (.w w, { S with ws := S.ws.set i (.own (.lst xs.dropLast)) })
    | none => .no
  | _ => .no
theorem RVs.dropLast {K : PySem.W.Frag} {ρ : List Addr} {H : Hp} {B : Addr → Prop} {ws : List W} {vs : List V} (r : RVs K ρ H B ws vs) : RVs K ρ H B ws.dropLast vs.dropLast := by
  rw [List.dropLast_eq_take, List.dropLast_eq_take, r.length]
  exact r.take _
theorem me_pop {i : Nat} {x : Str} {apos p1 : Pos} (hN : X.N[i]? = some x := by rfl) (hv : Vis X.env.scope x := by first | exact Or.inl rfl | exact Or.inr (Or.inl rfl) | exact Or.inr (Or.inr rfl)) (hd : (x == ("__debug__" : Str)) = false := by decide)
    (hcd : (x == ("__classdict__" : Str)) = false := by decide)
    (hbase : attributeBase (.Name x p1) "pop" X.env (eval (.Name x p1) X.env) = eval (.Name x p1) X.env := by rfl)
    (hline : (apos.endLine == pos.line) = true := by rfl) : ME X C U (.Call (.Attribute (.Name x p1) "pop" apos) [] [] pos) (cPop i) := by
  refine PE_imp (pe_bm0 PySem.F.plainAttrs_list PySem.F.slot_list_pop PySem.F.type_list_pop mt_pop (pe_var hN hv hd hcd) hbase hline) fun σ H Q q => ?_
  obtain ⟨P, ρ, S, sr, g⟩ := q
  unfold cPop at g
  split at g
  · rename_i xs e1
    split at g
    · rename_i w ew
      obtain ⟨p, a, b, _⟩ := sr.owns i _ e1
      obtain ⟨vs, b, r⟩ := b
      obtain ⟨y, ey, ry⟩ := r.get ew
      refine ⟨_, a, .inl ⟨rfl, vs, .inl (.inl b)⟩, p, vs, y, rfl, rfl, b, by rw [← r.length]; exact ey, ?_⟩
      have bp : Bd P ρ S.ws σ p := .inr (.inr ⟨i, _, e1, a⟩)
      have kp : ∀ (q : Addr) (u : HO), H q = some u → ¬ Bd P ρ S.ws σ q → upd H p (.lst vs.dropLast) q = some u := fun q u e n => by
        have nq : q ≠ p := fun z => n (by rw [z]; exact bp)
        rw [upd_ne nq]
        exact e
      obtain ⟨sr2, t2⟩ := sr_mut (o := .lst vs.dropLast) (w' := .lst xs.dropLast) sr e1 a ⟨_, upd_same, RVs.mono (ρ' := ρ) ⟨[], by simp⟩ kp (fun _ n _ => n) _ _ r.dropLast⟩
      exact g y ρ _ t2 ⟨sr2, t2.rv ry⟩
    · exact g.elim
  · exact g.elim

/-! ### dicts -/
def keyW : W → Option Key
  | .int i => some (.inl i)
  | .str s => some (.inr s)
  | _ => none
def valW (ks : List Key) (ws : List W) (k : Key) : Option W := ((ks.zip ws).find? fun p => decide (p.1 = k)).map (·.2)
def putW (ks : List Key) (ws : List W) (k : Key) (w : W) : List Key × List W :=
  if (ks.any fun x => decide (x = k)) = true then (ks, (ks.zip ws).map fun p => if p.1 = k then w else p.2) else (ks ++ [k], ws ++ [w])
section
variable {K : PySem.W.Frag} {ρ : List Addr} {H : Hp} {B : Addr → Prop}
theorem keyW_kV {w : W} {v : V} {k : Key} (h : RO K ρ H B w v) (e : keyW w = some k) : v = kV k := by
  cases w with
  | int i => cases e; exact h.int
  | str i => cases e; exact h.str
  | _ => cases e
theorem valW_rv {k : Key} {w : W} : ∀ {ks : List Key} {ws : List W} {vs : List V}, RVs K ρ H B ws vs → ks.length = ws.length → valW ks ws k = some w → ∃ v, valV (ks.zip vs) k = some v ∧ RV K ρ H B w v
  | [], ws, vs, _, _, e => by cases e
  | x :: ks, [], vs, _, l, _ => by cases l
  | x :: ks, w0 :: ws, vs, h, l, e => by
    obtain ⟨v, r, rfl, a, b⟩ := h
    unfold valW at e
    rw [List.zip_cons_cons, List.find?_cons] at e
    rw [List.zip_cons_cons]
    by_cases hx : x = k
    · have hd : decide (x = k) = true := decide_eq_true hx
      simp only [hd] at e
      cases e
      exact ⟨v, valV_pos hx, a⟩
    · have hd : decide (x = k) = false := decide_eq_false hx
      simp only [hd] at e
      rw [valV_neg hx]
      exact valW_rv b (by simpa using l) e
theorem map_rv {k : Key} {w : W} {v : V} (hw : RV K ρ H B w v) : ∀ {ks : List Key} {ws : List W} {vs : List V}, RVs K ρ H B ws vs → ks.length = ws.length →
    ∃ vs', (ks.zip vs).map (fun kv => if kv.1 = k then (kv.1, v) else kv) = ks.zip vs' ∧ RVs K ρ H B ((ks.zip ws).map fun p => if p.1 = k then w else p.2) vs' ∧ vs'.length = vs.length
  | [], ws, vs, h, l => by
    have : ws = [] := List.eq_nil_of_length_eq_zero l.symm
    subst this
    exact ⟨[], by simp, rfl, by rw [show vs = [] from h]⟩
  | x :: ks, [], vs, h, l => by cases l
  | x :: ks, w0 :: ws, vs, h, l => by
    obtain ⟨v0, r, rfl, a, b⟩ := h
    obtain ⟨vs', e1, e2, e3⟩ := map_rv hw (ks := ks) b (by simpa using l)
    by_cases hx : x = k
    · refine ⟨v :: vs', by simp [hx, e1], ⟨v, vs', rfl, by simp [hx]; exact hw, e2⟩, by simp [e3]⟩
    · refine ⟨v0 :: vs', by simp [hx, e1], ⟨v0, vs', rfl, by simp [hx]; exact a, e2⟩, by simp [e3]⟩
theorem putW_rv {k : Key} {w : W} {v : V} (hw : RV K ρ H B w v) {ks : List Key} {ws : List W} {vs : List V} (h : RVs K ρ H B ws vs) (l : ks.length = ws.length) :
    ∃ vs', putK (ks.zip vs) k v = (putW ks ws k w).1.zip vs' ∧ RVs K ρ H B (putW ks ws k w).2 vs' ∧ (putW ks ws k w).1.length = (putW ks ws k w).2.length := by
  have lv := h.length
  have ea : ((ks.zip vs).any fun kv => decide (kv.1 = k)) = ks.any fun x => decide (x = k) := by
    have e : ks = (ks.zip vs).map (·.1) := by rw [List.map_fst_zip (by omega)]
    conv => rhs; rw [e]
    rw [List.any_map]
    rfl
  unfold putK putW
  rw [ea]
  split
  · obtain ⟨vs', e1, e2, e3⟩ := map_rv (k := k) hw h l
    exact ⟨vs', e1, e2, by simp only [List.length_map, List.length_zip]; omega⟩
  · refine ⟨vs ++ [v], ?_, h.append (RVs.one hw), by simp [l]⟩
    rw [List.zip_append (by omega)]
    rfl
theorem merge_nodup : ∀ (kvs acc : List (Key × V)), (acc ++ kvs).map (·.1) |>.Nodup → mergeK acc kvs = acc ++ kvs
  | [], acc, _ => by simp [mergeK]
  | kv :: kvs, acc, h => by
    have hn : (acc.any fun x => decide (x.1 = kv.1)) = false := by
      rw [List.any_eq_false]
      intro x hx z
      have z' : x.1 = kv.1 := of_decide_eq_true z
      rw [List.map_append, List.map_cons] at h
      exact (List.nodup_append.mp h).2.2 x.1 (List.mem_map.mpr ⟨x, hx, rfl⟩) kv.1 List.mem_cons_self z'
    have e : putK acc kv.1 kv.2 = acc ++ [kv] := by
      unfold putK
      rw [hn, if_neg (by simp)]
    show mergeK (putK acc kv.1 kv.2) kvs = _
    rw [e, merge_nodup kvs (acc ++ [kv]) (by simpa using h)]
    simp
end
/-- a display with written keys: its values -/
def MP (X : Cx) (C : Nat → Addr) (U : WX) (pos : Pos) (keys : List (Option Expr)) (values : List Expr) (ks : List Key) (l : CL) : Prop :=
  ∃ trs, PPs X pos keys values trs ∧ ∀ σ H Q, rd ⟨X.K, C⟩ U (rL X.K) l σ H (fun vs H' => vs.length = ks.length → Q ((ks.map kV).zip vs) H') → tPairs trs σ H Q
theorem mp_nil : MP X C U pos [] [] [] cNil := ⟨[], pps_nil, fun σ H Q q => by
  obtain ⟨P, ρ, S, sr, g⟩ := q
  exact g [] ρ H Tr.refl ⟨sr, rfl⟩ rfl⟩
theorem mp_cons {s : Str} {j : Nat} {kp : Pos} {ks : List (Option Expr)} {vs : List Expr} {kk : List Key} {l : CL} (hv : ME X C U e f) (hr : MP X C U pos ks vs kk l) : MP X C U pos (some (.Constant (.str s) j kp) :: ks) (e :: vs) (.inr s :: kk) (cCons f l) := by
  obtain ⟨trs, h1, h2⟩ := hr
  refine ⟨(tC (.str s), rd ⟨X.K, C⟩ U (rE X.K) f) :: trs, pps_cons pe_str hv h1, fun σ H Q q => ?_⟩
  have z := rd_cons σ H _ q
  have z' : rd ⟨X.K, C⟩ U (rE X.K) f σ H (fun x H1 => rd ⟨X.K, C⟩ U (rL X.K) l σ H1 (fun xs H2 => (x :: xs).length = (Sum.inr s :: kk : List Key).length → Q (((Sum.inr s :: kk : List Key).map kV).zip (x :: xs)) H2)) := z
  show rd ⟨X.K, C⟩ U (rE X.K) f σ H fun y H2 => tPairs trs σ H2 fun ps H3 => Q ((.str s, y) :: ps) H3
  obtain ⟨P, ρ, S, sr, g⟩ := z'
  refine ⟨P, ρ, S, sr, g.mono fun y H2 q2 => h2 σ H2 _ ?_⟩
  obtain ⟨P, ρ, S, sr, g⟩ := q2
  exact ⟨P, ρ, S, sr, g.mono fun xs H3 q3 hl => q3 (by rw [List.length_cons, List.length_cons, hl])⟩
/-- {k: v, ..} -/
def cDis (ks : List Key) (l : CL) : CE := fun S => M.bind (l S) fun p => if ks.Nodup ∧ ks.length = p.1.length ∧ ks.length ≤ 15 then .ok (.fr (.dic ks p.1), p.2) else .no
/-- .. as an object that may be handed on and changed -/
def cObj (ks : List Key) (l : CL) : CE := fun S => M.bind (l S) fun p => if ks.Nodup ∧ ks.length = p.1.length ∧ ks.length ≤ 15 then .ok (.w (.obj p.2.h.length), { p.2 with h := p.2.h ++ [.dct ks p.1] }) else .no
theorem sr_obj_new {K : PySem.W.Frag} {P ρ : List Addr} {S : Sta} {σ : L2.St} {H : Hp} {p : Addr} {m : MO} (sr : SR K (p :: P) ρ S σ H) (np : p ∉ P) (h : MR K ρ H (Bd (p :: P) ρ S.ws σ) m p) :
    SR K P (ρ ++ [p]) { S with h := S.h ++ [m] } σ H ∧ ∀ q, Bd P (ρ ++ [p]) S.ws σ q ↔ Bd (p :: P) ρ S.ws σ q := by
  have bd : ∀ q, Bd P (ρ ++ [p]) S.ws σ q ↔ Bd (p :: P) ρ S.ws σ q := fun q => by
    unfold Bd
    simp only [List.mem_append, List.mem_cons, List.not_mem_nil, or_false]
    constructor
    · rintro (h | (h | h) | h)
      · exact .inl (.inr h)
      · exact .inr (.inl h)
      · exact .inl (.inl h)
      · exact .inr (.inr h)
    · rintro ((h | h) | h | h)
      · exact .inr (.inl (.inr h))
      · exact .inl h
      · exact .inr (.inl (.inl h))
      · exact .inr (.inr h)
  have hB : ∀ q, ¬ Bd (p :: P) ρ S.ws σ q → H q ≠ none → ¬ Bd P (ρ ++ [p]) S.ws σ q := fun q n _ z => n ((bd q).mp z)
  have ext : ∃ m, ρ ++ [p] = ρ ++ m := ⟨_, rfl⟩
  have pρ : p ∉ ρ := (sr.pr p List.mem_cons_self).2
  refine ⟨⟨sr.len, fun i w e => ?_, fun i w e => ?_, by simp [sr.hlen], ?_, fun k o e => ?_, fun q mq => ⟨(sr.pr q (List.mem_cons_of_mem _ mq)).1, fun z => ?_⟩⟩, bd⟩
  · obtain ⟨v, a, b⟩ := sr.vals i w e
    exact ⟨v, a, RV.mono ext (fun _ _ e _ => e) hB _ _ b⟩
  · obtain ⟨q, a, b, c, d, u⟩ := sr.owns i w e
    refine ⟨q, a, OR.mono ext (fun _ _ e _ => e) hB rfl b, fun z => c (List.mem_cons_of_mem _ z), fun z => ?_, u⟩
    rcases List.mem_append.mp z with z | z
    · exact d z
    · exact c (by rw [List.mem_singleton.mp z]; exact List.mem_cons_self)
  · rw [List.nodup_append]
    exact ⟨sr.nd, by simp, fun x hx y hy z => pρ (by rw [← List.mem_singleton.mp hy, ← z]; exact hx)⟩
  · have e' : (S.h ++ [m])[k]? = some o := e
    by_cases hk : k < S.h.length
    · rw [List.getElem?_append_left hk] at e'
      obtain ⟨a, b, c⟩ := sr.hp k o e'
      exact ⟨a, by rw [List.getElem?_append_left (List.getElem?_eq_some_iff.mp b).1]; exact b, MR.mono ext (fun _ _ e _ => e) hB rfl c⟩
    · have l2 := (List.getElem?_eq_some_iff.mp e').1
      rw [List.length_append, List.length_singleton] at l2
      have ek : k = S.h.length := by omega
      subst ek
      rw [List.getElem?_append_right (Nat.le_refl _), Nat.sub_self] at e'
      cases e'
      refine ⟨p, ?_, MR.mono ext (fun _ _ e _ => e) hB rfl h⟩
      rw [← sr.hlen, List.getElem?_append_right (Nat.le_refl _), Nat.sub_self]
      rfl
  · rcases List.mem_append.mp z with z | z
    · exact (sr.pr q (List.mem_cons_of_mem _ mq)).2 z
    · exact np (by rw [← List.mem_singleton.mp z]; exact mq)
/-- a display's turn: the new dict lies at p, under protection -/
theorem rd_dis {ks : List Key} {l : CL} {P ρ : List Addr} {S : Sta} {σ : L2.St} {H : Hp} {Q : VK} {trs : List (TE × TE)} (htr : ∀ σ H Q, rd ⟨X.K, C⟩ U (rL X.K) l σ H (fun vs H' => vs.length = ks.length → Q ((ks.map kV).zip vs) H') → tPairs trs σ H Q)
    (sr : SR X.K P ρ S σ H) (exn : ∀ x S', l S = .exc x S' → ∀ cls d ρ' H', Tr P ρ S.ws σ H ρ' S'.ws σ H' → SR X.K P ρ' S' σ H' → ExcR ⟨X.K, C⟩ ρ' H' (Bd P ρ' S'.ws σ) x cls d → U cls d σ H') (ok : l S ≠ .no)
    (nd : ∀ ws S', l S = .ok (ws, S') → ks.Nodup ∧ ks.length = ws.length ∧ ks.length ≤ 15)
    (q : ∀ ws S1 p ρ1 H2, l S = .ok (ws, S1) → H p = none → p ∉ P → Tr P ρ S.ws σ H ρ1 S1.ws σ H2 → SR X.K (p :: P) ρ1 S1 σ H2 → OR X.K ρ1 H2 (Bd (p :: P) ρ1 S1.ws σ) (.dic ks ws) p → Q (.ref p) H2) : tDisp trs σ H Q := by
  intro p hp
  have gr : Gr H (upd H p (.dK [])) := Gr.new hp
  have np : p ∉ P := fun z => (sr.pr p z).1 hp
  refine htr σ _ _ ⟨p :: P, ρ, S, sr.guard gr hp (by rw [upd_same]; intro z; cases z), ?_⟩
  cases e : l S with
  | no => exact absurd e ok
  | exc x S' =>
    intro cls d ρ' H' t s ex
    refine exn x S' e cls d ρ' H' (tr_unguard hp gr.tr t) s.drop ?_
    obtain ⟨z1, da, vs, z2, z3, z4, z5⟩ := ex
    refine ⟨z1, da, vs, z2, z3, z4, z5.weak fun q n _ z => n ?_⟩
    rcases z with z | z
    · exact .inl (List.mem_cons_of_mem _ z)
    · exact .inr z
  | ok r =>
    obtain ⟨ws, S1⟩ := r
    intro vs ρ1 H1 t ⟨sr1, rv⟩ hl
    obtain ⟨h1, h2, h3⟩ := nd ws S1 e
    have hp1 : H1 p = some (.dK []) := t.keep p _ upd_same (.inl List.mem_cons_self)
    have ez : mergeK [] (ks.zip vs) = ks.zip vs := by
      rw [merge_nodup]
      · rfl
      · rw [List.nil_append, List.map_fst_zip (by omega)]
        exact h1
    refine ⟨hp1, ks.zip vs, ?_, by rw [List.length_zip]; omega, ?_⟩
    · rw [show (fun (kv : Key × V) => (kV kv.1, kv.2)) = Prod.map kV id from rfl, ← List.zip_map_left]
    · rw [ez]
      refine q ws S1 p ρ1 _ e hp np (tr_D hp (tr_unguard hp gr.tr t)) (sr_prot sr1 List.mem_cons_self) ⟨vs, upd_same, h2, RVs.mono (ρ' := ρ1) ⟨[], by simp⟩ (fun q u e n => ?_) (fun _ n _ => n) _ _ rv⟩
      have nq : q ≠ p := fun z => n (by rw [z]; exact .inl List.mem_cons_self)
      rw [upd_ne nq]
      exact e
theorem me_dis {keys : List (Option Expr)} {values : List Expr} {ks : List Key} {l : CL} (h : MP X C U pos keys values ks l) (hall : keys.all (·.isSome) = true := by rfl) (hl : keys.length = values.length := by rfl) (h0 : keys ≠ [] := by intro z; cases z)
    (h15 : keys.length ≤ 15 := by decide) : ME X C U (.Dict keys values pos) (cDis ks l) := by
  obtain ⟨trs, h1, h2⟩ := h
  refine PE_imp (pe_disp h1 hall hl h0 h15) fun σ H Q q => ?_
  obtain ⟨P, ρ, S, sr, g⟩ := q
  unfold cDis at g
  refine rd_dis h2 sr (fun x S' e => ?_) (fun z => ?_) (fun ws S' e => ?_) fun ws S1 p ρ1 H2 e hp np t s o => ?_
  · rw [e] at g
    exact g
  · rw [z] at g
    exact g
  · rw [e] at g
    dsimp only [M.bind] at g
    split at g
    · assumption
    · exact g.elim
  · rw [e] at g
    dsimp only [M.bind] at g
    split at g
    · exact g (.ref p) ρ1 H2 t ⟨p, rfl, hp, np, s, o⟩
    · exact g.elim
theorem me_obj {keys : List (Option Expr)} {values : List Expr} {ks : List Key} {l : CL} (h : MP X C U pos keys values ks l) (hall : keys.all (·.isSome) = true := by rfl) (hl : keys.length = values.length := by rfl) (h0 : keys ≠ [] := by intro z; cases z)
    (h15 : keys.length ≤ 15 := by decide) : ME X C U (.Dict keys values pos) (cObj ks l) := by
  obtain ⟨trs, h1, h2⟩ := h
  refine PE_imp (pe_disp h1 hall hl h0 h15) fun σ H Q q => ?_
  obtain ⟨P, ρ, S, sr, g⟩ := q
  unfold cObj at g
  refine rd_dis h2 sr (fun x S' e => ?_) (fun z => ?_) (fun ws S' e => ?_) fun ws S1 p ρ1 H2 e hp np t s o => ?_
  · rw [e] at g
    exact g
  · rw [z] at g
    exact g
  · rw [e] at g
    dsimp only [M.bind] at g
    split at g
    · assumption
    · exact g.elim
  · rw [e] at g
    dsimp only [M.bind] at g
    split at g
    · obtain ⟨s2, bd⟩ := sr_obj_new (m := .dct ks ws) s np o
      refine g (.ref p) (ρ1 ++ [p]) H2 ⟨t.keep, fun q z => ?_, ?_, t.there⟩ ⟨s2, p, ?_, rfl⟩
      · rcases (bd q).mp z with z | z
        · rcases List.mem_cons.mp z with rfl | z
          · exact .inr hp
          · exact t.new q (.inl z)
        · exact t.new q (.inr z)
      · obtain ⟨m, rfl⟩ := t.ext
        exact ⟨m ++ [p], by simp⟩
      · rw [← s.hlen, List.getElem?_append_right (Nat.le_refl _), Nat.sub_self]
        rfl
    · exact g.elim
/-- {} -/
def cDis0 : CE := fun S => .ok (.fr (.dic [] []), S)
theorem me_dis0 : ME X C U (.Dict [] [] pos) cDis0 := PE_imp pe_dnewK fun σ H Q q => by
  obtain ⟨P, ρ, S, sr, g⟩ := q
  intro p hp
  obtain ⟨t, y⟩ := pres_rr (r := .fr (.dic [] [])) (v := .ref p) (H' := upd H p (.dK [])) sr ⟨Gr.new hp, p, rfl, hp, [], upd_same, rfl, rfl⟩
  exact g _ ρ _ t y
/-- what a dict holds -/
def dicAt (h : List MO) : W → Option (List Key × List W)
  | .dic ks ws => some (ks, ws)
  | .obj k => match h[k]? with
    | some (.dct ks ws) => some (ks, ws)
    | none => none
  | _ => none
theorem dicAt_rv {P ρ : List Addr} {S : Sta} {σ : L2.St} {H : Hp} {w : W} {v : V} {ks : List Key} {ws : List W} (sr : SR X.K P ρ S σ H) (h : RO X.K ρ H (Bd P ρ S.ws σ) w v) (e : dicAt S.h w = some (ks, ws)) :
    ∃ p vs, v = .ref p ∧ H p = some (.dK (ks.zip vs)) ∧ ks.length = ws.length ∧ RVs X.K ρ H (Bd P ρ S.ws σ) ws vs := by
  unfold dicAt at e
  split at e
  · cases e
    exact h.dic
  · rename_i k
    have h' : RV X.K ρ H (Bd P ρ S.ws σ) (.obj k) v := h.resolve_right fun ⟨p, _, z⟩ => z.elim
    obtain ⟨a, ea, rfl⟩ := h'
    split at e
    · rename_i ks' ws' e1
      cases e
      obtain ⟨a', ea', vs, x, y, z⟩ := sr.hp k _ e1
      rw [ea] at ea'
      cases ea'
      exact ⟨a, vs, rfl, x, y, z⟩
    · cases e
  · cases e
/-- d[k] -/
def cDGet (a b : CA) : CE := fun S => M.bind (a S) fun p => M.bind (b p.2) fun q => match p.1.get q.2, q.1.get q.2 with
  | some d, some y => match dicAt q.2.h d, keyW y with
    | some kw, some k => retO ((valW kw.1 kw.2 k).map .w) q.2
    | _, _ => .no
  | _, _ => .no
theorem me_dget {k : Nat} (hr : Room k X.A) (ha : MA X C U a fa) (hb : MA X C U b fb) (hs : NoSl b := by exact fun _ _ => rfl) : ME X C U (.Subscript a b pos) (cDGet fa fb) := by
  refine PE_imp (pe_dget (hu_of hr) ha hb hs) fun σ H Q q => ?_
  obtain ⟨P, ρ, S, sr, g⟩ := q
  obtain ⟨P0, ρ0, S0, sr0, g⟩ := go_bind (r := rA X.K) rE_ok sr g
  refine ⟨P0, ρ0, S0, sr0, g.mono fun v H1 z => ?_⟩
  obtain ⟨ρ1, S1, a, t, ⟨sr1, x⟩, e, g1⟩ := z
  obtain ⟨P1, ρ1', S1', sr1', g1⟩ := go_bind (r := rA X.K) rE_ok sr1 g1
  refine ⟨P1, ρ1', S1', sr1', g1.mono fun v2 H2 z => ?_⟩
  obtain ⟨ρ2, S2, a2, t2, ⟨sr2, x2⟩, e2, g2⟩ := z
  dsimp only at g2
  split at g2
  · rename_i d y ed ey
    split at g2
    · rename_i kw key ek eky
      obtain ⟨ks, ws⟩ := kw
      obtain ⟨res, er, kk⟩ := go_ret sr2 g2
      dsimp only at er
      cases ev : valW ks ws key with
      | none => rw [ev] at er; cases er
      | some w =>
        rw [ev] at er
        cases er
        obtain ⟨p, vs, rfl, hd, hl, rv⟩ := dicAt_rv sr2 (AR.get sr2 (x.tr t2) ed) ek
        obtain ⟨u, eu, ru⟩ := valW_rv rv hl ev
        cases keyW_kV (AR.get sr2 x2 ey) eky
        refine ⟨p, u, rfl, ?_, kk u H2 (rv_w ru)⟩
        rw [← eu]
        exact DGet.k hd
    · exact g2.elim
  · exact g2.elim
/-- d[k] = v -/
def sPut (a b : CA) (f : CE) : CS := fun S => M.thn (f S) fun p => M.thn (a p.2) fun q => M.thn (b q.2) fun t => match (t.1.get t.2).bind keyW with
  | none => .no
  | some key => match q.1 with
    | .v (.obj k) => match t.2.h[k]? with
      | some (.dct ks ws) => if ks.length < 16777216 then .nx { t.2 with h := t.2.h.set k (.dct (putW ks ws key p.1.val).1 (putW ks ws key p.1.val).2) } else .no
      | none => .no
    | .pk i => match t.2.ws[i]? with
      | some (.val (.obj k)) => (match t.2.h[k]? with
        | some (.dct ks ws) => if ks.length < 16777216 then .nx { t.2 with h := t.2.h.set k (.dct (putW ks ws key p.1.val).1 (putW ks ws key p.1.val).2) } else .no
        | none => .no)
      | some (.own (.dic ks ws)) => if ks.length < 16777216 then .nx { t.2 with ws := t.2.ws.set i (.own (.dic (putW ks ws key p.1.val).1 (putW ks ws key p.1.val).2)) } else .no
      | _ => .no
    | _ => .no
theorem put_obj {P ρ : List Addr} {S : Sta} {σ : L2.St} {H : Hp} {k : Nat} {ks : List Key} {ws : List W} {key : Key} {w : W} {v x : V} (sr : SR X.K P ρ S σ H) (ex : RV X.K ρ H (Bd P ρ S.ws σ) (.obj k) x) (e : S.h[k]? = some (.dct ks ws)) (rw' : RV X.K ρ H (Bd P ρ S.ws σ) w v) (hl : ks.length < 16777216) :
    ∃ a H', x = .ref a ∧ DPut H a (kV key) v H' ∧ Tr P ρ S.ws σ H ρ S.ws σ H' ∧ SR X.K P ρ { S with h := S.h.set k (.dct (putW ks ws key w).1 (putW ks ws key w).2) } σ H' := by
  obtain ⟨a, ea, rfl⟩ := ex
  obtain ⟨a', ea', vs, hd, l, rv⟩ := sr.hp k _ e
  rw [ea] at ea'
  cases ea'
  obtain ⟨vs', e1, e2, e3⟩ := putW_rv (k := key) rw' rv l
  have ba : Bd P ρ S.ws σ a := .inr (.inl (List.mem_of_getElem? ea))
  obtain ⟨s2, t2⟩ := sr_obj (o := .dK (putK (ks.zip vs) key v)) (m' := .dct (putW ks ws key w).1 (putW ks ws key w).2) sr e ea ⟨vs', by rw [upd_same, e1], e3, RVs.mono (ρ' := ρ) ⟨[], by simp⟩ (fun q u e n => by
    have nq : q ≠ a := fun z => n (by rw [z]; exact ba)
    rw [upd_ne nq]
    exact e) (fun _ n _ => n) _ _ e2⟩
  exact ⟨a, _, rfl, DPut.k hd (by rw [List.length_zip, line_eq]; omega), t2, s2⟩
theorem put_slot {P ρ : List Addr} {S : Sta} {σ : L2.St} {H : Hp} {i : Nat} {ks : List Key} {ws : List W} {key : Key} {w : W} {v x : V} (sr : SR X.K P ρ S σ H) (ex : σ[i]? = some (some x)) (e : S.ws[i]? = some (.own (.dic ks ws))) (rw' : RV X.K ρ H (Bd P ρ S.ws σ) w v) (hl : ks.length < 16777216) :
    ∃ a H', x = .ref a ∧ DPut H a (kV key) v H' ∧ Tr P ρ S.ws σ H ρ (S.ws.set i (.own (.dic (putW ks ws key w).1 (putW ks ws key w).2))) σ H' ∧ SR X.K P ρ { S with ws := S.ws.set i (.own (.dic (putW ks ws key w).1 (putW ks ws key w).2)) } σ H' := by
  obtain ⟨a, ea, ⟨vs, hd, l, rv⟩, _⟩ := sr.owns i _ e
  rw [ex] at ea
  cases ea
  obtain ⟨vs', e1, e2, e3⟩ := putW_rv (k := key) rw' rv l
  have ba : Bd P ρ S.ws σ a := .inr (.inr ⟨i, _, e, ex⟩)
  obtain ⟨s2, t2⟩ := sr_mut (o := .dK (putK (ks.zip vs) key v)) (w' := .dic (putW ks ws key w).1 (putW ks ws key w).2) sr e ex ⟨vs', by rw [upd_same, e1], e3, RVs.mono (ρ' := ρ) ⟨[], by simp⟩ (fun q u e n => by
    have nq : q ≠ a := fun z => n (by rw [z]; exact ba)
    rw [upd_ne nq]
    exact e) (fun _ n _ => n) _ _ e2⟩
  exact ⟨a, _, rfl, DPut.k hd (by rw [List.length_zip, line_eq]; omega), t2, s2⟩
theorem ms_put {k : Nat} {p2 : Pos} (hr : Room k X.A) (ha : MA X C U a fa) (hb : MA X C U b fb) (hv : ME X C U e f) (hs : swapsWith e (some (.Subscript a b p2)) pos.line X.env = pure false := by rfl) : MS X C U (.Assign [.Subscript a b p2] e pos) (sPut fa fb f) := by
  refine PS_imp (ps_dput (hu_of hr) ha hb hv hs) fun D σ H q => ?_
  obtain ⟨P, ρ, S, sr, g⟩ := q
  obtain ⟨P0, ρ0, S0, sr0, g0⟩ := gos_bind (r := rE X.K) sr g
  refine ⟨P0, ρ0, S0, sr0, g0.mono fun v H1 z => ?_⟩
  obtain ⟨ρ1, S1, r, t, x, e, g1⟩ := z
  obtain ⟨sr1, rv⟩ := RR.w x
  have g1 := GoS.shift t g1
  obtain ⟨P1, ρ1', S1', sr1', g1⟩ := gos_bind (r := rA X.K) sr1 g1
  refine ⟨P1, ρ1', S1', sr1', g1.mono fun v1 H2 z => ?_⟩
  obtain ⟨ρ2, S2, a2, t2, ⟨sr2, x2⟩, e2, g2⟩ := z
  have g2 := GoS.shift t2 g2
  obtain ⟨P2, ρ2', S2', sr2', g2⟩ := gos_bind (r := rA X.K) sr2 g2
  refine ⟨P2, ρ2', S2', sr2', g2.mono fun v2 H3 z => ?_⟩
  obtain ⟨ρ3, S3, a3, t3, ⟨sr3, x3⟩, e3, g3⟩ := z
  have g3 := GoS.shift t3 g3
  have rv3 := t3.rv (t2.rv rv)
  have x2' := x2.tr t3
  dsimp only at g3
  cases eg : a3.get S3 with
  | none =>
    rw [eg] at g3
    exact g3.elim
  | some y =>
    rw [eg] at g3
    dsimp only [Option.bind] at g3
    cases ek : keyW y with
    | none =>
      rw [ek] at g3
      exact g3.elim
    | some key =>
      rw [ek] at g3
      cases keyW_kV (AR.get sr3 x3 eg) ek
      dsimp only at g3
      cases a2 with
      | v w =>
        cases w with
        | obj k =>
          dsimp only at g3
          split at g3
          · rename_i ks ws e4
            split at g3
            · rename_i hl
              obtain ⟨p, H', z1, z2, z3, z4⟩ := put_obj (key := key) sr3 x2' e4 rv3 hl
              exact ⟨p, H', z1, z2, g3 σ ρ3 H' z3 z4⟩
            · exact g3.elim
          · exact g3.elim
        | _ => exact g3.elim
      | pk i =>
        dsimp only at g3
        split at g3
        · rename_i k e5
          split at g3
          · rename_i ks ws e4
            split at g3
            · rename_i hl
              obtain ⟨u, eu, ru⟩ := sr3.vals i _ e5
              have x4 : σ[i]? = some (some v1) := x2'
              rw [x4] at eu
              cases eu
              obtain ⟨p, H', z1, z2, z3, z4⟩ := put_obj (key := key) sr3 ru e4 rv3 hl
              exact ⟨p, H', z1, z2, g3 σ ρ3 H' z3 z4⟩
            · exact g3.elim
          · exact g3.elim
        · rename_i ks ws e5
          split at g3
          · rename_i hl
            obtain ⟨p, H', z1, z2, z3, z4⟩ := put_slot (key := key) sr3 x2' e5 rv3 hl
            exact ⟨p, H', z1, z2, g3 σ ρ3 H' z3 z4⟩
          · exact g3.elim
        · exact g3.elim
end
end Mi

set_option Elab.async false
set_option linter.all false
set_option maxRecDepth 100000
set_option maxHeartbeats 4000000
namespace Mi
open PySem PySem.Spec PyProof.Rows L2
section
variable {X : Cx} {C : Nat → Addr} {U : WX} {e a b c o : Expr} {f g : CE} {fa fb fc : CA} {pos : Pos}

/-! ### a, b = e1, e2; x op= e -/
theorem ms_par {i j : Nat} {x y : Str} {px py pt : Pos} {kt k2 pt2} (hc : X.calm = true) (hN : X.N.Nodup) (ha : ME X C U a f) (hb : ME X C U b g) (hi : X.N[i]? = some x := by rfl) (hj : X.N[j]? = some y := by rfl) (hij : i ≠ j := by decide)
    (hx : X.env.scope.names.lookup x = some .local := by rfl) (hy : X.env.scope.names.lookup y = some .local := by rfl) (hsa : starEach [a, b] X.env = (false, eval a X.env) :: starEach [b] X.env := by rfl) (hsb : starEach [b] X.env = (false, eval b X.env) :: starEach [] X.env := by rfl)
    (hw : swappedStores [.Tuple [.Name x px, .Name y py] kt pt] (.Tuple [a, b] k2 pt2) X.env = pure (some [x, y]) := by rfl)
    (hs : swapsWithSole [.Tuple [.Name x px, .Name y py] kt pt] (.Tuple [a, b] k2 pt2) pos.line X.env = pure false := by rfl) :
    MS X C U (.Assign [.Tuple [.Name x px, .Name y py] kt pt] (.Tuple [a, b] k2 pt2) pos) (sPar i j f g) := by
  refine PS_imp (ps_par hc hN hi hj hij hx hy (pa_cons ha (pa_cons hb pa_nil hsb) hsa) hw hs) fun D σ H q => ?_
  obtain ⟨P, ρ, S, sr, gg⟩ := q
  obtain ⟨P0, ρ0, S0, sr0, g0⟩ := gos_bind (r := rE X.K) sr gg
  refine ⟨P0, ρ0, S0, sr0, g0.mono fun v H1 z => ?_⟩
  obtain ⟨ρ1, S1, r, t, x, e, g1⟩ := z
  dsimp only at g1
  cases r with
  | w x' =>
    obtain ⟨sr1, rv1⟩ := x
    have g1' := GoS.shift t g1
    obtain ⟨P1, ρ1', S1', sr1', g2⟩ := gos_bind (r := rE X.K) sr1 g1'
    refine ⟨P1, ρ1', S1', sr1', g2.mono fun u H2 z => ?_⟩
    obtain ⟨ρ2, S2, r2, t2, y, e2, g3⟩ := z
    refine ⟨v, u, rfl, ?_⟩
    dsimp only at g3
    split at g3
    · rename_i hl
      obtain ⟨s3, n3⟩ := store_rr (i := j) y hl.2
      have rv3 : RV X.K ρ2 H2 (Bd P ρ2 (S2.ws.set j r2.sl) (σ.set j (some u))) x' v := RV.mono (ρ := ρ1) t2.ext (fun p o e n => t2.keep p o e (.inr n)) (fun p n e z => by
        rcases n3 p z with z | z
        · rcases t2.new p z with z | z
          · exact n z
          · exact e z
        · exact e z) _ _ rv1
      obtain ⟨s4, n4⟩ := sr_setN s3 (i := i) (.val x') (fun w z => by cases z) (some v) (fun w z => by cases z; exact ⟨v, rfl, rv3⟩)
      have c1 : (S2.ws.set i (R.w x').sl).set j r2.sl = (S2.ws.set j r2.sl).set i (.val x') := List.set_comm _ _ hij
      have c2 : (σ.set i (some v)).set j (some u) = (σ.set j (some u)).set i (some v) := List.set_comm _ _ hij
      rw [c1] at g3
      rw [c2]
      refine g3 _ ρ2 H2 ?_ s4
      exact tr_store t2 fun q z => (n3 q (n4 q z)).imp id id
    · exact g3.elim
  | fr x' =>
    obtain ⟨p, rfl, hp, np, sr1, o1⟩ := x
    -- the second one runs with the first one's container under protection
    refine ⟨p :: P, ρ1, S1, sr1, ?_⟩
    cases eg : g S1 with
    | no =>
      rw [eg] at g1
      exact g1
    | exc x S' =>
      rw [eg] at g1
      intro cls d ρ' H' t' s' ex
      refine g1 cls d σ ρ' H' (tr_unguard hp t t') s'.drop ?_
      obtain ⟨z1, da, vs, z2, z3, z4, z5⟩ := ex
      refine ⟨z1, da, vs, z2, z3, z4, z5.weak fun q n _ z => n ?_⟩
      rcases z with z | z
      · exact .inl (List.mem_cons_of_mem _ z)
      · exact .inr z
    | ok rr =>
      obtain ⟨r2, S2⟩ := rr
      rw [eg] at g1
      dsimp only [M.thn] at g1
      intro u ρ2 H2 t2 y
      refine ⟨_, u, rfl, ?_⟩
      split at g1
      · rename_i hl
        obtain ⟨s3, n3⟩ := store_rr (i := j) y hl.2
        have hpk : H2 p = H1 p := by
          cases q : H1 p with
          | none => exact absurd q o1.ne
          | some ob => exact t2.keep p ob q (.inl List.mem_cons_self)
        have o3 : OR X.K ρ2 H2 (Bd (p :: P) ρ2 (S2.ws.set j r2.sl) (σ.set j (some u))) x' p := OR.mono (ρ := ρ1) t2.ext (fun p o e n => t2.keep p o e (.inr n)) (fun q n e z => by
          rcases n3 q z with z | z
          · rcases t2.new q z with z | z
            · exact n z
            · exact e z
          · exact e z) hpk o1
        have hi' : i < (S2.ws.set j r2.sl).length := by rw [List.length_set]; exact hl.1
        obtain ⟨s4, n4⟩ := sr_setO s3 np o3 (i := i) hi'
        have c1 : (S2.ws.set i (R.fr x').sl).set j r2.sl = (S2.ws.set j r2.sl).set i (.own x') := List.set_comm _ _ hij
        have c2 : (σ.set i (some (.ref p))).set j (some u) = (σ.set j (some u)).set i (some (.ref p)) := List.set_comm _ _ hij
        rw [c1] at g1
        rw [c2]
        refine g1 _ ρ2 H2 ?_ s4
        have tu := tr_unguard hp t t2
        refine tr_store tu fun q z => ?_
        rcases n4 q z with z | z
        · have z' : Bd (p :: P) ρ2 (S2.ws.set j r2.sl) (σ.set j (some u)) q := by
            rcases z with z | z
            · exact .inl (List.mem_cons_of_mem _ z)
            · exact .inr z
          rcases n3 q z' with y | y
          · rcases y with y | y
            · rcases List.mem_cons.mp y with y | y
              · exact .inr (y ▸ hp)
              · exact .inl (.inl y)
            · exact .inl (.inr y)
          · refine .inr ?_
            cases e : H q with
            | none => rfl
            | some ob => exact absurd y (t.there q (by rw [e]; intro z; cases z))
        · exact .inr (z ▸ hp)
      · exact g1.elim
/-- x op= e -/
def sAug (i : Nat) (pf : W → W → Option R) (a : CA) : CS := fun S => match S.ws[i]? with
  | some (.val w) => M.thn (a S) fun p => match p.1.get p.2 with
    | some u => match pf w u with
      | some r => stSl i r p.2
      | none => .no
    | none => .no
  | _ => .no
theorem ms_aug {i : Nat} {x : Str} {op : Operator} {ti : TIp} {pf : W → W → Option R} {pos' : Pos} (hN : X.N.Nodup) (ho : PIp X op ti) (hp : P2ok X.K ti pf) (he : MA X C U e fa) (hi : X.N[i]? = some x := by rfl) (hx : Loc X.env.scope x := by first | exact .inl rfl | exact .inr rfl)
    (hf : X.fn x = true ∨ X.env.scope.names.lookup x = some .local := by first | exact .inl rfl | exact .inr rfl) : MS X C U (.AugAssign (.Name x pos') op e pos) (sAug i pf fa) := by
  refine PS_imp (ps_aug hN hi hx he ho hf) fun D σ H q => ?_
  obtain ⟨P, ρ, S, sr, g⟩ := q
  unfold sAug at g
  split at g
  · rename_i w ew
    obtain ⟨v, ev, rv⟩ := sr.vals i w ew
    refine ⟨v, ev, ?_⟩
    obtain ⟨P0, ρ0, S0, sr0, g0⟩ := gos_bind (r := rA X.K) sr g
    refine ⟨P0, ρ0, S0, sr0, g0.mono fun u H1 z => ?_⟩
    obtain ⟨ρ1, S1, a, t, ⟨sr1, x⟩, e, g1⟩ := z
    dsimp only at g1
    split at g1
    · rename_i u' eu
      split at g1
      · rename_i r er
        refine hp ρ1 H1 (Bd P ρ1 S1.ws σ) w u' v u r (fun p b => sr1.some b) (.inl (t.rv rv)) (AR.get sr1 x eu) er _ fun z H2 pr => ?_
        obtain ⟨t2, y⟩ := pres_rr sr1 pr
        unfold stSl at g1
        split at g1
        · rename_i hl
          obtain ⟨s3, n3⟩ := store_rr (i := i) (RR.back y t.there) hl
          exact g1 _ ρ1 H2 (tr_store (t.trans t2) n3) s3
        · exact g1.elim
      · exact g1.elim
    · exact g1.elim
  · exact g.elim
def iaddF : W → W → Option R := fun w u => match w, u with
  | .int i, .int j => some (.w (.int (i + j)))
  | _, _ => none
theorem ok_ipadd {K : PySem.W.Frag} : P2ok K (ipI fun i j => i + j) iaddF := by
  intro ρ H B w u v x res hB h1 h2 e Q q
  unfold iaddF at e
  split at e
  · cases e
    exact ⟨_, _, h1.int, h2.int, q _ _ ⟨Gr.refl, rfl⟩⟩
  · cases e
theorem ms_iadd {i : Nat} {x : Str} {pos' : Pos} (hN : X.N.Nodup) (he : MA X C U e fa) (hi : X.N[i]? = some x := by rfl) (hx : Loc X.env.scope x := by first | exact .inl rfl | exact .inr rfl)
    (hf : X.fn x = true ∨ X.env.scope.names.lookup x = some .local := by first | exact .inl rfl | exact .inr rfl) : MS X C U (.AugAssign (.Name x pos') .Add e pos) (sAug i iaddF fa) := ms_aug hN ip_add ok_ipadd he hi hx hf

/-! ### methods of texts -/
theorem me_join {apos : Pos} (ha : MA X C U a fa) (hb : MA X C U b fb) (hs : starEach [b] X.env = [(false, eval b X.env)] := by rfl) (hbase : attributeBase a "join" X.env (eval a X.env) = eval a X.env := by rfl) (hline : (apos.endLine == pos.line) = true := by rfl) :
    ME X C U (.Call (.Attribute a "join" apos) [b] [] pos) (cM1 joinF fa fb) := me_m1 ok_join ha hb fun _ _ h1 h2 => pe_join h1 h2 hs hbase hline
theorem me_split {apos : Pos} (ha : MA X C U a fa) (hb : MA X C U b fb) (hs : starEach [b] X.env = [(false, eval b X.env)] := by rfl) (hbase : attributeBase a "split" X.env (eval a X.env) = eval a X.env := by rfl) (hline : (apos.endLine == pos.line) = true := by rfl) :
    ME X C U (.Call (.Attribute a "split" apos) [b] [] pos) (cM1 splitF fa fb) := me_m1 ok_split ha hb fun _ _ h1 h2 => pe_split h1 h2 hs hbase hline
theorem me_alnum {apos : Pos} (ha : MA X C U a fa) (hbase : attributeBase a "isalnum" X.env (eval a X.env) = eval a X.env := by rfl) (hline : (apos.endLine == pos.line) = true := by rfl) :
    ME X C U (.Call (.Attribute a "isalnum" apos) [] [] pos) (cM0 alnumF fa) := me_m0 ok_alnum ha fun _ h1 => pe_m0 F.slot_str_isalnum F.type_str_isalnum mt_isalnum h1 hbase hline

/-! ### calls -/
variable {k np : Nat} {fl : Addr} {fd : FuncData} {ps : List Str} {fn : Fn} {x : Str} {p : Pos} {es : List Expr} {l : CL}
/-- a def as it is called -/
structure DefOk (P : Program) (w : World) (K : PySem.W.Frag) (mg : Str → Option Value) (base : Heap) (C : Nat → Addr) (k np : Nat) (x : Str) (fn : Fn) : Prop where
  ex : ∃ (f : Addr) (fd : FuncData) (ps : List Str), FnOk P w K mg base (L2.CX P w) k f fd ps (spF ⟨K, C⟩ np fn) ∧ mg x = some (.ref f) ∧ PySem.W.keepIn K (.ref f) = true ∧ Binds K fd ps []
  np : ∀ ws h, fn ws h ≠ .no → ws.length = np
theorem me_call (F : DefOk X.prog X.w X.K X.mg X.base C k np x fn) (hr : Room k X.A) (tk : Takes X U) (hg : Gl X x) (ha : ML X C U (e :: es) l) (hdb : (x == ("__debug__" : Str)) = false := by decide)
    (he : starEach (e :: es) X.env = (false, eval e X.env) :: starEach es X.env := by rfl) (hpl : (backTo pos (starEach es X.env)).any (·.1) = false := by rfl) : ME X C U (.Call (.Name x p) (e :: es) [] pos) (cCall fn l) := by
  obtain ⟨f, fd, ps, G, hm, hk, hb⟩ := F.ex
  refine PE_imp (pe_callSD (dvs := []) (ds := []) G hr hg hm hk hb .nil (E := fun σ => WE U σ) (fun σ => passAt tk σ) ha hdb he hpl) fun σ H Q q => ?_
  have z := rd_call (np := np) F.np σ H Q q
  obtain ⟨P, ρ, S, sr, g⟩ := z
  refine ⟨P, ρ, S, sr, g.mono fun vs H1 z => ?_⟩
  rw [List.append_nil]
  exact z
end

/-! ### defs -/
def mkFn (np nn : Nat) (body : CS) : Fn := fun ws h => if ws.length = np then (match body ⟨ws.map Sl.val ++ List.replicate (nn - np) .un, h⟩ with
  | .nx S => .ok (.w .non) S.h
  | .rt r S => .ok r S.h
  | .exc x S => .exc x S.h
  | _ => .no) else .no
theorem mkFn_np {np nn : Nat} {body : CS} (ws : List W) (h : List MO) (z : mkFn np nn body ws h ≠ .no) : ws.length = np := by
  unfold mkFn at z
  split at z
  · assumption
  · exact absurd rfl z
section
variable {K : PySem.W.Frag} {P ρ : List Addr} {S : Sta} {σ : L2.St} {H : Hp}
theorem sr_noslots (sr : SR K P ρ S σ H) : SR K P ρ ⟨[], S.h⟩ [] H ∧ ∀ q, Bd P ρ [] [] q → Bd P ρ S.ws σ q := by
  have sub : ∀ q, Bd P ρ [] [] q → Bd P ρ S.ws σ q := fun q z => by
    rcases z with z | z | ⟨i, w, e, _⟩
    · exact .inl z
    · exact .inr (.inl z)
    · cases i <;> cases e
  refine ⟨⟨rfl, fun i w e => (by cases i <;> cases e), fun i w e => (by cases i <;> cases e), sr.hlen, sr.nd, fun k o e => ?_, sr.pr⟩, sub⟩
  obtain ⟨a, b, c⟩ := sr.hp k o e
  exact ⟨a, b, c.weak fun q n _ z => n (sub q z)⟩
theorem rr_noslots {H0 : Hp} {r : R} {v : V} (x : RR K P H0 ρ S σ H r v) : RR K P H0 ρ ⟨[], S.h⟩ [] H r v := by
  cases r with
  | w x' =>
    obtain ⟨sr, y⟩ := x
    obtain ⟨s2, sub⟩ := sr_noslots sr
    exact ⟨s2, y.weak fun q n _ z => n (sub q z)⟩
  | fr x' =>
    obtain ⟨p, e, n, np, sr, o⟩ := x
    obtain ⟨s2, sub⟩ := sr_noslots sr
    exact ⟨p, e, n, np, s2, o.weak fun q n _ z => n (sub q z)⟩
theorem entry_slots {vs : List V} {ws : List W} {h : List MO} {N : List Str} (sr : SR K P ρ ⟨[], h⟩ [] H) (r : RVs K ρ H (Bd P ρ [] []) ws vs) (hN : vs.length ≤ N.length) :
    SR K P ρ ⟨ws.map Sl.val ++ List.replicate (N.length - ws.length) .un, h⟩ (start N vs) H ∧ ∀ q, Bd P ρ (ws.map Sl.val ++ List.replicate (N.length - ws.length) .un) (start N vs) q ↔ Bd P ρ [] [] q := by
  have hl := r.length
  have noow : ∀ q, ¬ Ow (ws.map Sl.val ++ List.replicate (N.length - ws.length) .un) (start N vs) q := fun q ⟨i, w, e, _⟩ => by
    have m := List.mem_of_getElem? e
    rcases List.mem_append.mp m with m | m
    · obtain ⟨y, _, z⟩ := List.mem_map.mp m
      cases z
    · have z := List.eq_of_mem_replicate m
      cases z
  have bd : ∀ q, Bd P ρ (ws.map Sl.val ++ List.replicate (N.length - ws.length) .un) (start N vs) q ↔ Bd P ρ [] [] q := fun q => by
    constructor
    · rintro (z | z | z)
      · exact .inl z
      · exact .inr (.inl z)
      · exact absurd z (noow q)
    · rintro (z | z | ⟨i, w, e, _⟩)
      · exact .inl z
      · exact .inr (.inl z)
      · cases i <;> cases e
  refine ⟨⟨?_, fun i w e => ?_, fun i w e => ?_, sr.hlen, sr.nd, fun k o e => ?_, sr.pr⟩, bd⟩
  · unfold L2.start
    simp only [List.length_append, List.length_map, List.length_replicate]
    omega
  · have e' : (ws.map Sl.val ++ List.replicate (N.length - ws.length) .un)[i]? = some (Sl.val w) := e
    by_cases hi : i < ws.length
    · rw [List.getElem?_append_left (by simpa using hi), List.getElem?_map] at e'
      cases q : ws[i]? with
      | none => rw [q] at e'; cases e'
      | some w' =>
        rw [q] at e'
        cases e'
        obtain ⟨v, a, b⟩ := r.get q
        refine ⟨v, ?_, b.weak fun q n _ z => n ((bd q).mp z)⟩
        unfold L2.start
        rw [List.getElem?_append_left (by simp only [List.length_map]; omega), List.getElem?_map, a]
        rfl
    · rw [List.getElem?_append_right (by simpa using hi), List.getElem?_replicate] at e'
      split at e' <;> cases e'
  · have e' : (ws.map Sl.val ++ List.replicate (N.length - ws.length) .un)[i]? = some (Sl.own w) := e
    have m := List.mem_of_getElem? e'
    rcases List.mem_append.mp m with m | m
    · obtain ⟨y, _, z⟩ := List.mem_map.mp m
      cases z
    · have z := List.eq_of_mem_replicate m
      cases z
  · obtain ⟨a, b, c⟩ := sr.hp k o e
    exact ⟨a, b, c.weak fun q n _ z => n ((bd q).mp z)⟩
end
section
variable {P : Program} {w : World} {K : PySem.W.Frag} {mg : Str → Option Value} {base : Heap} {C : Nat → Addr}
/-- THE RULE for a def: its body does what a function of the state says -/
theorem def_ok {x qual : Str} {st : Stmt} {f : Addr} {fd : FuncData} {N ps : List Str} {k : Nat} {body : CS} (F : Fun K x qual st f fd) (S : FnScope N ps (defScope st)) (hnp : ps.length ≤ N.length)
    (hbody : ∀ (cdv : Value) (A : Around) (outer : List Env) (s : Shared) (H : Hp) (E : XK), Room k (A.deeper (envOfC qual (defScope st) s.heap.objs.size f cdv)) →
      Takes (cxOf (L2.CX P w) P w K mg base N qual (defScope st) f cdv A outer s H E) (fun cls d _ H => E cls d H) → PassesOwn (model P w) (A.deeper (envOfC qual (defScope st) s.heap.objs.size f cdv)) (envOfC qual (defScope st) s.heap.objs.size f cdv) (cxOf (L2.CX P w) P w K mg base N qual (defScope st) f cdv A outer s H E).xe →
      MSs (cxOf (L2.CX P w) P w K mg base N qual (defScope st) f cdv A outer s H E) C (fun cls d _ H => E cls d H) (defBody st) body) :
    FnOk P w K mg base (L2.CX P w) (k + 1) f fd ps (spF ⟨K, C⟩ ps.length (mkFn ps.length N.length body)) := by
  refine F.okX S (fun vs H Q E h => h.1) fun cdv A outer s H vs Q E hr h => ?_
  obtain ⟨hl, Pr, ρ, h, ws, sr, rv, g⟩ := h
  refine ⟨_, hbody cdv A outer s H E hr (takes_of rfl rfl rfl rfl) (passes_of (X := cxOf (L2.CX P w) P w K mg base N qual (defScope st) f cdv A outer s H E) rfl), ?_⟩
  obtain ⟨s1, bd⟩ := entry_slots (N := N) sr rv (by omega)
  have ew : ws.length = ps.length := by rw [rv.length, hl]
  unfold mkFn at g
  rw [if_pos ew] at g
  rw [ew] at s1 bd
  refine ⟨Pr, ρ, _, s1, ?_⟩
  have tr0 : ∀ {ρ' : List Addr} {S' : Sta} {σ' : L2.St} {H' : Hp}, Tr Pr ρ (ws.map Sl.val ++ List.replicate (N.length - ps.length) .un) (start N vs) H ρ' S'.ws σ' H' → Tr Pr ρ [] [] H ρ' [] [] H' := fun {ρ' S' σ' H'} t => by
    refine ⟨fun p o e k => t.keep p o e (k.imp id fun n z => n ((bd p).mp z)), fun p z => ?_, t.ext, t.there⟩
    have z' : Bd Pr ρ' S'.ws σ' p := by
      rcases z with z | z | ⟨i, w, e, _⟩
      · exact .inl z
      · exact .inr (.inl z)
      · cases i <;> cases e
    exact (t.new p z').imp (bd p).mp id
  cases eb : body ⟨ws.map Sl.val ++ List.replicate (N.length - ps.length) .un, h⟩ with
  | nx S' =>
    rw [eb] at g
    exact fun σ' ρ' H' t x => g .non ρ' H' (tr0 t) ⟨(sr_noslots x).1, rfl⟩
  | rt r S' =>
    rw [eb] at g
    exact fun v σ' ρ' H' t x => g v ρ' H' (tr0 t) (rr_noslots x)
  | exc x S' =>
    rw [eb] at g
    intro cls d σ' ρ' H' t s' ex
    refine g cls d ρ' H' (tr0 t) (sr_noslots s').1 ?_
    obtain ⟨z1, da, vs', z2, z3, z4, z5⟩ := ex
    exact ⟨z1, da, vs', z2, z3, z4, z5.weak fun q n _ z => n ((sr_noslots s').2 q z)⟩
  | bk S' =>
    rw [eb] at g
    exact g.elim
  | ct S' =>
    rw [eb] at g
    exact g.elim
  | no =>
    rw [eb] at g
    exact g.elim
theorem def_mk {x qual : Str} {st : Stmt} {f : Addr} {fd : FuncData} {N ps : List Str} {k : Nat} {body : CS} (F : Fun K x qual st f fd) (hm : mg x = some (.ref f)) (hb : Binds K fd ps []) (G : FnOk P w K mg base (L2.CX P w) k f fd ps (spF ⟨K, C⟩ ps.length (mkFn ps.length N.length body))) :
    DefOk P w K mg base C k ps.length x (mkFn ps.length N.length body) := ⟨⟨f, fd, ps, G, hm, F.kp, hb⟩, mkFn_np⟩
end
end Mi

set_option Elab.async false
set_option linter.all false
set_option maxRecDepth 100000
set_option maxHeartbeats 4000000
/-! for sign in '..': text = text.replace(sign, a + sign + b): the tokens of the signs are carried. -/
namespace Mi
open PySem PySem.Spec PyProof.Rows L2
section
variable {X : Cx} {pins : List (Addr × Obj)} {σ : L2.St} {H : Hp} {s : Shared}
/-- a local name is stored; the raw value is known behind it -/
theorem store_raw {M : Model} {A : Around} {E : Value → Shared → Prop} {i : Nat} {x : Str} {v : V} {u : Value} {Q : Unit → Shared → Prop} (I : Inv X pins σ H s) (nod : X.N.Nodup) (at_i : X.N[i]? = some x) (loc_x : X.env.scope.names.lookup x = some .local) (ru : RelV v u)
    (fin : ∀ s', s.toks ≤ s'.toks → Inv X pins (σ.set i (some v)) H s' → (∃ m, s'.heap.Ns X.env.locals m ∧ m x = some u) → Q () s') : wpAny M A (storeName X.env x u) Q E s := by
  obtain ⟨m, nsm, look⟩ := id I.loc
  have notcls : (X.env.scope.kind == .class || (X.env.scope.kind == .module && X.env.locals != X.env.globals)) = false := by rw [I.ok.kind]; rfl
  have short : i < σ.length := by
    rw [I.len]
    exact (List.getElem?_eq_some_iff.mp at_i).1
  have cellne := I.cne
  refine wpAny_storeName_local loc_x nsm (fun h' ns' same => ?_) notcls
  obtain ⟨lo, _, _, hlo, _⟩ := id nsm
  have old : ∀ {b : Addr} {o : Obj}, X.s_0.heap.get? b = some o → h'.get? b = s.heap.get? b := fun {b o} e =>
    same.2 b (Nat.ne_of_lt (Nat.lt_of_lt_of_le (Heap.lt_size e) I.ok.above))
  have tr : HOk X.prog X.w H h' := fun b ob e => by
    refine (I.hok b ob e).stay (fun c w' hc q => (same.2 c ?_).trans q) (fun _ q => q) (fun _ _ q => q)
    intro z
    subst z
    have fr := I.free
    rcases hc with z | z
    · rw [← z, fr] at e
      cases e
    · rw [fr] at z
      cases z
  refine fin _ (Nat.le_succ _) ⟨I.ok, I.os, I.bare, ⟨?_, ?_, I.base.free, ?_, I.base.tups, I.base.frzs, I.base.tbls⟩, ⟨_, ns', ?_⟩, ?_, I.free, I.freeC, ?_, tr, by simpa using I.len⟩ ⟨_, ns', by simp⟩
  · intro b o e n hb hx
    exact (old e).trans (I.base.keep b o e n hb hx)
  · intro b o e n hb hx
    obtain ⟨sl, e1⟩ := I.base.slot b o e n hb hx
    exact ⟨sl, (old e).trans e1⟩
  · intro b o e hx
    obtain ⟨o', e1⟩ := I.base.there b o e hx
    exact ⟨o', (old e).trans e1⟩
  · intro j y w e1 e2 e3
    by_cases ji : j = i
    · subst ji
      rw [at_i] at e1
      cases e1
      rw [List.getElem?_set_self short] at e2
      cases e2
      exact ⟨u, ru, .inl ⟨loc_x, by simp⟩⟩
    · rw [List.getElem?_set_ne (Ne.symm ji)] at e2
      obtain ⟨u', r', q⟩ := look j y w e1 e2 e3
      refine ⟨u', r', ?_⟩
      rcases q with ⟨k, e⟩ | ⟨k, c, e, z⟩
      · have ne : y ≠ x := fun e => ji (nodup_ix nod e1 (e ▸ at_i))
        exact .inl ⟨k, by simp [ne, e]⟩
      · exact .inr ⟨k, c, e, z.sameBut same (cellne y c e)⟩
  · intro y c e
    obtain ⟨w', z⟩ := I.cell y c e
    exact ⟨w', z.sameBut same (cellne y c e)⟩
  · intro p hp
    obtain ⟨e, n, ne, nf, d⟩ := I.pin p hp
    exact ⟨(same.2 p.1 ne).trans e, n, ne, nf, d⟩

/-- one turn: the text behind it -/
def partOne (a b : Str) (c : Nat) (x : Str) : Option Str :=
  let y : Str := ⟨#[c]⟩
  let z := a ++ y ++ b
  if x.length + (x.length + 1) * z.length ≤ 16777216 ∧ (y == z) = false ∧ (a ++ y).length ≤ 16777216 then some (Txt.replace x y z) else none
def partL (i j : Nat) (a b : Str) : List Nat → CS
  | [] => sNil
  | c :: cs => fun S => match S.ws[i]? with
    | some (.val (.str x)) => match partOne a b c x with
      | some y => if j < S.ws.length then partL i j a b cs { S with ws := (S.ws.set j (.val (.str ⟨#[c]⟩))).set i (.val (.str y)) } else .no
      | none => .no
    | _ => .no
def sParted (i j : Nat) (a b c : Str) : CS := partL i j a b c.cps.toList
theorem raw_local {M : Model} {A : Around} {E : Value → Shared → Prop} {X : Cx} {x : Str} {m : Str → Option Value} {u : Value} {p : Pos} {s : Shared} {Q : Value → Shared → Prop} (ok : X.Ok) (loc_x : X.env.scope.names.lookup x = some .local) (hn : s.heap.Ns X.env.locals m) (hv : m x = some u) (h : Q u s)
    (hd : (x == ("__debug__" : Str)) = false := by decide) : wpAny M A (eval (.Name x p) X.env) Q E s := wpAny_Name (wpAny_loadName_local ok.kind loc_x hn hv h) hd
theorem str_add_raw {prog : Program} {w : World} {A : Around} {E : Value → Shared → Prop} {s : Shared} {x y : Str} {t u : Tok} {Q : Value → Shared → Prop} (hx : (x.length == 0) = false) (hy : (y.length == 0) = false) (hl : (x ++ y).length ≤ sizeLine)
    (h : Q (.str (x ++ y) s.toks) { s with toks := s.toks + 1 }) : wpAny (model prog w) A (binaryOp .Add (.str x t) (.str y u)) Q E s := by
  refine PySem.P.add_str ?_
  rw [hx, hy]
  exact ⟨hl, h⟩
theorem parted_run {X : Cx} {C : Nat → Addr} {U : WX} {i j : Nat} {tx sg a b c : Str} {k1 k2 k3 : Nat} {p1 p2 p3 p4 p5 ap q1 q2 b1 b2 cp sp pos kp : Pos} (hp : PassesOwn (model X.prog X.w) X.A X.env X.xe) (calm : X.calm = true) (nod : X.N.Nodup)
    (hi : X.N[i]? = some tx := by rfl) (hj : X.N[j]? = some sg := by rfl) (hij : i ≠ j := by decide) (li : X.env.scope.names.lookup tx = some .local := by rfl) (lj : X.env.scope.names.lookup sg = some .local := by rfl)
    (ha : (a.length == 0) = false := by rfl) (hb : (b.length == 0) = false := by rfl) (hc : c.cps.all (· < 128) = true := by decide +kernel)
    (hst : starEach [.Name sg p4, .BinOp (.BinOp (.Constant (.str a) k1 q1) .Add (.Name sg p5) b1) .Add (.Constant (.str b) k2 q2) b2] X.env =
      [(false, eval (.Name sg p4) X.env), (false, eval (.BinOp (.BinOp (.Constant (.str a) k1 q1) .Add (.Name sg p5) b1) .Add (.Constant (.str b) k2 q2) b2) X.env)] := by rfl)
    (hbase : attributeBase (.Name tx p3) "replace" X.env (eval (.Name tx p3) X.env) = eval (.Name tx p3) X.env := by rfl) (hline : (ap.endLine == cp.line) = true := by rfl)
    (hs : ∀ x, foldedSetIterable (.Constant (.str c) k3 kp) X.env x = pure x := by intro _; rfl)
    (hsw : swapsWith (.Call (.Attribute (.Name tx p3) "replace" ap) [.Name sg p4, .BinOp (.BinOp (.Constant (.str a) k1 q1) .Add (.Name sg p5) b1) .Add (.Constant (.str b) k2 q2) b2] [] cp) (some (.Name tx p2)) sp.line X.env = pure false := by rfl)
    (dt : (tx == ("__debug__" : Str)) = false := by decide) (ct : (tx == ("__classdict__" : Str)) = false := by decide) (ds : (sg == ("__debug__" : Str)) = false := by decide) :
    ∀ (pins : List (Addr × Obj)) (s : Shared) (σ : L2.St) (H : Hp) (D : Ends), Inv X pins σ H s → rdS ⟨X.K, C⟩ U (sParted i j a b c) D σ H → wpAny (model X.prog X.w) X.A (exec (.For (.Name sg p1) (.Constant (.str c) k3 kp) [.Assign [.Name tx p2] (.Call (.Attribute (.Name tx p3) "replace" ap) [.Name sg p4, .BinOp (.BinOp (.Constant (.str a) k1 q1) .Add (.Name sg p5) b1) .Add (.Constant (.str b) k2 q2) b2] [] cp) sp] [] pos) X.env) (fun f s' => 1 ≤ s'.toks ∧ SP X pins D f s') X.xe s := by
  intro pins s σ H D I h
  obtain ⟨P, ρ, S, sr, g⟩ := h
  refine wpAny_For (Calls.Constant_str (wpAny_pyIter_ascii hc ?_)) hs
  have I0 : Inv X pins σ H { s with heap := s.heap.push { cls := .type "str_ascii_iterator", data := .fields #[.str c s.toks, .int 0 0] }, toks := s.toks + 1 } := I.kept fun b o e => Heap.get?_push_of_some _ e
  have fresh : H s.heap.objs.size = none := I.hok.fresh (Nat.le_refl _)
  have fp := I.fpOk (Nat.le_refl _) fresh
  have st0 : (s.heap.push { cls := .type "str_ascii_iterator", data := .fields #[.str c s.toks, .int 0 0] }).IsStrIter s.heap.objs.size "str_ascii_iterator" c s.toks 0 := ⟨_, Heap.get?_push_size _ rfl, rfl, rfl⟩
  revert fp fresh st0
  generalize s.heap.objs.size = it
  intro fresh fp st0
  refine codeAny_forLoop_any (fun n s' => ∃ k σ' S', n = c.cps.toList.length - k ∧ k ≤ c.cps.toList.length ∧ 1 ≤ s'.toks ∧ Inv X pins σ' H s' ∧ s'.heap.IsStrIter it "str_ascii_iterator" c s.toks k ∧ SR X.K P ρ S' σ' H ∧ Tr P ρ S.ws σ H ρ S'.ws σ' H ∧ GoS ⟨X.K, C⟩ U P ρ S' σ' H (partL i j a b (c.cps.toList.drop k) S') D) ?_ _
    ⟨0, σ, S, rfl, Nat.zero_le _, Nat.succ_le_succ (Nat.zero_le _), I0, st0, sr, Tr.refl, g⟩
  rintro n s3 ⟨k, σ3, S3, rfl, hk, tk3, I3, st3, sr3, t3, g3⟩
  obtain ⟨f0, f1, f2, f3, f4, f5⟩ := id fp
  by_cases lt : k < c.cps.toList.length
  · have hx : c.cps[k]? = some c.cps.toList[k] := by
      rw [← Array.getElem?_toList]
      exact List.getElem?_eq_getElem lt
    rw [List.drop_eq_getElem_cons lt] at g3
    revert hx g3
    generalize c.cps.toList[k] = ch
    intro g3 hx
    unfold partL at g3
    split at g3
    case h_2 => exact g3.elim
    rename_i x ex
    split at g3
    case h_2 => exact g3.elim
    rename_i y ey
    split at g3
    case isFalse => exact g3.elim
    rename_i jl
    refine wpAny_passesOwn hp (wpAny_pyNext_ascii_item st3 hx fun h' st' sb => ?_)
    have I4 : Inv X pins σ3 H { s3 with heap := h', toks := s3.toks + 1 } := I3.turned (fun b o hb e => (sb.2 b hb).trans e) f0 f1 f3 f4 f5
    obtain ⟨oi, e1, cc, dd⟩ := id st'
    refine wpAny_passesOwn hp (go_of (s := { s3 with heap := h', toks := s3.toks + 1 }) e1 cc dd (by decide) ?_)
    have I5 := I4.pinned (fp := [it]) (fun b hb => by rw [List.mem_singleton.mp hb]; exact fp) (fun b hb => by
      rw [List.mem_singleton.mp hb]
      exact ⟨oi, e1, fun v z => by rw [dd] at z; cases z⟩)
    refine wpAny_passesOwn hp (wpAny_assign_Name (store_raw I5 nod hj lj (v := V.str ⟨#[ch]⟩) ⟨_, rfl⟩ fun s6 tk6 I6 nm => ?_))
    obtain ⟨m, nsm, em⟩ := nm
    have tk6' : s3.toks + 1 ≤ s6.toks := tk6
    obtain ⟨vx, evx, rvx⟩ := sr3.vals i _ ex
    have rvx' : vx = .str x := rvx
    subst rvx'
    have ei : (σ3.set j (some (V.str ⟨#[ch]⟩)))[i]? = some (some (V.str x)) := by
      rw [List.getElem?_set_ne (Ne.symm hij)]
      exact evx
    unfold partOne at ey
    dsimp only at ey
    split at ey
    case isFalse => cases ey
    rename_i fits
    obtain ⟨fit, nyz, fit2⟩ := fits
    cases ey
    have one : ((⟨#[ch]⟩ : Str).length == 0) = false := rfl
    have al : ((a ++ (⟨#[ch]⟩ : Str)).length == 0) = false := by
      have e : (a ++ (⟨#[ch]⟩ : Str)).length = a.length + 1 := by
        show (a.cps ++ #[ch]).size = a.cps.size + 1
        simp
      rw [e]
      rfl
    have zl : (a ++ (⟨#[ch]⟩ : Str) ++ b).length ≤ sizeLine := by
      have e : (2 : Nat) ^ 24 = 16777216 := by decide
      have e2 : (a ++ (⟨#[ch]⟩ : Str) ++ b).length ≤ (x.length + 1) * (a ++ (⟨#[ch]⟩ : Str) ++ b).length := Nat.le_mul_of_pos_left _ (Nat.succ_pos _)
      unfold sizeLine
      omega
    have vi : Vis X.env.scope tx := Or.inl li
    have body : wpAny (model X.prog X.w) X.A (execs [.Assign [.Name tx p2] (.Call (.Attribute (.Name tx p3) "replace" ap) [.Name sg p4, .BinOp (.BinOp (.Constant (.str a) k1 q1) .Add (.Name sg p5) b1) .Add (.Constant (.str b) k2 q2) b2] [] cp) sp] X.env)
        (fun f s' => f = .next ∧ Inv X (pins ++ pinsAt [it] h') ((σ3.set j (some (V.str ⟨#[ch]⟩))).set i (some (V.str (Txt.replace x ⟨#[ch]⟩ (a ++ ⟨#[ch]⟩ ++ b))))) H s') X.xe s6 := by
      refine wpAny_execs_cons (wpAny_Assign_Name (PySem.Call_method2 hbase hst hline (raw_name hi vi I6 ei (fun v r => ?_) dt ct)) hsw)
      obtain ⟨ttx, rfl⟩ := r
      refine ⟨"str", _, F.plainAttrs_str, F.slot_str_replace, F.type_str_replace, typeIs_str _ _ _, (fun _ e => nomatch e), Calls.callWith_builtin rfl (Calls.evalArgs_plain (Calls.spliced_cons ?_))⟩
      refine raw_local I6.ok lj nsm em ?_ ds
      refine Calls.spliced_cons (wpAny_BinOp (wpAny_BinOp (Calls.Constant_str (raw_local I6.ok lj nsm em (str_add_raw ha one (by unfold sizeLine; omega) ?_) ds))))
      refine Calls.Constant_str (str_add_raw al hb zl (Calls.spliced_nil ?_))
      refine PySem.SC.replace ?_ ?_ ?_ nyz fit fun t' k' => ?_
      · show s3.toks ≠ 0
        omega
      · show s6.toks + 1 + 1 + 1 ≠ 0
        omega
      · show s3.toks ≠ s6.toks + 1 + 1 + 1
        omega
      have I7 : Inv X (pins ++ pinsAt [it] h') (σ3.set j (some (V.str ⟨#[ch]⟩))) H { s6 with toks := k' } := I6.tok k'
      generalize Txt.replace x ⟨#[ch]⟩ (a ++ ⟨#[ch]⟩ ++ b) = y
      have rel : RelV (V.str y) (Value.str y t') := ⟨t', rfl⟩
      exact store_ok I7 nod hi (.inl li) rel (fun s8 I8 => wpAny_execs_nil ⟨rfl, I8⟩) (.inr li)
    revert g3 body
    generalize Txt.replace x ⟨#[ch]⟩ (a ++ ⟨#[ch]⟩ ++ b) = y
    intro g3 body
    refine wpAny_passesOwn hp (wpAny_mono (PySem.wpAny_toks body) (fun f s8 q => ?_) fun _ _ z => z.2)
    obtain ⟨tk8, rfl, I8⟩ := q
    have e8 := (I8.pin (it, oi) (List.mem_append_right _ (List.mem_append_right _ (mem_pinsAt (List.mem_singleton.mpr rfl) e1)))).1
    obtain ⟨sa, na⟩ := sr_setN sr3 (i := j) (.val (.str ⟨#[ch]⟩)) (fun w z => by cases z) (some (V.str ⟨#[ch]⟩)) (fun w z => by cases z; exact ⟨_, rfl, rfl⟩)
    obtain ⟨sb', nb⟩ := sr_setN sa (i := i) (.val (.str y)) (fun w z => by cases z) (some (V.str y)) (fun w z => by cases z; exact ⟨_, rfl, rfl⟩)
    have tt : Tr P ρ S3.ws σ3 H ρ ((S3.ws.set j (.val (.str ⟨#[ch]⟩))).set i (.val (.str y))) ((σ3.set j (some (V.str ⟨#[ch]⟩))).set i (some (V.str y))) H := tr_store Tr.refl fun q z => .inl (na q (nb q z))
    refine ⟨c.cps.toList.length - (k + 1), by omega, k + 1, _, ⟨(S3.ws.set j (.val (.str ⟨#[ch]⟩))).set i (.val (.str y)), S3.h⟩, rfl, lt, by omega, I8.unpinned, ⟨oi, e8, cc, dd⟩, sb', t3.trans tt, GoS.shift tt g3⟩
  · have ed : c.cps.toList.drop k = [] := List.drop_eq_nil_of_le (by omega)
    rw [ed] at g3
    have hx : c.cps[k]? = none := by
      rw [← Array.getElem?_toList]
      exact List.getElem?_eq_none (by omega)
    refine wpAny_passesOwn hp (wpAny_pyNext_ascii_end (I3.ok.hd calm) st3 hx fun h' eb => wpAny_execs_nil ⟨tk3, σ3, H, ?_, g3 σ3 ρ H Tr.refl sr3⟩)
    exact I3.turned (t' := s3.toks) (fun b o hb e => eb b o hb e) f0 f1 f3 f4 f5
theorem ms_parted {X : Cx} {C : Nat → Addr} {U : WX} {i j : Nat} {tx sg a b c : Str} {k1 k2 k3 : Nat} {p1 p2 p3 p4 p5 ap q1 q2 b1 b2 cp sp pos kp : Pos} (hp : PassesOwn (model X.prog X.w) X.A X.env X.xe) (calm : X.calm = true) (nod : X.N.Nodup)
    (hi : X.N[i]? = some tx := by rfl) (hj : X.N[j]? = some sg := by rfl) (hij : i ≠ j := by decide) (li : X.env.scope.names.lookup tx = some .local := by rfl) (lj : X.env.scope.names.lookup sg = some .local := by rfl)
    (ha : (a.length == 0) = false := by rfl) (hb : (b.length == 0) = false := by rfl) (hc : c.cps.all (· < 128) = true := by decide +kernel)
    (hst : starEach [.Name sg p4, .BinOp (.BinOp (.Constant (.str a) k1 q1) .Add (.Name sg p5) b1) .Add (.Constant (.str b) k2 q2) b2] X.env =
      [(false, eval (.Name sg p4) X.env), (false, eval (.BinOp (.BinOp (.Constant (.str a) k1 q1) .Add (.Name sg p5) b1) .Add (.Constant (.str b) k2 q2) b2) X.env)] := by rfl)
    (hbase : attributeBase (.Name tx p3) "replace" X.env (eval (.Name tx p3) X.env) = eval (.Name tx p3) X.env := by rfl) (hline : (ap.endLine == cp.line) = true := by rfl)
    (hs : ∀ x, foldedSetIterable (.Constant (.str c) k3 kp) X.env x = pure x := by intro _; rfl)
    (hsw : swapsWith (.Call (.Attribute (.Name tx p3) "replace" ap) [.Name sg p4, .BinOp (.BinOp (.Constant (.str a) k1 q1) .Add (.Name sg p5) b1) .Add (.Constant (.str b) k2 q2) b2] [] cp) (some (.Name tx p2)) sp.line X.env = pure false := by rfl)
    (dt : (tx == ("__debug__" : Str)) = false := by decide) (ct : (tx == ("__classdict__" : Str)) = false := by decide) (ds : (sg == ("__debug__" : Str)) = false := by decide) :
    MS X C U (.For (.Name sg p1) (.Constant (.str c) k3 kp) [.Assign [.Name tx p2] (.Call (.Attribute (.Name tx p3) "replace" ap) [.Name sg p4, .BinOp (.BinOp (.Constant (.str a) k1 q1) .Add (.Name sg p5) b1) .Add (.Constant (.str b) k2 q2) b2] [] cp) sp] [] pos) (sParted i j a b c) :=
  ⟨fun pins s σ H D I h => wpAny_mono (parted_run hp calm nod hi hj hij li lj ha hb hc hst hbase hline hs hsw dt ct ds pins s σ H D I h) (fun _ _ q => q.2) fun _ _ z => z⟩

end
end Mi

set_option Elab.async false
set_option linter.all false
set_option maxRecDepth 100000
set_option maxHeartbeats 4000000
/-! Short names for the printed proofs. -/
namespace Mi
open PySem PySem.Spec PyProof.Rows L2
section
variable {X : Cx} {C : Nat → Addr} {U : WX} {e a b c o : Expr} {f g : CE} {fa fb fc : CA} {pos p : Pos} {es : List Expr}
theorem me_len (hg : Gl X "len" := by rfl) (hm : X.mg "len" = none) (ha : MA X C U a fa) (hs : starEach [a] X.env = (false, eval a X.env) :: starEach [] X.env := by rfl) : ME X C U (.Call (.Name "len" p) [a] [] pos) (cP1 lenF fa) := me_b1 call_len ok_len hg hm PySem.boot_len ha (hs := hs)
theorem me_toint (hg : Gl X "int" := by rfl) (hm : X.mg "int" = none) (ha : MA X C U a fa) (hs : starEach [a] X.env = (false, eval a X.env) :: starEach [] X.env := by rfl) : ME X C U (.Call (.Name "int" p) [a] [] pos) (cP1 intF fa) := me_t1 call_int1 ok_int hg hm (by decide +kernel) ha (hs := hs)
theorem me_tolist (hc : X.calm = true) (hg : Gl X "list" := by rfl) (hm : X.mg "list" = none) (ha : MA X C U a fa) (hs : starEach [a] X.env = (false, eval a X.env) :: starEach [] X.env := by rfl) : ME X C U (.Call (.Name "list" p) [a] [] pos) (cP1 listF fa) := me_t1 (call_listU hc) ok_list hg hm (by decide +kernel) ha (hs := hs)
theorem me_totup (hg : Gl X "tuple" := by rfl) (hm : X.mg "tuple" = none) (ha : MA X C U a fa) (hs : starEach [a] X.env = (false, eval a X.env) :: starEach [] X.env := by rfl) : ME X C U (.Call (.Name "tuple" p) [a] [] pos) (cP1 tupF fa) := me_t1 call_tuple_of ok_tuple hg hm (by decide +kernel) ha (hs := hs)
theorem me_all (hc : X.calm = true) (hg : Gl X "all" := by rfl) (hm : X.mg "all" = none) (ha : MA X C U a fa) (hs : starEach [a] X.env = (false, eval a X.env) :: starEach [] X.env := by rfl) : ME X C U (.Call (.Name "all" p) [a] [] pos) (cP1 allF fa) := me_b1 (cr_all hc) ok_all hg hm (by decide +kernel) ha (hs := hs)
theorem me_any (hc : X.calm = true) (hg : Gl X "any" := by rfl) (hm : X.mg "any" = none) (ha : MA X C U a fa) (hs : starEach [a] X.env = (false, eval a X.env) :: starEach [] X.env := by rfl) : ME X C U (.Call (.Name "any" p) [a] [] pos) (cP1 anyF fa) := me_b1 (cr_any hc) ok_any hg hm (by decide +kernel) ha (hs := hs)
theorem me_max (hc : X.calm = true) (hg : Gl X "max" := by rfl) (hm : X.mg "max" = none) (ha : MA X C U a fa) (hb : MA X C U b fb) (hs : starEach [a, b] X.env = (false, eval a X.env) :: starEach [b] X.env := by rfl) (hs2 : starEach [b] X.env = (false, eval b X.env) :: starEach [] X.env := by rfl)
    (hpl : (backTo pos (starEach [b] X.env)).any (·.1) = false := by rfl) : ME X C U (.Call (.Name "max" p) [a, b] [] pos) (cP2 maxF fa fb) := me_b2 (call_max2 hc) ok_max hg hm (by decide +kernel) ha hb (hs := hs) (hs2 := hs2) (hpl := hpl)
theorem me_isa {y : Str} {p2 : Pos} (t : Ty) (hm : X.mg "isinstance" = none) (hm2 : X.mg y = none) (hv2 : bootBuiltins y = some (.type t.nm)) (ha : MA X C U a fa) (hg : Gl X "isinstance" := by rfl) (hg2 : Gl X y := by rfl) (hn2 : y ≠ "__name__" := by decide) (hdb2 : (y == ("__debug__" : Str)) = false := by decide)
    (hs : starEach [a, .Name y p2] X.env = (false, eval a X.env) :: starEach [.Name y p2] X.env := by rfl) (hs2 : starEach [.Name y p2] X.env = (false, eval (.Name y p2) X.env) :: starEach [] X.env := by rfl)
    (hpl : (backTo pos (starEach [.Name y p2] X.env)).any (·.1) = false := by rfl) : ME X C U (.Call (.Name "isinstance" p) [a, .Name y p2] [] pos) (cP1 (isiF t) fa) := me_isi t hg hm (by decide +kernel) hg2 hm2 hv2 ha (hn2 := hn2) (hdb2 := hdb2) (hs := hs) (hs2 := hs2) (hpl := hpl)
def negF : W → Option R
  | .int i => some (.w (.int (-i)))
  | _ => none
theorem ok_neg {K : PySem.W.Frag} : P1ok K (rU fun i => .int (-i)) negF := by
  intro ρ H B w v res hB h1 e Q q
  unfold negF at e
  split at e
  · cases e
    exact ⟨_, h1.int, q _ _ ⟨Gr.refl, rfl⟩⟩
  · cases e
theorem me_neg (ha : MA X C U a fa) : ME X C U (.UnaryOp .USub a pos) (cP1 negF fa) := me_p1 ok_neg ha fun ta h => pe_un un_neg h
/-- targets out of a tuple or a list -/
def gSq (n : Nat) (gs : List W → Sta → Option Sta) : Tg := fun w S => match w with
  | .tup ws => if ws.length = n then gs ws S else none
  | .lst ws => if ws.length = n then gs ws S else none
  | _ => none
theorem PG_or {X : Cx} {e : Expr} {t t' : TG} (h : PG X e t) (h' : PG X e t') : PG X e (fun v σ H Q => t v σ H Q ∨ t' v σ H Q) := ⟨fun pins s σ H v u Q I r q => q.elim (h.run pins s σ H v u Q I r) (h'.run pins s σ H v u Q I r)⟩
theorem mg_seq {is : List Nat} {k : Nat} {n : Nat} {gs : List W → Sta → Option Sta} (hc : X.calm = true) (h : MGs X es is gs) (hn : (assignEach es X.env).length = n := by rfl) (hst : (assignEach es X.env).findIdx? (·.1) = none := by rfl) : MG X (.Tuple es k pos) is (gSq n gs) :=
  PG_imp (PG_or (mg_tup hc h hn hst) (mg_lst hc h hn hst)) fun v σ H Q q => by
    obtain ⟨P, ρ, S, w, sr, rv, g⟩ := q
    unfold gSq at g
    cases w with
    | tup ws => exact .inl ⟨P, ρ, S, _, sr, rv, g⟩
    | lst ws => exact .inr ⟨P, ρ, S, _, sr, rv, g⟩
    | _ => exact g.elim
end
/-- as the head tells a def -/
theorem _root_.L2.FunD.fun {K : PySem.W.Frag} {x qual : Str} {st : Stmt} {f : Addr} {fd : FuncData} (F : FunD K x qual (defArgs st) (defBody st) (defScope st) [] [] f fd) : Fun K x qual st f fd := by
  obtain ⟨oc, od, dV, kV, doc, pm, an, cdv, ct, osl, e, lk, hcd, hD, _⟩ := F.ex
  rcases hD with ⟨_, rfl⟩ | ⟨z, _⟩
  · exact ⟨⟨oc, od, kV, doc, pm, an, cdv, ct, osl, e, e ▸ lk, hcd⟩, F.kp⟩
  · exact absurd rfl z
end Mi
namespace Mi
open PySem PySem.Spec PyProof.Rows L2
theorem def_no {P : Program} {w : World} {K : PySem.W.Frag} {mg : Str → Option Value} {base : Heap} {C : Nat → Addr} {x qual : Str} {st : Stmt} {f : Addr} {fd : FuncData} {ps : List Str} {k : Nat} (F : Fun K x qual st f fd) (hm : mg x = some (.ref f)) (hb : Binds K fd ps []) :
    DefOk P w K mg base C k ps.length x (fun _ _ => .no) := by
  refine ⟨⟨f, fd, ps, ⟨fun vs H Q E h => h.1, fun A outer s H args us vs Q E hr e0 b r h => ?_⟩, hm, F.kp, hb⟩, fun ws h z => absurd rfl z⟩
  obtain ⟨hl, Pr, ρ, h, ws, sr, rv, g⟩ := h
  exact g.elim
/-- a constant of the module -/
theorem me_globE {X : Cx} {C : Nat → Addr} {U : WX} {x : Str} {w : W} {pos : Pos} (hg : Gl X x) (h : ∃ u, X.mg x = some u ∧ GV X.K u w) (hd : (x == ("__debug__" : Str)) = false := by decide) : ME X C U (.Name x pos) (cC w) := by
  obtain ⟨u, hm, g⟩ := h
  exact me_glob hg hm g hd
end Mi

set_option Elab.async false
set_option linter.all false
set_option maxRecDepth 100000
set_option maxHeartbeats 4000000
/-! What wants a token that is out: a text's replace of written texts, as the iterable of a comprehension that is returned. -/
namespace Mi
open PySem PySem.Spec PyProof.Rows L2
section
variable {X : Cx} {pins : List (Addr × Obj)} {σ : L2.St} {H : Hp} {s : Shared} {Q : VK} {el tgt src : Expr} {conds : List Expr} {bsc : Scope} {ow : List (Str × Nat)} {bp : Pos} {G : TG} {tc : TT} {te : TE}
/-- what a comprehension asks of its iterator -/
def LcAsk (G : TG) (tc : TT) (te : TE) (vs : List Nat) (σ : L2.St) (Q : VK) (J : It) (H1 : Hp) : Prop := ∀ D, H1 D = none → ∃ W : Nat → Nat → Hp → Prop, (∃ m, W 0 m (upd H1 D (.lst []))) ∧ ∀ i m H, W i m H →
  (J.stop i H ∧ Q (.ref D) H) ∨ (J.go i H ∧ ∃ Nx : Hp → Prop, (∀ H', Nx H' → ∃ m', m' < m ∧ W (i + 1) m' H') ∧ ∀ x H', J.yld i H x H' → G x (wipe σ vs) H' fun σ2 H2 => wipe σ2 vs = wipe σ vs ∧ tc σ2 H2 fun b H3 =>
    if b = true then te σ2 H3 fun y H4 => ∃ acc, H4 D = some (.lst acc) ∧ acc.length < sizeLine ∧ Nx (upd H4 D (.lst (acc ++ [y]))) else Nx H3)
theorem lcAsk_eq {wi : TI} : tLc wi G tc te (ow.map (·.2)) σ H Q = wi σ H (LcAsk G tc te (ow.map (·.2)) σ Q) := rfl
/-- a comprehension, where its iterable is evaluated at this state -/
theorem lc_at (calm : X.calm = true) (nod : X.N.Nodup) (I : Inv X pins σ H s) (bok : BlkOk X.N X.env.scope bsc ow)
    (first : wpAny (model X.prog X.w) X.A (eval src X.env) (fun v t1 => wpAny (model X.prog X.w) X.A (pyIter v) (PIE X pins σ tgt (LcAsk G tc te (ow.map (·.2)) σ Q)) X.xe t1) X.xe s)
    (hG : ∀ (t : Shared) (H : Hp) (a : Addr) (cl : List (Str × Addr)) (fp : List Addr), PG (X.blk t H bsc (compEnvC bsc cl a X.env) fp) tgt G) (hT : ∀ (t : Shared) (H : Hp) (a : Addr) (cl : List (Str × Addr)) (fp : List Addr), PTs (X.blk t H bsc (compEnvC bsc cl a X.env) fp) conds tc)
    (hE : ∀ (t : Shared) (H : Hp) (a : Addr) (cl : List (Str × Addr)) (fp : List Addr), PE (X.blk t H bsc (compEnvC bsc cl a X.env) fp) el te) (hs : ∀ x, foldedSetIterable src X.env x = pure x) :
    wpAny (model X.prog X.w) X.A (eval (.ListComp el [⟨tgt, src, conds, 0⟩] bsc bp) X.env) (EP X pins σ Q) X.xe s := by
  rw [eval_ListComp]
  have cells : ∀ y ∈ bsc.names, y.2 = .free → ∃ c, X.env.cells.lookup y.1 = some c := fun y hy e => I.ok.has _ (bok.free y hy e)
  refine wpAny_comprehension_free (use := none) rfl hs (closure_ok cells) bok.kind (fun y hy e => by rw [bok.uniq y hy, e]) (thn first fun v t1 hx => thn hx fun itv t2 h2 => ?_)
  obtain ⟨it, fp, tn, J, Ha, rfl, Ia, T, sta, fpa, ask⟩ := h2
  refine wpAny_newObj_type (newEnv_comp ?_) (by show 0 ≤ sizeLine; decide)
  generalize eD : t2.heap.objs.size = D
  obtain ⟨W, ⟨m0, w0⟩, turn⟩ := ask D (Ia.hok.fresh (Nat.le_of_eq eD))
  generalize e3 : ({ t2 with heap := t2.heap.push { cls := .type "list", data := .seq ([] : List Value).toArray } } : Shared) = t3
  have hp3 : t3.heap = t2.heap.push { cls := .type "list", data := .seq ([] : List Value).toArray } := by rw [← e3]
  have Ib : Inv X pins σ (upd Ha D (.lst [])) t3 := by
    rw [← e3]
    refine Ia.laid (t' := t2.toks) (fun b o e => Heap.get?_push_of_some _ e) (Nat.le_of_eq eD) ⟨Nat.zero_le _, [], 0, .nil, ?_⟩
    rw [← eD]
    exact Heap.get?_push_size _ rfl
  have young : ∀ b ∈ fp, FpOk X pins (upd Ha D (.lst [])) b ∧ b < t3.heap.objs.size := fun b hb => by
    obtain ⟨o, e, _⟩ := T.obj _ _ sta b hb
    have lt := Heap.lt_size e
    have ne : b ≠ D := by rw [← eD]; exact Nat.ne_of_lt lt
    refine ⟨⟨(upd_ne ne).trans (fpa b hb).1, (fpa b hb).2⟩, ?_⟩
    rw [hp3, Heap.size_push]
    exact Nat.lt_succ_of_lt lt
  have stb : tn 0 t3.heap := T.keep _ _ _ sta fun b _ o e => by rw [hp3]; exact Heap.get?_push_of_some _ e
  have Ic := block_start Ib bok nod young
  have pg := hG t3 (upd Ha D (.lst [])) t3.heap.objs.size (cellsFrom (t3.heap.objs.size + 1) bsc.names (cloFrom X.env.cells bsc.names [])) fp
  have pt := hT t3 (upd Ha D (.lst [])) t3.heap.objs.size (cellsFrom (t3.heap.objs.size + 1) bsc.names (cloFrom X.env.cells bsc.names [])) fp
  have pe := hE t3 (upd Ha D (.lst [])) t3.heap.objs.size (cellsFrom (t3.heap.objs.size + 1) bsc.names (cloFrom X.env.cells bsc.names [])) fp
  have out : ∀ b ∈ fp, (upd Ha D (.lst [])) b = none := fun b hb => (young b hb).1.1
  show codeAny _ _ (.compStart (.ListComp el [⟨tgt, src, conds, 0⟩] bsc bp) 0 (.ref it) (.ref D) (compEnvC bsc (cellsFrom (t3.heap.objs.size + 1) bsc.names (cloFrom X.env.cells bsc.names [])) t3.heap.objs.size X.env))
    (compPost (model X.prog X.w) X.A X.xe none (EP X pins σ Q) (.ref D) t3.heap.objs.size) { t3 with heap := pushCells (t3.heap.push { cls := .type "dict", data := .dict #[] }) bsc.names }
  generalize eE : compEnvC bsc (cellsFrom (t3.heap.objs.size + 1) bsc.names (cloFrom X.env.cells bsc.names [])) t3.heap.objs.size X.env = ce at Ic pg pt pe ⊢
  have eL : ce.locals = t3.heap.objs.size := by subst eE; rfl
  generalize eH : upd Ha D (.lst []) = Hb at Ib Ic pg pt pe w0 out young
  generalize e4 : ({ t3 with heap := pushCells (t3.heap.push { cls := .type "dict", data := .dict #[] }) bsc.names } : Shared) = t4 at Ic ⊢
  have stc : tn 0 t4.heap := T.keep _ _ _ stb fun b _ o e => by rw [← e4]; exact pushCells_keeps _ _ _ _ (Heap.get?_push_of_some _ e)
  have still : ∀ {σ' : L2.St} {H' : Hp} {t' : Shared}, Inv (X.blk t3 Hb bsc ce fp) [] σ' H' t' → (∀ b ∈ fp, H' b = none) → ∀ b ∈ fp, FpOk (X.blk t3 Hb bsc ce fp) [] H' b := fun {σ' H' t'} I' nn b hb =>
    ⟨nn b hb, (I'.ok.exf b hb).1, I'.ok.exfs b hb, .inl hb, fun x c e => (I'.ok.exf b hb).2 x c e, fun p hp => absurd (show p ∈ ([] : List (Addr × Obj)) ++ [] from hp) (by simp)⟩
  have run : codeAny (model X.prog X.w) X.A (.compLoop (.ListComp el [⟨tgt, src, conds, 0⟩] bsc bp) 0 (.ref it) (.ref D) ce) (compPost (model X.prog X.w) X.A X.xe none (EP X pins σ Q) (.ref D) t3.heap.objs.size) t4 := by
    refine compLoop_any (fun n t' => ∃ i H', Inv (X.blk t3 Hb bsc ce fp) [] (wipe σ (ow.map (·.2))) H' t' ∧ tn i t'.heap ∧ (∀ b ∈ fp, H' b = none) ∧ W i n H') ?_ m0 ⟨0, Hb, Ic, stc, out, w0⟩
    rintro n t5 ⟨i, Hc, Id, std, nd, wd⟩
    rcases turn i n Hc wd with ⟨stop, fin⟩ | ⟨go, Nx, less, step⟩
    · refine thnF (T.done (X.blk t3 Hb bsc ce fp) rfl rfl rfl calm i [] t5 _ Hc (fun _ _ => False) Id (still Id nd) std stop) fun r t6 ⟨er, Ie⟩ => ?_
      subst er
      have Iback : Inv X pins σ Hc t6 := Ib.call' (ch := fp) Ie.os Ie.base Ie.hok Ie.bare fun b hb => by
        obtain ⟨⟨_, z1, _, z2, z3, z4⟩, _⟩ := young b hb
        exact ⟨z2, z1, z3, z4⟩
      have free : Hc t3.heap.objs.size = none := by
        rw [← eL]
        exact Ie.free
      obtain ⟨m, ns, _⟩ := Ie.loc
      have ns' : t6.heap.Ns t3.heap.objs.size m := by
        rw [← eL]
        exact ns
      refine ⟨m, ns', fun h'' sb => ?_⟩
      obtain ⟨f0, f1, f2, f3, f4, f5⟩ := Ib.fpOk (Nat.le_refl _) free
      exact ⟨.ref D, Hc, Iback.turned (t' := t6.toks) (fun b o hb e => (sb.2 b hb).trans e) f0 f1 f3 f4 f5, rfl, fin⟩
    · refine thnF (T.item (X.blk t3 Hb bsc ce fp) rfl rfl rfl calm i [] t5 _ Hc (fun _ _ => False) Id (still Id nd) std go) fun r t6 ⟨u, er, h6⟩ => ?_
      subst er
      refine thnF h6 fun _ t7 ⟨x, Hd, If, rf, yf, stf, nf⟩ => ?_
      refine thnF (pg.run _ t7 _ Hd x u _ (If.pinned (still If nf) (T.obj _ _ stf)) rf (step x Hd yf)) fun _ t8 ⟨σ8, H8, I8, ew, q8⟩ => ?_
      refine thnF (pt.run _ t8 σ8 H8 _ I8 q8) fun b t9 ⟨H9, I9, q9⟩ => ?_
      have next : ∀ {t' : Shared} {H' : Hp}, Inv (X.blk t3 Hb bsc ce fp) ([] ++ pinsAt fp t7.heap) σ8 H' t' → Nx H' → ∃ m, m < n ∧ ∃ i H', Inv (X.blk t3 Hb bsc ce fp) [] (wipe σ (ow.map (·.2))) H' t' ∧ tn i t'.heap ∧ (∀ b ∈ fp, H' b = none) ∧ W i m H' := fun {t' H'} I' nx => by
        obtain ⟨m', lt, w'⟩ := less H' nx
        have held : ∀ b ∈ fp, ∀ o, t7.heap.get? b = some o → t'.heap.get? b = some o ∧ H' b = none := fun b hb o e => by
          obtain ⟨z1, z2, _⟩ := I'.pin (b, o) (List.mem_append_right _ (List.mem_append_right _ (mem_pinsAt hb e)))
          exact ⟨z1, z2⟩
        refine ⟨m', lt, i + 1, H', (I'.unpinned (pins := [])).weak (by rw [← ew, wipe_length]) (fun j v e => ?_), T.keep _ _ _ stf fun b hb o e => (held b hb o e).1, fun b hb => ?_, w'⟩
        · rw [← ew] at e
          exact (wipe_some e).1
        · obtain ⟨o, e, _⟩ := T.obj _ _ stf b hb
          exact (held b hb o e).2
      cases b with
      | false =>
        simp only [Bool.false_eq_true, if_false] at q9 ⊢
        exact next I9 q9
      | true =>
        simp only [if_true] at q9 ⊢
        refine thnF (pe.run _ t9 σ8 H9 _ I9 q9) fun z t10 ⟨y, Hy, Iy, ry, acc, eD', sz, nx⟩ => ?_
        exact app_ok (X := X.blk t3 Hb bsc ce fp) Iy eD' sz ry fun t11 Iz => next Iz nx
  exact codeAny_compStart_list run (T.self X.A 0 _ _ _ stc run)
end
section
variable {X : Cx} {C : Nat → Addr} {U : WX} {o : Expr} {to : TE}
/-- o.split(d), where o wants a token that is out -/
theorem pet_split {d : Str} {j : Nat} {apos pos c0 : Pos} (ho : PET X o to) (hd : (d.length == 0) = false) (hst : starEach [.Constant (.str d) j c0] X.env = [(false, eval (.Constant (.str d) j c0) X.env)]) (hbase : attributeBase o "split" X.env (eval o X.env) = eval o X.env)
    (hline : (apos.endLine == pos.line) = true) : PET X (.Call (.Attribute o "split" apos) [.Constant (.str d) j c0] [] pos) (fun σ H Q => to σ H fun x H1 => ∃ a, x = .str a ∧ a.length + 2 ≤ sizeLine ∧ rNewStrs (Txt.split a d) H1 Q) := by
  intro pins s σ H Q out I h
  refine PySem.Call_method1 hbase hst hline (thn (ho pins s σ H _ out I h) fun v t1 q => ?_)
  obtain ⟨x, H1, I1, r1, a, ea, fit, mk⟩ := q
  subst ea
  obtain ⟨t, et⟩ := id r1
  subst et
  refine ⟨"str", _, F.plainAttrs_str, F.slot_str_split, F.type_str_split, typeIs_str _ _ _, (fun _ e => nomatch e), Calls.callWith_builtin rfl (Calls.evalArgs_plain (Calls.spliced_cons (Calls.Constant_str (Calls.spliced_nil ?_))))⟩
  exact mt_split pins _ σ H1 _ [.str d] _ [.str d t1.toks] Q (I1.tok _) r1 (.cons ⟨_, rfl⟩ .nil) ⟨a, d, rfl, rfl, hd, fit, mk⟩
/-- the words of a text between d, y replaced by z ahead -/
def iPart (i : Nat) (y z d : Str) : CI := fun S => match S.ws[i]? with
  | some (.val (.str x)) => if x.length + (x.length + 1) * z.length ≤ 16777216 ∧ (Txt.replace x y z).length + 2 ≤ 16777216 then .ok ((Txt.split (Txt.replace x y z) d).map W.str, S) else .no
  | _ => .no
theorem part_run {i : Nat} {tx y z d : Str} {j1 j2 j3 : Nat} {p1 a1 a2 c1 c2 c3 q1 q2 : Pos} {tgt : Expr} {pins : List (Addr × Obj)} {s : Shared} {σ : L2.St} {H : Hp} {R : It → Hp → Prop} (out : 1 ≤ s.toks) (I : Inv X pins σ H s) (h : rdI ⟨X.K, C⟩ U (iPart i y z d) σ H R)
    (hN : X.N[i]? = some tx) (hv : Vis X.env.scope tx) (hd1 : (tx == ("__debug__" : Str)) = false) (hd2 : (tx == ("__classdict__" : Str)) = false) (hyz : (y == z) = false) (hd : (d.length == 0) = false)
    (hs1 : starEach [.Constant (.str y) j1 c1, .Constant (.str z) j2 c2] X.env = [(false, eval (.Constant (.str y) j1 c1) X.env), (false, eval (.Constant (.str z) j2 c2) X.env)]) (hs2 : starEach [.Constant (.str d) j3 c3] X.env = [(false, eval (.Constant (.str d) j3 c3) X.env)])
    (hb1 : attributeBase (.Name tx p1) "replace" X.env (eval (.Name tx p1) X.env) = eval (.Name tx p1) X.env) (hl1 : (a1.endLine == q1.line) = true)
    (hb2 : attributeBase (.Call (.Attribute (.Name tx p1) "replace" a1) [.Constant (.str y) j1 c1, .Constant (.str z) j2 c2] [] q1) "split" X.env (eval (.Call (.Attribute (.Name tx p1) "replace" a1) [.Constant (.str y) j1 c1, .Constant (.str z) j2 c2] [] q1) X.env) = eval (.Call (.Attribute (.Name tx p1) "replace" a1) [.Constant (.str y) j1 c1, .Constant (.str z) j2 c2] [] q1) X.env)
    (hl2 : (a2.endLine == q2.line) = true) :
    wpAny (model X.prog X.w) X.A (eval (.Call (.Attribute (.Call (.Attribute (.Name tx p1) "replace" a1) [.Constant (.str y) j1 c1, .Constant (.str z) j2 c2] [] q1) "split" a2) [.Constant (.str d) j3 c3] [] q2) X.env)
      (fun v t1 => wpAny (model X.prog X.w) X.A (pyIter v) (PIE X pins σ tgt R) X.xe t1) X.xe s := by
  refine pit_list (tg := tgt) (pet_split (CwR.pet_replC (to := tVar i) (pe_var hN hv hd1 hd2) hyz hs1 hb1 hl1) hd hs2 hb2 hl2) pins s σ H R out I ?_
  obtain ⟨P, ρ, S, sr, g⟩ := h
  have ask : ∃ x, S.ws[i]? = some (.val (.str x)) ∧ (x.length + (x.length + 1) * z.length ≤ 16777216 ∧ (Txt.replace x y z).length + 2 ≤ 16777216) ∧ iPart i y z d S = .ok ((Txt.split (Txt.replace x y z) d).map W.str, S) := by
    unfold iPart at g ⊢
    cases e1 : S.ws[i]? with
    | none => rw [e1] at g; exact g.elim
    | some sl =>
      rw [e1] at g
      cases sl with
      | un => exact g.elim
      | own w => exact g.elim
      | val w =>
        cases w with
        | str x =>
          dsimp only at g ⊢
          by_cases fits : x.length + (x.length + 1) * z.length ≤ 16777216 ∧ (Txt.replace x y z).length + 2 ≤ 16777216
          · exact ⟨x, rfl, fits, if_pos fits⟩
          · rw [if_neg fits] at g
            exact g.elim
        | _ => exact g.elim
  obtain ⟨x, ex, fits, eq⟩ := ask
  rw [eq] at g
  obtain ⟨v, ev, rv⟩ := sr.vals i _ ex
  refine ⟨v, ev, x, rv, fits.1, _, rfl, by rw [line_eq]; exact fits.2, fun p hp => ⟨p, rfl, ⟨_, .inl (.inl upd_same)⟩, ?_⟩⟩
  have gr : Gr H (upd H p (.lst ((Txt.split (Txt.replace x y z) d).map V.str))) := Gr.new hp
  have nb : ¬ Bd P ρ S.ws σ p := fun z => sr.some z hp
  exact g ρ _ _ gr.tr (sr.gr gr) (it_list (.inl ⟨.inl upd_same, nb⟩) (rvs_strs _))
/-- the loop that parts a text, then the words of it, returned -/
theorem mss_parted {is : List Nat} {i j : Nat} {tx sg a b c y z d : Str} {k1 k2 k3 j1 j2 j3 : Nat} {p1 p2 p3 p4 p5 ap q1 q2 b1 b2 cp sp pos kp : Pos} {pr a1 a2 c1 c2 c3 r1 r2 lp rp : Pos} {el tgt : Expr} {conds : List Expr} {bsc : Scope} {ow : List (Str × Nat)} {gg : Tg} {cnd : CT} {elt : CE}
    (hp : PassesOwn (model X.prog X.w) X.A X.env X.xe) (calm : X.calm = true) (nod : X.N.Nodup) (ok : BlkOk X.N X.env.scope bsc ow) (his : ∀ i ∈ is, i ∈ ow.map (·.2))
    (hg : ∀ (s : Shared) (H : Hp) (a : Addr) (cl : List (Str × Addr)) (fp : List Addr), MG (X.blk s H bsc (compEnvC bsc cl a X.env) fp) tgt is gg) (ht : ∀ (s : Shared) (H : Hp) (a : Addr) (cl : List (Str × Addr)) (fp : List Addr), MTs (X.blk s H bsc (compEnvC bsc cl a X.env) fp) C conds cnd)
    (he : ∀ (s : Shared) (H : Hp) (a : Addr) (cl : List (Str × Addr)) (fp : List Addr), ME (X.blk s H bsc (compEnvC bsc cl a X.env) fp) C UN el elt)
    (hi : X.N[i]? = some tx := by rfl) (hj : X.N[j]? = some sg := by rfl) (hij : i ≠ j := by decide) (li : X.env.scope.names.lookup tx = some .local := by rfl) (lj : X.env.scope.names.lookup sg = some .local := by rfl)
    (ha : (a.length == 0) = false := by rfl) (hb : (b.length == 0) = false := by rfl) (hc : c.cps.all (· < 128) = true := by decide +kernel)
    (hst : starEach [.Name sg p4, .BinOp (.BinOp (.Constant (.str a) k1 q1) .Add (.Name sg p5) b1) .Add (.Constant (.str b) k2 q2) b2] X.env =
      [(false, eval (.Name sg p4) X.env), (false, eval (.BinOp (.BinOp (.Constant (.str a) k1 q1) .Add (.Name sg p5) b1) .Add (.Constant (.str b) k2 q2) b2) X.env)] := by rfl)
    (hbase : attributeBase (.Name tx p3) "replace" X.env (eval (.Name tx p3) X.env) = eval (.Name tx p3) X.env := by rfl) (hline : (ap.endLine == cp.line) = true := by rfl)
    (hs : ∀ x, foldedSetIterable (.Constant (.str c) k3 kp) X.env x = pure x := by intro _; rfl)
    (hsw : swapsWith (.Call (.Attribute (.Name tx p3) "replace" ap) [.Name sg p4, .BinOp (.BinOp (.Constant (.str a) k1 q1) .Add (.Name sg p5) b1) .Add (.Constant (.str b) k2 q2) b2] [] cp) (some (.Name tx p2)) sp.line X.env = pure false := by rfl)
    (dt : (tx == ("__debug__" : Str)) = false := by decide) (ct : (tx == ("__classdict__" : Str)) = false := by decide) (ds : (sg == ("__debug__" : Str)) = false := by decide)
    (hyz : (y == z) = false := by decide) (hd : (d.length == 0) = false := by rfl)
    (hs1 : starEach [.Constant (.str y) j1 c1, .Constant (.str z) j2 c2] X.env = [(false, eval (.Constant (.str y) j1 c1) X.env), (false, eval (.Constant (.str z) j2 c2) X.env)] := by rfl) (hs2 : starEach [.Constant (.str d) j3 c3] X.env = [(false, eval (.Constant (.str d) j3 c3) X.env)] := by rfl)
    (hb1 : attributeBase (.Name tx pr) "replace" X.env (eval (.Name tx pr) X.env) = eval (.Name tx pr) X.env := by rfl) (hl1 : (a1.endLine == r1.line) = true := by rfl)
    (hb2 : attributeBase (.Call (.Attribute (.Name tx pr) "replace" a1) [.Constant (.str y) j1 c1, .Constant (.str z) j2 c2] [] r1) "split" X.env (eval (.Call (.Attribute (.Name tx pr) "replace" a1) [.Constant (.str y) j1 c1, .Constant (.str z) j2 c2] [] r1) X.env) = eval (.Call (.Attribute (.Name tx pr) "replace" a1) [.Constant (.str y) j1 c1, .Constant (.str z) j2 c2] [] r1) X.env := by rfl)
    (hl2 : (a2.endLine == r2.line) = true := by rfl)
    (hs3 : ∀ x, foldedSetIterable (.Call (.Attribute (.Call (.Attribute (.Name tx pr) "replace" a1) [.Constant (.str y) j1 c1, .Constant (.str z) j2 c2] [] r1) "split" a2) [.Constant (.str d) j3 c3] [] r2) X.env x = pure x := by intro _; rfl) :
    MSs X C U [.For (.Name sg p1) (.Constant (.str c) k3 kp) [.Assign [.Name tx p2] (.Call (.Attribute (.Name tx p3) "replace" ap) [.Name sg p4, .BinOp (.BinOp (.Constant (.str a) k1 q1) .Add (.Name sg p5) b1) .Add (.Constant (.str b) k2 q2) b2] [] cp) sp] [] pos,
      .Return (some (.ListComp el [⟨tgt, .Call (.Attribute (.Call (.Attribute (.Name tx pr) "replace" a1) [.Constant (.str y) j1 c1, .Constant (.str z) j2 c2] [] r1) "split" a2) [.Constant (.str d) j3 c3] [] r2, conds, 0⟩] bsc lp)) rp]
      (sSeq (sParted i j a b c) (sRet (cLc (ow.map (·.2)) (iPart i y z d) gg cnd elt))) := by
  refine ⟨fun pins s σ H D I q => ?_⟩
  have q1 : rdS ⟨X.K, C⟩ U (sParted i j a b c) { D with nx := fun σ H => rdS ⟨X.K, C⟩ U (sRet (cLc (ow.map (·.2)) (iPart i y z d) gg cnd elt)) D σ H } σ H := by
    obtain ⟨P, ρ, S, sr, g⟩ := q
    refine ⟨P, ρ, S, sr, ?_⟩
    unfold sSeq at g
    cases e : sParted i j a b c S with
    | nx S1 =>
      rw [e] at g
      exact fun σ' ρ' H' t x => ⟨P, ρ', S1, x, GoS.shift t g⟩
    | rt r s => rw [e] at g; exact g
    | bk s => rw [e] at g; exact g
    | ct s => rw [e] at g; exact g
    | exc x s => rw [e] at g; exact g
    | no => rw [e] at g; exact g
  refine wpAny_execs_cons (wpAny_mono (parted_run hp calm nod hi hj hij li lj ha hb hc hst hbase hline hs hsw dt ct ds pins s σ H _ I q1) (fun f s1 z => ?_) fun _ _ z => z)
  obtain ⟨out, z⟩ := z
  cases f with
  | next =>
    obtain ⟨σ1, H1, I1, q2⟩ := z
    have q3 : rd ⟨X.K, C⟩ U (rE X.K) (cLc (ow.map (·.2)) (iPart i y z d) gg cnd elt) σ1 H1 D.rt := by
      obtain ⟨P, ρ, S, sr, g⟩ := q2
      obtain ⟨P0, ρ0, S0, sr0, g0⟩ := gos_bind (r := rE X.K) sr g
      refine ⟨P0, ρ0, S0, sr0, g0.mono fun v H1 z => ?_⟩
      obtain ⟨ρ1, S1, a, t, x, e, g1⟩ := z
      exact g1 v _ ρ1 H1 t x
    have q4 := rd_lc his σ1 H1 D.rt q3
    refine wpAny_execs_cons (wpAny_Return_some (thn (lc_at (G := rdG X.K is gg) (tc := rd ⟨X.K, C⟩ UN (rT X.K) cnd) (te := rd ⟨X.K, C⟩ UN (rE X.K) elt) (Q := D.rt) calm nod I1 ok (part_run out I1 q4 hi (.inl li) dt ct hyz hd hs1 hs2 hb1 hl1 hb2 hl2) hg ht he hs3) fun u s2 w => ?_))
    obtain ⟨x, H2, I2, r2, q5⟩ := w
    exact ⟨x, σ1, H2, I2, r2, q5⟩
  | ret v => exact z
  | brk => exact z
  | cont => exact z
end
end Mi

set_option Elab.async false
set_option linter.all false
set_option maxRecDepth 100000
namespace Mi
open PySem PySem.Spec PyProof.Rows L2
/-- the end, where what a call may let out depends on the world -/
theorem walk_w {l : PySem.W.OpenLaw} {n k : Nat} {q : Program} {loose : List Str} {XP : (Str → Option Value) → Heap → Prop} {YP : World → Heap → Prop} {d : DefRec} {CX : World → CXT} {x : Str}
    (most : l.most = some n) (short : n ≤ sizeLine) (nodef : d.params.defaults = []) (room : Room k callerA)
    (at_ : ∀ (w : World) (mg : Str → Option Value) (fa : Addr) (h : Heap), YP w h → h.Ns mainGlobals mg → mg d.name = some (.ref fa) → ∃ (K : PySem.W.Frag) (fd : FuncData) (sp : Sp), K.In h ∧
      (∀ (s : Shared) (u : Value), BindsTo s fd ⟨[u], []⟩ [(x, u)]) ∧ (∀ (H : Hp) (a : Addr) (ns : List Int), ns.length ≤ n → Only H → SqL K H a (ns.map V.int) → sp [.ref a] H (fun v _ => v = .bl true) fun _ _ _ => False) ∧
      ∀ base : Heap, K.In base → base.Ns mainGlobals mg → FnOk l.prog w K mg base (CX w) k fa fd [x] sp)
    (quiet : ∀ (w : World) (H : Hp) (s : Shared) (e : Value) (s' : Shared), CX w [] H s (fun _ _ _ => False) e s' → False) :
    PySem.W.WalkO q loose XP YP l.row.toRowW d [] (fun f vs => PySem.call f vs) :=
  Att.attach_call most nodef fun w _ s1 mg _ fa _ _ _ _ a _ ns G Y _ _ _ hmg hobj hints hlen hg => by
    obtain ⟨K, fd, sp, kin, binds, asks, ok⟩ := at_ w mg fa _ Y G.T.g hmg
    exact law_call kin G.T.g G.T.b G.T.builtins G.T.nolimit hg hobj hints (Nat.le_trans hlen short) room ok binds (fun H o z => asks H a ns hlen o z) fun H e s' => quiet w H s1 e s'
theorem no_cx {P : Program} {w : World} {o : List Env} {H : Hp} {s s' : Shared} {e : Value} (z : L2.CX P w o H s (fun _ _ _ => False) e s') : False := by
  obtain ⟨_, _, _, _, _, _, _, _, _, _, _, _, no⟩ := z
  exact no
end Mi

set_option Elab.async false
set_option linter.all false
set_option maxRecDepth 100000
set_option maxHeartbeats 1000000
/-! How the Lean functions are reasoned about: loops by invariants. -/
namespace Mi
open PySem PySem.Spec PyProof.Rows L2
/-- it gives something of which Q holds -/
def Ev {α : Type} (m : M (α × Sta)) (Q : α → Sta → Prop) : Prop := match m with
  | .ok p => Q p.1 p.2
  | _ => False
def EvG (m : Option Sta) (Q : Sta → Prop) : Prop := match m with
  | some S => Q S
  | none => False
theorem Ev.ex {α : Type} {m : M (α × Sta)} {Q : α → Sta → Prop} (h : Ev m Q) : ∃ a S, m = .ok (a, S) ∧ Q a S := by
  cases m with
  | ok p => exact ⟨p.1, p.2, rfl, h⟩
  | exc => exact h.elim
  | no => exact h.elim
theorem EvG.ex {m : Option Sta} {Q : Sta → Prop} (h : EvG m Q) : ∃ S, m = some S ∧ Q S := by
  cases m with
  | some S => exact ⟨S, rfl, h⟩
  | none => exact h.elim
/-- what a loop's body leads to -/
def Turn (N : Sta → Prop) (Q : Fl → Prop) : Fl → Prop
  | .nx S => N S
  | .ct S => N S
  | .bk S => Q (.nx S)
  | .rt r S => Q (.rt r S)
  | _ => False
theorem loopW_to {c : CT} {b : CS} (I : Nat → Sta → Prop) (Q : Fl → Prop) (step : ∀ m S, I m S → Ev (c S) fun k S1 => if k = true then Turn (fun S' => ∃ m', m' < m ∧ I m' S') Q (b S1) else Q (.nx S1)) :
    ∀ n m S, I m S → m < n → Q (loopW n c b S) := by
  intro n
  induction n with
  | zero => intro m S _ h; omega
  | succ n ih =>
    intro m S i h
    obtain ⟨k, S1, e, q⟩ := (step m S i).ex
    unfold loopW
    rw [e]
    dsimp only [M.thn]
    cases k with
    | false => simpa using q
    | true =>
      have t : Turn (fun S' => ∃ m', m' < m ∧ I m' S') Q (b S1) := by simpa using q
      rw [if_pos rfl]
      cases eb : b S1 with
      | nx S' =>
        rw [eb] at t
        obtain ⟨m', lt, i'⟩ := t
        exact ih m' S' i' (by omega)
      | ct S' =>
        rw [eb] at t
        obtain ⟨m', lt, i'⟩ := t
        exact ih m' S' i' (by omega)
      | bk S' => rw [eb] at t; exact t
      | rt r S' => rw [eb] at t; exact t
      | exc x S' => rw [eb] at t; exact t.elim
      | no => rw [eb] at t; exact t.elim
theorem while_to {c : CT} {b : CS} {S : Sta} {m : Nat} (I : Nat → Sta → Prop) (Q : Fl → Prop) (step : ∀ m S, I m S → Ev (c S) fun k S1 => if k = true then Turn (fun S' => ∃ m', m' < m ∧ I m' S') Q (b S1) else Q (.nx S1))
    (i : I m S) (h : m < 1099511627776) : Q (sWhile c b S) := loopW_to I Q step _ m S i h
theorem forL_to {g : Tg} {b : CS} (I : List W → Sta → Prop) (Q : Fl → Prop) (fin : ∀ S, I [] S → Q (.nx S)) (step : ∀ w ws S, I (w :: ws) S → EvG (g w S) fun S1 => Turn (I ws) Q (b S1)) :
    ∀ its S, I its S → Q (forL g b its S) := by
  intro its
  induction its with
  | nil => exact fin
  | cons w ws ih =>
    intro S i
    obtain ⟨S1, e, t⟩ := (step w ws S i).ex
    unfold forL
    rw [e]
    dsimp only
    cases eb : b S1 with
    | nx S' => rw [eb] at t; exact ih S' t
    | ct S' => rw [eb] at t; exact ih S' t
    | bk S' => rw [eb] at t; exact t
    | rt r S' => rw [eb] at t; exact t
    | exc x S' => rw [eb] at t; exact t.elim
    | no => rw [eb] at t; exact t.elim
/-- a comprehension without a condition -/
theorem lcL_to {own : List Nat} {g : Tg} {elt : CE} (I : List W → List W → Sta → Prop) (Q : List W → Sta → Prop) (fin : ∀ acc S, I [] acc S → Q acc S)
    (step : ∀ w ws acc S, I (w :: ws) acc S → acc.length < 16777216 ∧ EvG (g w S) fun S1 => Ev (elt S1) fun r S2 => I ws (acc ++ [r.val]) (wipeS own S2)) :
    ∀ its acc S, I its acc S → ∃ xs S', lcL own g tY elt its acc S = .ok (.fr (.lst xs), S') ∧ Q xs S' := by
  intro its
  induction its with
  | nil => exact fun acc S i => ⟨acc, S, rfl, fin acc S i⟩
  | cons w ws ih =>
    intro acc S i
    obtain ⟨lt, h⟩ := step w ws acc S i
    obtain ⟨S1, e1, h⟩ := h.ex
    obtain ⟨r, S2, e2, i'⟩ := h.ex
    obtain ⟨xs, S', e, q⟩ := ih _ _ i'
    refine ⟨xs, S', ?_, q⟩
    unfold lcL
    rw [e1]
    dsimp only [M.bindN, tY]
    rw [if_pos rfl, e2]
    dsimp only
    rw [if_pos lt]
    exact e
/-- .. with one -/
theorem lcL_toC {own : List Nat} {g : Tg} {c : CT} {elt : CE} (I : List W → List W → Sta → Prop) (Q : List W → Sta → Prop) (fin : ∀ acc S, I [] acc S → Q acc S)
    (step : ∀ w ws acc S, I (w :: ws) acc S → acc.length < 16777216 ∧ EvG (g w S) fun S1 => Ev (c S1) fun k S2 => if k = true then Ev (elt S2) fun r S3 => I ws (acc ++ [r.val]) (wipeS own S3) else I ws acc (wipeS own S2)) :
    ∀ its acc S, I its acc S → ∃ xs S', lcL own g c elt its acc S = .ok (.fr (.lst xs), S') ∧ Q xs S' := by
  intro its
  induction its with
  | nil => exact fun acc S i => ⟨acc, S, rfl, fin acc S i⟩
  | cons w ws ih =>
    intro acc S i
    obtain ⟨lt, h⟩ := step w ws acc S i
    obtain ⟨S1, e1, h⟩ := h.ex
    obtain ⟨k, S2, e2, h⟩ := h.ex
    cases k with
    | true =>
      rw [if_pos rfl] at h
      obtain ⟨r, S3, e3, i'⟩ := h.ex
      obtain ⟨xs, S', e, q⟩ := ih _ _ i'
      refine ⟨xs, S', ?_, q⟩
      unfold lcL
      rw [e1]
      dsimp only [M.bindN]
      rw [e2]
      dsimp only
      rw [if_pos rfl, e3]
      dsimp only
      rw [if_pos lt]
      exact e
    | false =>
      rw [if_neg (by decide)] at h
      obtain ⟨xs, S', e, q⟩ := ih _ _ h
      refine ⟨xs, S', ?_, q⟩
      unfold lcL
      rw [e1]
      dsimp only [M.bindN]
      rw [e2]
      dsimp only
      rw [if_neg (by decide)]
      exact e
/-- over a list, by the place -/
theorem for_at {g : Tg} {b : CS} (its : List W) (I : Nat → Sta → Prop) (Q : Fl → Prop) (fin : ∀ S, I its.length S → Q (.nx S)) (step : ∀ k w S, its[k]? = some w → I k S → EvG (g w S) fun S1 => Turn (I (k + 1)) Q (b S1)) (S : Sta) (i : I 0 S) : Q (forL g b its S) := by
  refine forL_to (fun ws S => ∃ k, k ≤ its.length ∧ ws = its.drop k ∧ I k S) Q ?_ ?_ its S ⟨0, Nat.zero_le _, rfl, i⟩
  · rintro S ⟨k, hk, e, i⟩
    have := congrArg List.length e
    rw [List.length_drop, List.length_nil] at this
    have ek : k = its.length := by omega
    subst ek
    exact fin S i
  · rintro w ws S ⟨k, hk, e, i⟩
    have lt : k < its.length := by
      have := congrArg List.length e
      rw [List.length_drop, List.length_cons] at this
      omega
    rw [List.drop_eq_getElem_cons lt] at e
    obtain ⟨rfl, rfl⟩ := List.cons.inj e
    have h := step k _ S (List.getElem?_eq_getElem lt) i
    revert h
    cases g its[k] S with
    | none => exact fun h => h
    | some S1 =>
      intro h
      show Turn _ Q (b S1)
      have h' : Turn (I (k + 1)) Q (b S1) := h
      revert h'
      cases b S1 with
      | nx S' => exact fun z => ⟨k + 1, lt, rfl, z⟩
      | ct S' => exact fun z => ⟨k + 1, lt, rfl, z⟩
      | bk S' => exact fun z => z
      | rt r S' => exact fun z => z
      | exc x S' => exact fun z => z
      | no => exact fun z => z
theorem rng_get {n k : Nat} {w : W} (e : (rngItems 0 n)[k]? = some w) : k < n ∧ w = .int k := by
  unfold rngItems at e
  rw [List.getElem?_map] at e
  cases q : (List.range n)[k]? with
  | none => rw [q] at e; cases e
  | some c =>
    rw [q] at e
    cases e
    have l := (List.getElem?_eq_some_iff.mp q).1
    rw [List.length_range] at l
    rw [List.getElem?_eq_getElem (by simpa using l)] at q
    simp at q
    exact ⟨l, by rw [q] <;> simp⟩
theorem rng_len (n : Nat) : (rngItems 0 n).length = n := by
  unfold rngItems
  simp
theorem for_rng {g : Tg} {b : CS} (n : Nat) (I : Nat → Sta → Prop) (Q : Fl → Prop) (fin : ∀ S, I n S → Q (.nx S)) (step : ∀ k S, k < n → I k S → EvG (g (.int k) S) fun S1 => Turn (I (k + 1)) Q (b S1)) (S : Sta) (i : I 0 S) : Q (forL g b (rngItems 0 n) S) :=
  for_at (rngItems 0 n) I Q (fun S j => fin S (by rw [rng_len] at j; exact j)) (fun k w S e j => by
    obtain ⟨lt, rfl⟩ := rng_get e
    exact step k S lt j) S i
theorem lc_at' {own : List Nat} {g : Tg} {elt : CE} (its : List W) (hz : its.length < 16777216) (I : Nat → List W → Sta → Prop) (step : ∀ k w acc S, its[k]? = some w → acc.length = k → I k acc S → EvG (g w S) fun S1 => Ev (elt S1) fun r S2 => I (k + 1) (acc ++ [r.val]) (wipeS own S2)) (S : Sta) (i : I 0 [] S) :
    ∃ xs S', lcL own g tY elt its [] S = .ok (.fr (.lst xs), S') ∧ xs.length = its.length ∧ I its.length xs S' := by
  refine lcL_to (fun ws acc S => ∃ k, k ≤ its.length ∧ ws = its.drop k ∧ acc.length = k ∧ I k acc S) (fun xs S' => xs.length = its.length ∧ I its.length xs S') ?_ ?_ its [] S ⟨0, Nat.zero_le _, rfl, rfl, i⟩
  · rintro acc S ⟨k, hk, e, ea, i⟩
    have := congrArg List.length e
    rw [List.length_drop, List.length_nil] at this
    have ek : k = its.length := by omega
    subst ek
    exact ⟨ea, i⟩
  · rintro w ws acc S ⟨k, hk, e, ea, i⟩
    have lt : k < its.length := by
      have := congrArg List.length e
      rw [List.length_drop, List.length_cons] at this
      omega
    rw [List.drop_eq_getElem_cons lt] at e
    obtain ⟨rfl, rfl⟩ := List.cons.inj e
    refine ⟨by omega, ?_⟩
    obtain ⟨S1, e1, h⟩ := (step k _ acc S (List.getElem?_eq_getElem lt) ea i).ex
    obtain ⟨r, S2, e2, h⟩ := h.ex
    simp only [e1, EvG, e2, Ev]
    exact ⟨k + 1, lt, rfl, by rw [List.length_append, ea] <;> rfl, h⟩
theorem lc_rng {own : List Nat} {g : Tg} {elt : CE} (n : Nat) (hz : n < 16777216) (I : Nat → List W → Sta → Prop) (step : ∀ k acc S, k < n → acc.length = k → I k acc S → EvG (g (.int k) S) fun S1 => Ev (elt S1) fun r S2 => I (k + 1) (acc ++ [r.val]) (wipeS own S2)) (S : Sta) (i : I 0 [] S) :
    ∃ xs S', lcL own g tY elt (rngItems 0 n) [] S = .ok (.fr (.lst xs), S') ∧ xs.length = n ∧ I n xs S' := by
  obtain ⟨xs, S', e, l, j⟩ := lc_at' (own := own) (g := g) (elt := elt) (rngItems 0 n) (by rw [rng_len]; exact hz) I (fun k w acc S e a j => by
    obtain ⟨lt, rfl⟩ := rng_get e
    exact step k acc S lt a j) S i
  rw [rng_len] at l j
  exact ⟨xs, S', e, l, j⟩
end Mi

set_option Elab.async false
set_option linter.all false
set_option maxRecDepth 100000
set_option maxHeartbeats 1000000
/-! Operations on texts, as lists of signs. -/
namespace Mi
open PySem L2
/-- a text of these signs -/
abbrev T (l : List Nat) : Str := ⟨l.toArray⟩
theorem T_eta (s : Str) : T s.cps.toList = s := by cases s; rfl
theorem T_len (l : List Nat) : (T l).length = l.length := by
  show l.toArray.size = l.length
  simp
theorem T_add (a b : List Nat) : T a ++ T b = T (a ++ b) := by
  show (⟨a.toArray ++ b.toArray⟩ : Str) = _
  simp
theorem T_inj {a b : List Nat} (h : T a = T b) : a = b := by
  have : (T a).cps.toList = (T b).cps.toList := by rw [h]
  simpa using this
theorem T_eq {a b : List Nat} : T a = T b ↔ a = b := ⟨T_inj, fun h => by rw [h]⟩
theorem len_T (l : List Nat) (h : l.length ≤ 16777216) : lenF (.str (T l)) = some (.w (.int l.length)) := by
  dsimp only [lenF]
  rw [if_pos (by rw [T_len]; exact h), T_len]
theorem ix_T (l : List Nat) (i : Nat) (c : Nat) (h : l.length ≤ 16777216) (e : l[i]? = some c) : ixF (.str (T l)) (.int i) = some (.w (.str (T [c]))) := by
  dsimp only [ixF]
  have hi := (List.getElem?_eq_some_iff.mp e).1
  rw [if_pos (by rw [T_len]; exact h)]
  simp only [atI, ixN]
  rw [if_pos (by omega), if_pos (by simpa using hi)]
  simp [e]
theorem ix_last (l : List Nat) (c : Nat) (h : (l ++ [c]).length ≤ 16777216) : ixF (.str (T (l ++ [c]))) (.int (-1)) = some (.w (.str (T [c]))) := by
  dsimp only [ixF]
  rw [if_pos (by rw [T_len]; exact h)]
  simp only [atI, ixN]
  rw [if_neg (by omega), if_pos (by simp; omega)]
  simp
  rw [show (-1 + ((l.length : Int) + 1)).toNat = l.length by omega]
  simp
theorem in_T (neg : Bool) (c : Nat) (l : List Nat) : inF neg (.str (T [c])) (.str (T l)) = some (.w (.bl (if neg = true then !decide (c ∈ l) else decide (c ∈ l)))) := by
  dsimp only [inF, inS]
  simp
theorem add_T (a b : List Nat) (h : a.length + b.length ≤ 16777216) : addF (.str (T a)) (.str (T b)) = some (.w (.str (T (a ++ b)))) := by
  dsimp only [addF]
  rw [T_len, T_len, if_pos h, T_add]
theorem add_i (i j : Int) : addF (.int i) (.int j) = some (.w (.int (i + j))) := rfl
theorem slLo_T (l : List Nat) (i : Nat) (h : l.length ≤ 16777216) : slLoF (.str (T l)) (.int i) = some (.w (.str (T (l.drop i)))) := by
  dsimp only [slLoF, slF, cutS]
  rw [if_pos (by rw [T_len]; exact h), T_len]
  simp only [HT.sIx]
  rw [if_neg (by omega)]
  congr 3
  simp only [Int.toNat_natCast]
  apply congrArg
  rw [List.take_of_length_le (by simp)]
  by_cases hi : i ≤ l.length
  · rw [Nat.min_eq_left hi]
  · rw [Nat.min_eq_right (by omega), List.drop_eq_nil_of_le (Nat.le_refl _), List.drop_eq_nil_of_le (by omega)]
theorem slHi_T (l : List Nat) (i : Nat) (h : l.length ≤ 16777216) : slHiF (.str (T l)) (.int i) = some (.w (.str (T (l.take i)))) := by
  dsimp only [slHiF, slF, cutS]
  rw [if_pos (by rw [T_len]; exact h), T_len]
  simp only [HT.sIx]
  rw [if_neg (by omega)]
  congr 3
  simp only [Int.toNat_natCast, List.drop_zero, Nat.sub_zero]
  apply congrArg
  by_cases hi : i ≤ l.length
  · rw [Nat.min_eq_left hi]
  · rw [Nat.min_eq_right (by omega), List.take_of_length_le (Nat.le_refl _), List.take_of_length_le (by omega)]
theorem slBo_T (l : List Nat) (i j : Nat) (h : l.length ≤ 16777216) (hj : j ≤ l.length) (hi : i ≤ j) : slF (some (i : Int)) (some (j : Int)) (.str (T l)) = some (.w (.str (T ((l.drop i).take (j - i))))) := by
  dsimp only [slF, cutS]
  rw [if_pos (by rw [T_len]; exact h), T_len]
  simp only [HT.sIx]
  rw [if_neg (by omega), if_neg (by omega)]
  simp only [Int.toNat_natCast, Nat.min_eq_left hj, Nat.min_eq_left (Nat.le_trans hi hj)]
/-- signs of a text -/
abbrev Pl (l : List Nat) : Prop := ∀ c ∈ l, c < 1114112
theorem shaped_str (l : List Nat) (h : Pl l) : SeqAt.shaped (.str (T l)) = true := by
  simp only [SeqAt.shaped, PyData.canLay0, PyData.depth]
  have e : PyData.strOk (T l) = true := by
    unfold PyData.strOk
    simp only [List.all_toArray, List.all_eq_true, decide_eq_true_eq]
    exact h
  simp [e]
theorem eq_T (neg : Bool) (a b : List Nat) (ha : Pl a) (hb : Pl b) : eqV' neg (.str (T a)) (.str (T b)) = some (.w (.bl (if neg = true then !decide (a = b) else decide (a = b)))) := by
  simp only [eqV', toPy, shaped_str a ha, shaped_str b hb, PyData.eqv]
  have : (T a == T b) = decide (a = b) := by
    by_cases e : a = b
    · subst e
      simp
    · have n : T a ≠ T b := fun h => e (T_inj h)
      simp [e, n]
  simp [this]
end Mi
namespace Mi
open PySem L2
theorem flats_strs : ∀ xs : List Str, flats (xs.map W.str) = some (xs.map V.str)
  | [] => rfl
  | x :: xs => by
    simp only [List.map_cons, flats, W.flat, flats_strs xs]
theorem inV_strs (x : Str) (xs : List Str) : inV (.str x) (xs.map V.str) = decide (x ∈ xs) := by
  have e : ∀ y : Str, eqV (.str y) (.str x) = decide (y = x) := fun y => by
    show (y == x) = decide (y = x)
    by_cases h : y = x
    · subst h
      simp
    · simp [h]
  unfold inV
  rw [List.any_map]
  by_cases h : x ∈ xs
  · rw [decide_eq_true h]
    exact List.any_eq_true.mpr ⟨x, h, by simp [e]⟩
  · rw [decide_eq_false h]
    refine List.any_eq_false.mpr fun y hy => ?_
    have : y ≠ x := fun z => h (z ▸ hy)
    simp [e, this]
theorem in_strs (neg : Bool) (x : Str) (xs : List Str) : inF neg (.str x) (.tup (xs.map W.str)) = some (.w (.bl (if neg = true then !decide (x ∈ xs) else decide (x ∈ xs)))) := by
  simp only [inF, W.flat, flats_strs, inV_strs]
theorem in_strsL (neg : Bool) (x : Str) (xs : List Str) : inF neg (.str x) (.lst (xs.map W.str)) = some (.w (.bl (if neg = true then !decide (x ∈ xs) else decide (x ∈ xs)))) := by
  simp only [inF, W.flat, flats_strs, inV_strs]

/-! ### split, replace -/
def splitL (c : Nat) : List Nat → List (List Nat)
  | [] => [[]]
  | d :: l => if d = c then [] :: splitL c l else match splitL c l with
    | [] => [[d]]
    | p :: ps => (d :: p) :: ps
def glueL (z : List Nat) : List (List Nat) → List Nat
  | [] => []
  | [p] => p
  | p :: q :: ps => p ++ z ++ glueL z (q :: ps)
theorem splitL_ne (c : Nat) (l : List Nat) : splitL c l ≠ [] := by
  cases l with
  | nil => simp [splitL]
  | cons d l =>
    unfold splitL
    split
    · simp
    · split <;> simp
theorem splitL_free {c : Nat} : ∀ {p : List Nat}, c ∉ p → splitL c p = [p]
  | [], _ => rfl
  | d :: p, h => by
    have h1 : d ≠ c := fun e => h (by simp [e])
    have h2 : c ∉ p := fun e => h (by simp [e])
    unfold splitL
    rw [if_neg h1, splitL_free h2]
theorem splitL_app {c : Nat} : ∀ {p r : List Nat}, c ∉ p → splitL c (p ++ c :: r) = p :: splitL c r
  | [], r, _ => by simp [splitL]
  | d :: p, r, h => by
    have h1 : d ≠ c := fun e => h (by simp [e])
    have h2 : c ∉ p := fun e => h (by simp [e])
    have u : splitL c (d :: (p ++ c :: r)) = if d = c then [] :: splitL c (p ++ c :: r) else match splitL c (p ++ c :: r) with
      | [] => [[d]]
      | p :: ps => (d :: p) :: ps := rfl
    rw [List.cons_append, u, if_neg h1, splitL_app h2]
theorem splitL_glue {c : Nat} : ∀ {ps : List (List Nat)}, ps ≠ [] → (∀ p ∈ ps, c ∉ p) → splitL c (glueL [c] ps) = ps
  | [], h, _ => absurd rfl h
  | [p], _, h => splitL_free (h p (by simp))
  | p :: q :: ps, _, h => by
    unfold glueL
    rw [List.append_assoc, List.singleton_append, splitL_app (h p (by simp)), splitL_glue (by simp) (fun r hr => h r (List.mem_cons_of_mem _ hr))]
theorem join_T (z : List Nat) : ∀ ps : List (List Nat), Str.join (T z) (ps.map T) = T (glueL z ps)
  | [] => rfl
  | [p] => rfl
  | p :: q :: ps => by
    have ih := join_T z (q :: ps)
    show T p ++ T z ++ Str.join (T z) ((q :: ps).map T) = _
    rw [ih, T_add, T_add]
    rfl
theorem map_T_eta (xs : List Str) : (xs.map fun s => s.cps.toList).map T = xs := by
  rw [List.map_map]
  have : (T ∘ fun s : Str => s.cps.toList) = id := by
    funext s
    exact T_eta s
  rw [this, List.map_id]
theorem parts_T (l : List Nat) (c : Nat) : Txt.split (T l) (T [c]) = (splitL c l).map T := by
  have e := PySem.StrLaws.join_split (T l) (T [c])
  have f := PySem.StrLaws.split_free (T l) c
  rw [← map_T_eta (Txt.split (T l) (T [c]))] at e ⊢
  generalize hp : (Txt.split (T l) (T [c])).map (fun s => s.cps.toList) = ps at e ⊢
  have fr : ∀ p ∈ ps, c ∉ p := fun p hq => by
    rw [← hp] at hq
    obtain ⟨s, hs, rfl⟩ := List.mem_map.mp hq
    exact f s hs
  rw [join_T] at e
  have e2 := T_inj e
  have ne : ps ≠ [] := by
    intro z
    rw [z] at hp
    have z2 : Txt.split (T l) (T [c]) = [] := by simpa using hp
    revert z2
    unfold Txt.split
    split
    · simp
    · split
      · simp
      · intro z3
        have := congrArg List.length z3
        rw [length_partsBetween] at this
        simp at this
  rw [← e2, splitL_glue ne fr]
/-- one sign replaced -/
def replL (c : Nat) (z : List Nat) (l : List Nat) : List Nat := l.flatMap fun d => if d = c then z else [d]
theorem glue_split (c : Nat) (z : List Nat) : ∀ l : List Nat, glueL z (splitL c l) = replL c z l
  | [] => rfl
  | d :: l => by
    have ih := glue_split c z l
    unfold splitL replL
    rw [List.flatMap_cons]
    have ih' : glueL z (splitL c l) = l.flatMap fun d => if d = c then z else [d] := ih
    by_cases h : d = c
    · rw [if_pos h, if_pos h, ← ih']
      cases e : splitL c l with
      | nil => exact absurd e (splitL_ne c l)
      | cons p ps => rfl
    · rw [if_neg h, if_neg h, ← ih']
      cases e : splitL c l with
      | nil => exact absurd e (splitL_ne c l)
      | cons p ps =>
        cases ps with
        | nil => rfl
        | cons q qs => rfl
theorem replace_T (l z : List Nat) (c : Nat) : Txt.replace (T l) (T [c]) (T z) = T (replL c z l) := by
  have e := PySem.StrLaws.replace_one (T l) (T z) c
  rw [e]
  have p := parts_T l c
  have p' : Txt.split (T l) ⟨#[c]⟩ = (splitL c l).map T := p
  rw [p', join_T, glue_split]
theorem eq_S (neg : Bool) (a b : Str) (ha : PyData.strOk a = true) (hb : PyData.strOk b = true) : eqV' neg (.str a) (.str b) = some (.w (.bl (if neg = true then !decide (a = b) else decide (a = b)))) := by
  simp only [eqV', toPy, SeqAt.shaped, PyData.canLay0, PyData.depth, PyData.eqv, ha, hb]
  have : (a == b) = decide (a = b) := by
    by_cases e : a = b
    · subst e
      simp
    · simp [e]
  simp [this]
theorem strOk_T {l : List Nat} (h : Pl l) : PyData.strOk (T l) = true := by
  unfold PyData.strOk
  simp only [List.all_toArray, List.all_eq_true, decide_eq_true_eq]
  exact h
theorem rng_fit (n : Nat) (h : n < 1099511627776) : Sm (n : Int) := by
  show (n : Int).natAbs < 4611686018427387904
  omega
theorem rng1_ev (n : Nat) (h : n < 1099511627776) (f : CE) (S S1 : Sta) (r : R) (e : f S = .ok (r, S1)) (er : r.val = .int n) : iRng1' f S = .ok (rngItems 0 n, S1) := by
  unfold iRng1'
  rw [e]
  dsimp only [M.bind]
  rw [er]
  dsimp only
  rw [if_pos (rng_fit n h)]
  simp
theorem sFor_rng {g : Tg} {b : CS} (n : Nat) (h : n < 1099511627776) (f : CE) (S S1 : Sta) (r : R) (e : f S = .ok (r, S1)) (er : r.val = .int n) : sFor (iRng1' f) g b S = forL g b (rngItems 0 n) S1 := by
  have q := rng1_ev n h f S S1 r e er
  unfold sFor
  rw [q]
theorem cLc_rng {own : List Nat} {g : Tg} {c : CT} {elt : CE} (n : Nat) (h : n < 1099511627776) (f : CE) (S S1 : Sta) (r : R) (e : f S = .ok (r, S1)) (er : r.val = .int n) : cLc own (iRng1' f) g c elt S = lcL own g c elt (rngItems 0 n) [] (wipeS own S1) := by
  have q := rng1_ev n h f S S1 r e er
  unfold cLc
  rw [q]
end Mi

set_option Elab.async false
set_option linter.all false
set_option maxRecDepth 100000
set_option maxHeartbeats 4000000
namespace W44
open PySem PySem.Spec PyProof.Rows L2 Mi
abbrev top (i : Nat) : Stmt := PySem.Challenge.pw_lentonce_k44_words_of_texts.main.body.getD i (.Pass ⟨0, 0, 0, 0⟩)
section
variable {P : Program} {w : World} {K : PySem.W.Frag} {mg : Str → Option Value} {base : Heap} {C : Nat → Addr}
def k_LETTERS : W := .str "abcdefghijklmnopqrstuvwxyzABCDEFGHIJKLMNOPQRSTUVWXYZ"
def k_SIGNS : W := .str ("abcdefghijklmnopqrstuvwxyzABCDEFGHIJKLMNOPQRSTUVWXYZ" ++ "0123456789_")
def k_ONE_SIGNS : W := .str "=;,(){}"
def k_LONGEST_WORD : W := .int 12
def k_OWN_WORDS : W := .tup [.str "drop", .str "either", .str "give", .str "given", .str "look", .str "loop", .str "new", .str "only", .str "or", .str "out", .str "proc", .str "set", .str "use"]
abbrev DefAt (K : PySem.W.Frag) (mg : Str → Option Value) (x : Str) (i : Nat) : Prop := ∃ f fd, FunD K x x (defArgs (top i)) (defBody (top i)) (defScope (top i)) [] [] f fd ∧ mg x = some (.ref f)
structure Hd (K : PySem.W.Frag) (mg : Str → Option Value) : Prop where
  g_all : mg "all" = none
  g_bool : mg "bool" = none
  g_int : mg "int" = none
  g_isinstance : mg "isinstance" = none
  g_len : mg "len" = none
  g_list : mg "list" = none
  g_max : mg "max" = none
  g_range : mg "range" = none
  g_str : mg "str" = none
  g_tuple : mg "tuple" = none
  k_LETTERS : ∃ u, mg "LETTERS" = some u ∧ GV K u k_LETTERS
  k_LONGEST_WORD : ∃ u, mg "LONGEST_WORD" = some u ∧ GV K u k_LONGEST_WORD
  k_ONE_SIGNS : ∃ u, mg "ONE_SIGNS" = some u ∧ GV K u k_ONE_SIGNS
  k_OWN_WORDS : ∃ u, mg "OWN_WORDS" = some u ∧ GV K u k_OWN_WORDS
  k_SIGNS : ∃ u, mg "SIGNS" = some u ∧ GV K u k_SIGNS
  d_row_end : DefAt K mg "row_end" 6
  d_letter_word : DefAt K mg "letter_word" 7
  d_word_from : DefAt K mg "word_from" 8
  d_words_in : DefAt K mg "words_in" 9
  d_words_of : DefAt K mg "words_of" 10
  d__law_pen : DefAt K mg "_law_pen" 12
  d__law_draw : DefAt K mg "_law_draw" 13
  d__law_pick : DefAt K mg "_law_pick" 14
  d__law_shuffled : DefAt K mg "_law_shuffled" 15
  d__law_is_int : DefAt K mg "_law_is_int" 16
  d__law_body_drawn : DefAt K mg "_law_body_drawn" 18
  d__law_statement_drawn : DefAt K mg "_law_statement_drawn" 17
  d__law_begun : DefAt K mg "_law_begun" 19
  d__law_book_of_sizes : DefAt K mg "_law_book_of_sizes" 20
  d__law_all_statements : DefAt K mg "_law_all_statements" 22
  d__law_book : DefAt K mg "_law_book" 21
  d__law_body_text : DefAt K mg "_law_body_text" 24
  d__law_statement_text : DefAt K mg "_law_statement_text" 23
  d__law_proc_text : DefAt K mg "_law_proc_text" 25
  d__law_printed : DefAt K mg "_law_printed" 26
  d__law_parted : DefAt K mg "_law_parted" 27
  d__law_text_of : DefAt K mg "_law_text_of" 28
  d__law_gap : DefAt K mg "_law_gap" 29
  d__law_loose_words : DefAt K mg "_law_loose_words" 30
  d__law_loose_text : DefAt K mg "_law_loose_text" 31
  d__law_words : DefAt K mg "_law_words" 32
  d__law_spoilt : DefAt K mg "_law_spoilt" 33
  d__law_told_ok : DefAt K mg "_law_told_ok" 34
  d_law : DefAt K mg "law" 35
def N_row_end : List Str := ["line", "at", "signs", "end"]
theorem sc_row_end : FnScope N_row_end ["line", "at", "signs"] (defScope (top 6)) := ⟨rfl, rfl, rfl, by decide +kernel, rfl, by decide +kernel, by decide +kernel⟩
def c1_row_end  : CT := tAndT (tE (cP2 ltF (aPk 3) (aE (cP1 lenF (aPk 0))))) (tE (cP2 (inF false) (aE (cP2 ixF (aPk 0) (aPk 3))) (aPk 2)))
def d2_row_end  : CS := sAug 3 iaddF (aE (cC (.int 1)))
def b_row_end  : CS := sSeq (sSet 3 (cNm 1))
    (sSeq (sWhile (c1_row_end) (d2_row_end))
    (sRet (cNm 3)))
def fn_row_end : Fn := mkFn 3 4 b_row_end
theorem ok_row_end (h : Hd K mg) : DefOk P w K mg base C 1 3 "row_end" fn_row_end := by
  obtain ⟨f, fd, F, hm⟩ := h.d_row_end
  refine def_mk F.fun hm (F.bindsN (ps := ["line", "at", "signs"]) fun _ _ _ _ _ _ us hl => match us, hl with | [_, _, _], _ => rfl) (def_ok F.fun sc_row_end (by decide) fun cdv A outer s H E hr tk hp => ?_)
  exact mss_cons (ms_set (i := 3) sc_row_end.nd (me_nm 1))
            (mss_cons (ms_while hp (mw_t (mw_and (mt_lt (ma_pk 3) (ma_e (me_len rfl h.g_len (ma_pk 0)))) (mw_and1 (mt_in hr (ma_e (me_ix (ma_pk 0) (ma_pk 3))) (ma_pk 2))))) (mss_one (ms_iadd (i := 3) sc_row_end.nd (ma_e (me_int)))))
            (mss_one (ms_ret (me_nm 3))))
def N_letter_word : List Str := ["line", "at", "letters"]
theorem sc_letter_word : FnScope N_letter_word ["line", "at"] (defScope (top 7)) := ⟨rfl, rfl, rfl, by decide +kernel, rfl, by decide +kernel, by decide +kernel⟩
def b_letter_word  : CS := sSeq (sSet 2 (cSlBo (aPk 0) (aPk 1) (aE (cCall fn_row_end (cCons (cNm 0) (cCons (cNm 1) (cCons (cC k_SIGNS) (cNil))))))))
    (sSeq (sIf (tE (cP2 gtF (aE (cP1 lenF (aPk 2))) (aE (cC k_LONGEST_WORD)))) (sRet (cTup (cCons (cC (.str "bad")) (cCons (cC (.str "word")) (cNil))))) (sNil))
    (sRet (cTup (cCons (cIf (tE (cP2 (inF false) (aPk 2) (aE (cC k_OWN_WORDS)))) (cC (.str "own")) (cC (.str "name"))) (cCons (cNm 2) (cNil))))))
def fn_letter_word : Fn := mkFn 2 3 b_letter_word
theorem ok_letter_word (h : Hd K mg) : DefOk P w K mg base C 2 2 "letter_word" fn_letter_word := by
  obtain ⟨f, fd, F, hm⟩ := h.d_letter_word
  refine def_mk F.fun hm (F.bindsN (ps := ["line", "at"]) fun _ _ _ _ _ _ us hl => match us, hl with | [_, _], _ => rfl) (def_ok F.fun sc_letter_word (by decide) fun cdv A outer s H E hr tk hp => ?_)
  exact mss_cons (ms_set (i := 2) sc_letter_word.nd (me_slBo (ma_pk 0) (ma_pk 1) (ma_e (me_call (ok_row_end h) (hr.mono (by decide)) tk rfl (ml_cons (me_nm 0) (ml_cons (me_nm 1) (ml_cons (me_globE rfl h.k_SIGNS) (ml_nil))))))))
            (mss_cons (ms_if (mt_gt (ma_e (me_len rfl h.g_len (ma_pk 2))) (ma_e (me_globE rfl h.k_LONGEST_WORD))) (mss_one (ms_ret (me_tup (ml_cons (me_str) (ml_cons (me_str) (ml_nil)))))) (mss_nil))
            (mss_one (ms_ret (me_tup (ml_cons (me_if (mt_in hr (ma_pk 2) (ma_e (me_globE rfl h.k_OWN_WORDS))) (me_str) (me_str)) (ml_cons (me_nm 2) (ml_nil)))))))
def N_word_from : List Str := ["line", "at"]
theorem sc_word_from : FnScope N_word_from ["line", "at"] (defScope (top 8)) := ⟨rfl, rfl, rfl, by decide +kernel, rfl, by decide +kernel, by decide +kernel⟩
def b_word_from  : CS := sSeq (sIf (tE (cP2 (inF false) (aE (cP2 ixF (aPk 0) (aPk 1))) (aE (cC k_LETTERS)))) (sRet (cCall fn_letter_word (cCons (cNm 0) (cCons (cNm 1) (cNil))))) (sNil))
    (sRet (cIf (tE (cP2 (inF false) (aE (cP2 ixF (aPk 0) (aPk 1))) (aE (cC k_ONE_SIGNS)))) (cTup (cCons (cC (.str "sign")) (cCons (cP2 ixF (aPk 0) (aPk 1)) (cNil)))) (cTup (cCons (cC (.str "bad")) (cCons (cC (.str "sign")) (cNil))))))
def fn_word_from : Fn := mkFn 2 2 b_word_from
theorem ok_word_from (h : Hd K mg) : DefOk P w K mg base C 3 2 "word_from" fn_word_from := by
  obtain ⟨f, fd, F, hm⟩ := h.d_word_from
  refine def_mk F.fun hm (F.bindsN (ps := ["line", "at"]) fun _ _ _ _ _ _ us hl => match us, hl with | [_, _], _ => rfl) (def_ok F.fun sc_word_from (by decide) fun cdv A outer s H E hr tk hp => ?_)
  exact mss_cons (ms_if (mt_in hr (ma_e (me_ix (ma_pk 0) (ma_pk 1))) (ma_e (me_globE rfl h.k_LETTERS))) (mss_one (ms_ret (me_call (ok_letter_word h) (hr.mono (by decide)) tk rfl (ml_cons (me_nm 0) (ml_cons (me_nm 1) (ml_nil)))))) (mss_nil))
            (mss_one (ms_ret (me_if (mt_in hr (ma_e (me_ix (ma_pk 0) (ma_pk 1))) (ma_e (me_globE rfl h.k_ONE_SIGNS))) (me_tup (ml_cons (me_str) (ml_cons (me_ix (ma_pk 0) (ma_pk 1)) (ml_nil)))) (me_tup (ml_cons (me_str) (ml_cons (me_str) (ml_nil)))))))
def N_words_in : List Str := ["text", "found", "lines", "number", "line", "at", "sort", "letters"]
theorem sc_words_in : FnScope N_words_in ["text"] (defScope (top 9)) := ⟨rfl, rfl, rfl, by decide +kernel, rfl, by decide +kernel, by decide +kernel⟩
def c1_words_in  : CT := tAndT (tE (cP2 ltF (aPk 5) (aE (cP1 lenF (aPk 4))))) (tE (cP2 neF (aE (cP2 ixF (aPk 4) (aPk 5))) (aE (cC (.str "#")))))
def d2_words_in  : CS := sSeq (sIf (tE (cP2 eqF (aE (cP2 ixF (aPk 4) (aPk 5))) (aE (cC (.str " "))))) (sSeq (sAug 5 iaddF (aE (cC (.int 1))))
    (sCt)) (sNil))
    (sSeq (sAsg (gSq 2 (gsC (gN 6) (gsC (gN 7) (gsN)))) (cCall fn_word_from (cCons (cNm 4) (cCons (cNm 5) (cNil)))))
    (sSeq (sExp (cApp 1 (cTup (cCons (cNm 6) (cCons (cNm 7) (cCons (cNm 3) (cCons (cNm 5) (cNil))))))))
    (sSeq (sIf (tE (cP2 eqF (aPk 6) (aE (cC (.str "bad"))))) (sRet (cNm 1)) (sNil))
    (sAug 5 iaddF (aE (cP1 lenF (aPk 7)))))))
def d3_words_in  : CS := sSeq (sSet 4 (cP2 ixF (aPk 2) (aPk 3)))
    (sSeq (sSet 5 (cC (.int 0)))
    (sWhile (c1_words_in) (d2_words_in)))
def b_words_in  : CS := sSeq (sSet 1 (cLst (cNil)))
    (sSeq (sSet 2 (cM1 splitF (aPk 0) (aE (cC (.str "\n")))))
    (sSeq (sFor (iRng1' (cP1 lenF (aPk 2))) (gN 3) (d3_words_in))
    (sSeq (sExp (cApp 1 (cTup (cCons (cC (.str "end")) (cCons (cC (.str "")) (cCons (cP2 subF (aE (cP1 lenF (aPk 2))) (aE (cC (.int 1)))) (cCons (cP1 lenF (aE (cP2 ixF (aPk 2) (aE (cP1 negF (aE (cC (.int 1)))))))) (cNil))))))))
    (sRet (cNm 1)))))
def fn_words_in : Fn := mkFn 1 8 b_words_in
theorem ok_words_in (h : Hd K mg) : DefOk P w K mg base C 4 1 "words_in" fn_words_in := by
  obtain ⟨f, fd, F, hm⟩ := h.d_words_in
  refine def_mk F.fun hm (F.bindsN (ps := ["text"]) fun _ _ _ _ _ _ us hl => match us, hl with | [_], _ => rfl) (def_ok F.fun sc_words_in (by decide) fun cdv A outer s H E hr tk hp => ?_)
  exact mss_cons (ms_set (i := 1) sc_words_in.nd (me_lst (ml_nil)))
            (mss_cons (ms_set (i := 2) sc_words_in.nd (me_split (ma_pk 0) (ma_e (me_str))))
            (mss_cons (ms_for hp rfl (mi_rng1 rfl h.g_range (me_len rfl h.g_len (ma_pk 2))) (mg_name (i := 3) sc_words_in.nd) (mss_cons (ms_set (i := 4) sc_words_in.nd (me_ix (ma_pk 2) (ma_pk 3)))
            (mss_cons (ms_set (i := 5) sc_words_in.nd (me_int))
            (mss_one (ms_while hp (mw_t (mw_and (mt_lt (ma_pk 5) (ma_e (me_len rfl h.g_len (ma_pk 4)))) (mw_and1 (mt_ne hr (ma_e (me_ix (ma_pk 4) (ma_pk 5))) (ma_e (me_str)))))) (mss_cons (ms_if (mt_eq hr (ma_e (me_ix (ma_pk 4) (ma_pk 5))) (ma_e (me_str))) (mss_cons (ms_iadd (i := 5) sc_words_in.nd (ma_e (me_int)))
            (mss_one (ms_ct))) (mss_nil))
            (mss_cons (ms_asg (me_call (ok_word_from h) (hr.mono (by decide)) tk rfl (ml_cons (me_nm 4) (ml_cons (me_nm 5) (ml_nil)))) (mg_seq rfl (mgs_cons (mg_name (i := 6) sc_words_in.nd) (mgs_cons (mg_name (i := 7) sc_words_in.nd) (mgs_nil)))))
            (mss_cons (ms_expr (me_app (i := 1) (me_tup (ml_cons (me_nm 6) (ml_cons (me_nm 7) (ml_cons (me_nm 3) (ml_cons (me_nm 5) (ml_nil))))))))
            (mss_cons (ms_if (mt_eq hr (ma_pk 6) (ma_e (me_str))) (mss_one (ms_ret (me_nm 1))) (mss_nil))
            (mss_one (ms_iadd (i := 5) sc_words_in.nd (ma_e (me_len rfl h.g_len (ma_pk 7))))))))))))))
            (mss_cons (ms_expr (me_app (i := 1) (me_tup (ml_cons (me_str) (ml_cons (me_str) (ml_cons (me_sub (ma_e (me_len rfl h.g_len (ma_pk 2))) (ma_e (me_int))) (ml_cons (me_len rfl h.g_len (ma_e (me_ix (ma_pk 2) (ma_e (me_neg (ma_e (me_int))))))) (ml_nil))))))))
            (mss_one (ms_ret (me_nm 1))))))
def N_words_of : List Str := ["text"]
theorem sc_words_of : FnScope N_words_of ["text"] (defScope (top 10)) := ⟨rfl, rfl, rfl, by decide +kernel, rfl, by decide +kernel, by decide +kernel⟩
def b_words_of  : CS := sSeq (sIf (tNotT (tE (cP1 (isiF .str) (aPk 0)))) (sRet (cTup (cCons (cTup (cCons (cC (.str "bad")) (cCons (cC (.str "text")) (cCons (cC (.int 0)) (cCons (cC (.int 0)) (cNil)))))) (cNil)))) (sNil))
    (sRet (cP1 tupF (aE (cCall fn_words_in (cCons (cNm 0) (cNil))))))
def fn_words_of : Fn := mkFn 1 1 b_words_of
theorem ok_words_of (h : Hd K mg) : DefOk P w K mg base C 5 1 "words_of" fn_words_of := by
  obtain ⟨f, fd, F, hm⟩ := h.d_words_of
  refine def_mk F.fun hm (F.bindsN (ps := ["text"]) fun _ _ _ _ _ _ us hl => match us, hl with | [_], _ => rfl) (def_ok F.fun sc_words_of (by decide) fun cdv A outer s H E hr tk hp => ?_)
  exact mss_cons (ms_if (mt_not (mt_e (me_isa .str h.g_isinstance h.g_str (by decide +kernel) (ma_pk 0)))) (mss_one (ms_ret (me_tup (ml_cons (me_tup (ml_cons (me_str) (ml_cons (me_str) (ml_cons (me_int) (ml_cons (me_int) (ml_nil)))))) (ml_nil))))) (mss_nil))
            (mss_one (ms_ret (me_totup rfl h.g_tuple (ma_e (me_call (ok_words_in h) (hr.mono (by decide)) tk rfl (ml_cons (me_nm 0) (ml_nil)))))))
def N__law_pen : List Str := ["script", "fold", "cell"]
theorem sc__law_pen : FnScope N__law_pen ["script"] (defScope (top 12)) := ⟨rfl, rfl, rfl, by decide +kernel, rfl, by decide +kernel, by decide +kernel⟩
def d1__law_pen  : CS := sSet 1 (cP2 modF (aE (cP1 intF (aE (cP2 addF (aE (cP2 mulF (aPk 1) (aE (cC (.int 59))))) (aPk 2))))) (aE (cC (.int 1000000009))))
def b__law_pen  : CS := sSeq (sSet 1 (cC (.int 0)))
    (sSeq (sFor (iSeq (cNm 0)) (gN 2) (d1__law_pen))
    (sRet (cObj [.inr "cells", .inr "at", .inr "digits", .inr "count", .inr "fold"] (cCons (cP1 listF (aPk 0)) (cCons (cC (.int 0)) (cCons (cC (.int 0)) (cCons (cC (.int 0)) (cCons (cNm 1) (cNil)))))))))
def fn__law_pen : Fn := mkFn 1 3 b__law_pen
theorem ok__law_pen (h : Hd K mg) : DefOk P w K mg base C 1 1 "_law_pen" fn__law_pen := by
  obtain ⟨f, fd, F, hm⟩ := h.d__law_pen
  refine def_mk F.fun hm (F.bindsN (ps := ["script"]) fun _ _ _ _ _ _ us hl => match us, hl with | [_], _ => rfl) (def_ok F.fun sc__law_pen (by decide) fun cdv A outer s H E hr tk hp => ?_)
  exact mss_cons (ms_set (i := 1) sc__law_pen.nd (me_int))
            (mss_cons (ms_for hp rfl (mi_seq (me_nm 0)) (mg_name (i := 2) sc__law_pen.nd) (mss_one (ms_set (i := 1) sc__law_pen.nd (me_mod (ma_e (me_toint rfl h.g_int (ma_e (me_add (ma_e (me_mul (ma_pk 1) (ma_e (me_int)))) (ma_pk 2))))) (ma_e (me_int))))))
            (mss_one (ms_ret (me_obj (mp_cons (me_tolist rfl rfl h.g_list (ma_pk 0)) (mp_cons (me_int) (mp_cons (me_int) (mp_cons (me_int) (mp_cons (me_nm 1) (mp_nil))))))))))
def N__law_draw : List Str := ["pen", "many", "cell", "digit", "blend"]
theorem sc__law_draw : FnScope N__law_draw ["pen", "many"] (defScope (top 13)) := ⟨rfl, rfl, rfl, by decide +kernel, rfl, by decide +kernel, by decide +kernel⟩
def b__law_draw  : CS := sSeq (sPut (aPk 0) (aE (cC (.str "count"))) (cP2 addF (aE (cDGet (aPk 0) (aE (cC (.str "count"))))) (aE (cC (.int 1)))))
    (sSeq (sIf (tAndT (tE (cP2 eqF (aE (cDGet (aPk 0) (aE (cC (.str "digits"))))) (aE (cC (.int 0))))) (tE (cP2 ltF (aE (cDGet (aPk 0) (aE (cC (.str "at"))))) (aE (cP1 lenF (aE (cDGet (aPk 0) (aE (cC (.str "cells")))))))))) (sSeq (sSet 2 (cP2 ixF (aE (cDGet (aPk 0) (aE (cC (.str "cells"))))) (aE (cDGet (aPk 0) (aE (cC (.str "at")))))))
    (sSeq (sPut (aPk 0) (aE (cC (.str "at"))) (cP2 addF (aE (cDGet (aPk 0) (aE (cC (.str "at"))))) (aE (cC (.int 1)))))
    (sIf (tE (cP2 geF (aPk 2) (aE (cP2 powF (aE (cC (.int 10))) (aE (cC (.int 18))))))) (sPut (aPk 0) (aE (cC (.str "digits"))) (cP2 subF (aPk 2) (aE (cP2 powF (aE (cC (.int 10))) (aE (cC (.int 18))))))) (sPut (aPk 0) (aE (cC (.str "fold"))) (cP2 modF (aE (cP1 intF (aE (cP2 addF (aE (cP2 mulF (aE (cDGet (aPk 0) (aE (cC (.str "fold"))))) (aE (cC (.int 48271))))) (aPk 2))))) (aE (cC (.int 2147483563)))))))) (sNil))
    (sSeq (sIf (tE (cP2 gtF (aE (cDGet (aPk 0) (aE (cC (.str "digits"))))) (aE (cC (.int 0))))) (sSeq (sSet 3 (cP2 modF (aE (cP1 intF (aE (cDGet (aPk 0) (aE (cC (.str "digits"))))))) (aPk 1)))
    (sSeq (sPut (aPk 0) (aE (cC (.str "digits"))) (cP2 divF (aE (cDGet (aPk 0) (aE (cC (.str "digits"))))) (aPk 1)))
    (sRet (cNm 3)))) (sNil))
    (sSeq (sSet 4 (cP2 addF (aE (cP2 addF (aE (cDGet (aPk 0) (aE (cC (.str "fold"))))) (aE (cP2 mulF (aE (cDGet (aPk 0) (aE (cC (.str "count"))))) (aE (cC (.int 8513))))))) (aE (cC (.int 61)))))
    (sRet (cP2 modF (aE (cP2 divF (aE (cP1 intF (aE (cP2 modF (aE (cP2 powF (aPk 4) (aE (cC (.int 19))))) (aE (cC (.int 2305843009213693951))))))) (aE (cC (.int 256))))) (aPk 1))))))
def fn__law_draw : Fn := mkFn 2 5 b__law_draw
theorem ok__law_draw (h : Hd K mg) : DefOk P w K mg base C 1 2 "_law_draw" fn__law_draw := by
  obtain ⟨f, fd, F, hm⟩ := h.d__law_draw
  refine def_mk F.fun hm (F.bindsN (ps := ["pen", "many"]) fun _ _ _ _ _ _ us hl => match us, hl with | [_, _], _ => rfl) (def_ok F.fun sc__law_draw (by decide) fun cdv A outer s H E hr tk hp => ?_)
  exact mss_cons (ms_put hr (ma_pk 0) (ma_e (me_str)) (me_add (ma_e (me_dget hr (ma_pk 0) (ma_e (me_str)))) (ma_e (me_int))))
            (mss_cons (ms_if (mw_t (mw_and (mt_eq hr (ma_e (me_dget hr (ma_pk 0) (ma_e (me_str)))) (ma_e (me_int))) (mw_and1 (mt_lt (ma_e (me_dget hr (ma_pk 0) (ma_e (me_str)))) (ma_e (me_len rfl h.g_len (ma_e (me_dget hr (ma_pk 0) (ma_e (me_str)))))))))) (mss_cons (ms_set (i := 2) sc__law_draw.nd (me_ix (ma_e (me_dget hr (ma_pk 0) (ma_e (me_str)))) (ma_e (me_dget hr (ma_pk 0) (ma_e (me_str))))))
            (mss_cons (ms_put hr (ma_pk 0) (ma_e (me_str)) (me_add (ma_e (me_dget hr (ma_pk 0) (ma_e (me_str)))) (ma_e (me_int))))
            (mss_one (ms_if (mt_ge (ma_pk 2) (ma_e (me_pow (ma_e (me_int)) (ma_e (me_int))))) (mss_one (ms_put hr (ma_pk 0) (ma_e (me_str)) (me_sub (ma_pk 2) (ma_e (me_pow (ma_e (me_int)) (ma_e (me_int))))))) (mss_one (ms_put hr (ma_pk 0) (ma_e (me_str)) (me_mod (ma_e (me_toint rfl h.g_int (ma_e (me_add (ma_e (me_mul (ma_e (me_dget hr (ma_pk 0) (ma_e (me_str)))) (ma_e (me_int)))) (ma_pk 2))))) (ma_e (me_int))))))))) (mss_nil))
            (mss_cons (ms_if (mt_gt (ma_e (me_dget hr (ma_pk 0) (ma_e (me_str)))) (ma_e (me_int))) (mss_cons (ms_set (i := 3) sc__law_draw.nd (me_mod (ma_e (me_toint rfl h.g_int (ma_e (me_dget hr (ma_pk 0) (ma_e (me_str)))))) (ma_pk 1)))
            (mss_cons (ms_put hr (ma_pk 0) (ma_e (me_str)) (me_div (ma_e (me_dget hr (ma_pk 0) (ma_e (me_str)))) (ma_pk 1)))
            (mss_one (ms_ret (me_nm 3))))) (mss_nil))
            (mss_cons (ms_set (i := 4) sc__law_draw.nd (me_add (ma_e (me_add (ma_e (me_dget hr (ma_pk 0) (ma_e (me_str)))) (ma_e (me_mul (ma_e (me_dget hr (ma_pk 0) (ma_e (me_str)))) (ma_e (me_int)))))) (ma_e (me_int))))
            (mss_one (ms_ret (me_mod (ma_e (me_div (ma_e (me_toint rfl h.g_int (ma_e (me_mod (ma_e (me_pow (ma_pk 4) (ma_e (me_int)))) (ma_e (me_int)))))) (ma_e (me_int)))) (ma_pk 1)))))))
def N__law_pick : List Str := ["pen", "some"]
theorem sc__law_pick : FnScope N__law_pick ["pen", "some"] (defScope (top 14)) := ⟨rfl, rfl, rfl, by decide +kernel, rfl, by decide +kernel, by decide +kernel⟩
def b__law_pick  : CS := sRet (cP2 ixF (aPk 1) (aE (cCall fn__law_draw (cCons (cNm 0) (cCons (cP1 lenF (aPk 1)) (cNil))))))
def fn__law_pick : Fn := mkFn 2 2 b__law_pick
theorem ok__law_pick (h : Hd K mg) : DefOk P w K mg base C 2 2 "_law_pick" fn__law_pick := by
  obtain ⟨f, fd, F, hm⟩ := h.d__law_pick
  refine def_mk F.fun hm (F.bindsN (ps := ["pen", "some"]) fun _ _ _ _ _ _ us hl => match us, hl with | [_, _], _ => rfl) (def_ok F.fun sc__law_pick (by decide) fun cdv A outer s H E hr tk hp => ?_)
  exact mss_one (ms_ret (me_ix (ma_pk 1) (ma_e (me_call (ok__law_draw h) (hr.mono (by decide)) tk rfl (ml_cons (me_nm 0) (ml_cons (me_len rfl h.g_len (ma_pk 1)) (ml_nil)))))))
def N__law_shuffled : List Str := ["pen", "some", "remain", "found", "lap"]
theorem sc__law_shuffled : FnScope N__law_shuffled ["pen", "some"] (defScope (top 15)) := ⟨rfl, rfl, rfl, by decide +kernel, rfl, by decide +kernel, by decide +kernel⟩
def d1__law_shuffled  : CS := sExp (cApp 3 (cPopAt 2 (cCall fn__law_draw (cCons (cNm 0) (cCons (cP1 lenF (aPk 2)) (cNil))))))
def b__law_shuffled  : CS := sSeq (sPar 2 3 (cP1 listF (aPk 1)) (cLst (cNil)))
    (sSeq (sFor (iRng1' (cP1 lenF (aPk 1))) (gN 4) (d1__law_shuffled))
    (sRet (cNm 3)))
def fn__law_shuffled : Fn := mkFn 2 5 b__law_shuffled
theorem ok__law_shuffled (h : Hd K mg) : DefOk P w K mg base C 2 2 "_law_shuffled" fn__law_shuffled := by
  obtain ⟨f, fd, F, hm⟩ := h.d__law_shuffled
  refine def_mk F.fun hm (F.bindsN (ps := ["pen", "some"]) fun _ _ _ _ _ _ us hl => match us, hl with | [_, _], _ => rfl) (def_ok F.fun sc__law_shuffled (by decide) fun cdv A outer s H E hr tk hp => ?_)
  exact mss_cons (ms_par (i := 2) (j := 3) rfl sc__law_shuffled.nd (me_tolist rfl rfl h.g_list (ma_pk 1)) (me_lst (ml_nil)))
            (mss_cons (ms_for hp rfl (mi_rng1 rfl h.g_range (me_len rfl h.g_len (ma_pk 1))) (mg_name (i := 4) sc__law_shuffled.nd) (mss_one (ms_expr (me_app (i := 3) (me_popAt (i := 2) (me_call (ok__law_draw h) (hr.mono (by decide)) tk rfl (ml_cons (me_nm 0) (ml_cons (me_len rfl h.g_len (ma_pk 2)) (ml_nil)))))))))
            (mss_one (ms_ret (me_nm 3))))
def N__law_is_int : List Str := ["thing"]
theorem sc__law_is_int : FnScope N__law_is_int ["thing"] (defScope (top 16)) := ⟨rfl, rfl, rfl, by decide +kernel, rfl, by decide +kernel, by decide +kernel⟩
def b__law_is_int  : CS := sRet (cAnd (cP1 (isiF .int) (aPk 0)) (cNot (cP1 (isiF .bool) (aPk 0))))
def fn__law_is_int : Fn := mkFn 1 1 b__law_is_int
theorem ok__law_is_int (h : Hd K mg) : DefOk P w K mg base C 1 1 "_law_is_int" fn__law_is_int := by
  obtain ⟨f, fd, F, hm⟩ := h.d__law_is_int
  refine def_mk F.fun hm (F.bindsN (ps := ["thing"]) fun _ _ _ _ _ _ us hl => match us, hl with | [_], _ => rfl) (def_ok F.fun sc__law_is_int (by decide) fun cdv A outer s H E hr tk hp => ?_)
  exact mss_one (ms_ret (me_and (me_isa .int h.g_isinstance h.g_int (by decide +kernel) (ma_pk 0)) (me_one (me_not (me_isa .bool h.g_isinstance h.g_bool (by decide +kernel) (ma_pk 0))))))
def N__law_body_drawn : List Str := ["pen", "names", "procs", "many", "storeys", "lap"]
theorem sc__law_body_drawn : FnScope N__law_body_drawn ["pen", "names", "procs", "many", "storeys"] (defScope (top 18)) := ⟨rfl, rfl, rfl, by decide +kernel, rfl, by decide +kernel, by decide +kernel⟩
def l1__law_body_drawn (r__law_body_drawn : Fn) (r__law_statement_drawn : Fn) : CE := cCall r__law_statement_drawn (cCons (cNm 0) (cCons (cNm 1) (cCons (cNm 2) (cCons (cNm 4) (cNil)))))
def b__law_body_drawn (r__law_body_drawn : Fn) (r__law_statement_drawn : Fn) : CS := sRet (cP1 tupF (aE (cLc [5] (iRng1' (cNm 3)) (gN 5) (tY) (l1__law_body_drawn r__law_body_drawn r__law_statement_drawn))))
def N__law_statement_drawn : List Str := ["pen", "names", "procs", "storeys", "x", "y", "way", "name", "many", "gives", "lap"]
theorem sc__law_statement_drawn : FnScope N__law_statement_drawn ["pen", "names", "procs", "storeys"] (defScope (top 17)) := ⟨rfl, rfl, rfl, by decide +kernel, rfl, by decide +kernel, by decide +kernel⟩
def l1__law_statement_drawn (r__law_body_drawn : Fn) (r__law_statement_drawn : Fn) : CE := cCall fn__law_pick (cCons (cNm 0) (cCons (cNm 1) (cNil)))
def b__law_statement_drawn (r__law_body_drawn : Fn) (r__law_statement_drawn : Fn) : CS := sSeq (sAsg (gSq 2 (gsC (gN 4) (gsC (gN 5) (gsN)))) (cP2 slHiF (aE (cCall fn__law_shuffled (cCons (cNm 0) (cCons (cNm 1) (cNil))))) (aE (cC (.int 2)))))
    (sSeq (sSet 6 (cIf (tE (cP2 gtF (aPk 3) (aE (cC (.int 0))))) (cCall fn__law_draw (cCons (cNm 0) (cCons (cC (.int 16)) (cNil)))) (cCall fn__law_draw (cCons (cNm 0) (cCons (cC (.int 13)) (cNil))))))
    (sSeq (sIf (tE (cP2 ltF (aPk 6) (aE (cC (.int 4))))) (sRet (cP2 ixF (aE (cTup (cCons (cTup (cCons (cC (.str "new")) (cCons (cNm 4) (cNil)))) (cCons (cTup (cCons (cC (.str "look")) (cCons (cNm 4) (cCons (cNm 5) (cNil))))) (cCons (cTup (cCons (cC (.str "only")) (cCons (cNm 4) (cCons (cNm 5) (cNil))))) (cCons (cTup (cCons (cC (.str "move")) (cCons (cNm 4) (cCons (cNm 5) (cNil))))) (cNil))))))) (aPk 6))) (sNil))
    (sSeq (sIf (tE (cP2 ltF (aPk 6) (aE (cC (.int 9))))) (sRet (cP2 ixF (aE (cTup (cCons (cTup (cCons (cC (.str "use")) (cCons (cNm 4) (cNil)))) (cCons (cTup (cCons (cC (.str "use")) (cCons (cNm 4) (cNil)))) (cCons (cTup (cCons (cC (.str "set")) (cCons (cNm 4) (cNil)))) (cCons (cTup (cCons (cC (.str "drop")) (cCons (cNm 4) (cNil)))) (cCons (cTup (cCons (cC (.str "new")) (cCons (cNm 4) (cNil)))) (cNil)))))))) (aE (cP2 subF (aPk 6) (aE (cC (.int 4))))))) (sNil))
    (sSeq (sIf (tE (cP2 ltF (aPk 6) (aE (cC (.int 13))))) (sSeq (sIf (tE (cP2 eqF (aPk 2) (aE (cLst (cNil))))) (sRet (cCall fn__law_pick (cCons (cNm 0) (cCons (cLst (cCons (cTup (cCons (cC (.str "use")) (cCons (cNm 5) (cNil)))) (cCons (cTup (cCons (cC (.str "look")) (cCons (cNm 4) (cCons (cNm 5) (cNil))))) (cCons (cTup (cCons (cC (.str "only")) (cCons (cNm 4) (cCons (cNm 5) (cNil))))) (cNil))))) (cNil))))) (sNil))
    (sSeq (sAsg (gSq 3 (gsC (gN 7) (gsC (gN 8) (gsC (gN 9) (gsN))))) (cCall fn__law_pick (cCons (cNm 0) (cCons (cNm 2) (cNil)))))
    (sRet (cTup (cCons (cC (.str "call")) (cCons (cIf (tAndT (tE (cNm 9)) (tE (cP2 gtF (aE (cCall fn__law_draw (cCons (cNm 0) (cCons (cC (.int 3)) (cNil))))) (aE (cC (.int 0)))))) (cNm 4) (cC (.str ""))) (cCons (cNm 7) (cCons (cP1 tupF (aE (cLc [10] (iRng1' (cNm 8)) (gN 10) (tY) (l1__law_statement_drawn r__law_body_drawn r__law_statement_drawn)))) (cNil))))))))) (sNil))
    (sSeq (sIf (tE (cP2 eqF (aPk 6) (aE (cC (.int 15))))) (sRet (cTup (cCons (cC (.str "loop")) (cCons (cCall r__law_body_drawn (cCons (cNm 0) (cCons (cNm 1) (cCons (cNm 2) (cCons (cP2 addF (aE (cC (.int 1))) (aE (cCall fn__law_draw (cCons (cNm 0) (cCons (cC (.int 2)) (cNil)))))) (cCons (cP2 subF (aPk 3) (aE (cC (.int 1)))) (cNil))))))) (cNil))))) (sNil))
    (sRet (cTup (cCons (cC (.str "either")) (cCons (cCall r__law_body_drawn (cCons (cNm 0) (cCons (cNm 1) (cCons (cNm 2) (cCons (cCall fn__law_draw (cCons (cNm 0) (cCons (cC (.int 3)) (cNil)))) (cCons (cP2 subF (aPk 3) (aE (cC (.int 1)))) (cNil))))))) (cCons (cCall r__law_body_drawn (cCons (cNm 0) (cCons (cNm 1) (cCons (cNm 2) (cCons (cCall fn__law_draw (cCons (cNm 0) (cCons (cC (.int 2)) (cNil)))) (cCons (cP2 subF (aPk 3) (aE (cC (.int 1)))) (cNil))))))) (cNil)))))))))))
def fuel__law_body_drawn : Nat := 12
mutual
def fn__law_body_drawn : Nat → Fn
  | 0 => fun _ _ => .no
  | n + 1 => mkFn 5 6 (b__law_body_drawn (fn__law_body_drawn n) (fn__law_statement_drawn n))
def fn__law_statement_drawn : Nat → Fn
  | 0 => fun _ _ => .no
  | n + 1 => mkFn 4 11 (b__law_statement_drawn (fn__law_body_drawn n) (fn__law_statement_drawn n))
end
theorem oks__law_body_drawn (h : Hd K mg) : ∀ n : Nat, DefOk P w K mg base C (2 + n) 5 "_law_body_drawn" (fn__law_body_drawn n) ∧ DefOk P w K mg base C (2 + n) 4 "_law_statement_drawn" (fn__law_statement_drawn n)
  | 0 => ⟨(by
      obtain ⟨f, fd, F, hm⟩ := h.d__law_body_drawn
      exact def_no F.fun hm (F.bindsN (ps := ["pen", "names", "procs", "many", "storeys"]) fun _ _ _ _ _ _ us hl => match us, hl with | [_, _, _, _, _], _ => rfl)), (by
      obtain ⟨f, fd, F, hm⟩ := h.d__law_statement_drawn
      exact def_no F.fun hm (F.bindsN (ps := ["pen", "names", "procs", "storeys"]) fun _ _ _ _ _ _ us hl => match us, hl with | [_, _, _, _], _ => rfl))⟩
  | n + 1 => by
    obtain ⟨o__law_body_drawn, o__law_statement_drawn⟩ := oks__law_body_drawn h n
    exact ⟨(by
      obtain ⟨f, fd, F, hm⟩ := h.d__law_body_drawn
      refine def_mk F.fun hm (F.bindsN (ps := ["pen", "names", "procs", "many", "storeys"]) fun _ _ _ _ _ _ us hl => match us, hl with | [_, _, _, _, _], _ => rfl) (def_ok F.fun sc__law_body_drawn (by decide) fun cdv A outer s H E hr tk hp => ?_)
      exact mss_one (ms_ret (me_totup rfl h.g_tuple (ma_e (me_lc rfl sc__law_body_drawn.nd (mi_rng1 rfl h.g_range (me_nm 3)) (ow := [("lap", 5)]) (show BlkOk N__law_body_drawn (defScope (top 18)) _ _ from ⟨rfl, by decide +kernel, by decide +kernel, by decide +kernel, by decide +kernel⟩) (by decide) (fun _ _ _ _ _ => mg_name (i := 5) sc__law_body_drawn.nd) (fun _ _ _ _ _ => mts_nil) (fun _ _ _ _ _ => me_call o__law_statement_drawn hr takes0 rfl (ml_cons (me_nm 0) (ml_cons (me_nm 1) (ml_cons (me_nm 2) (ml_cons (me_nm 4) (ml_nil))))))))))), (by
      obtain ⟨f, fd, F, hm⟩ := h.d__law_statement_drawn
      refine def_mk F.fun hm (F.bindsN (ps := ["pen", "names", "procs", "storeys"]) fun _ _ _ _ _ _ us hl => match us, hl with | [_, _, _, _], _ => rfl) (def_ok F.fun sc__law_statement_drawn (by decide) fun cdv A outer s H E hr tk hp => ?_)
      exact mss_cons (ms_asg (me_slHi (ma_e (me_call (ok__law_shuffled h) (hr.mono (Nat.le_trans (by decide) (Nat.le_add_right 2 _))) tk rfl (ml_cons (me_nm 0) (ml_cons (me_nm 1) (ml_nil))))) (ma_e (me_int))) (mg_seq rfl (mgs_cons (mg_name (i := 4) sc__law_statement_drawn.nd) (mgs_cons (mg_name (i := 5) sc__law_statement_drawn.nd) (mgs_nil)))))
            (mss_cons (ms_set (i := 6) sc__law_statement_drawn.nd (me_if (mt_gt (ma_pk 3) (ma_e (me_int))) (me_call (ok__law_draw h) (hr.mono (Nat.le_trans (by decide) (Nat.le_add_right 2 _))) tk rfl (ml_cons (me_nm 0) (ml_cons (me_int) (ml_nil)))) (me_call (ok__law_draw h) (hr.mono (Nat.le_trans (by decide) (Nat.le_add_right 2 _))) tk rfl (ml_cons (me_nm 0) (ml_cons (me_int) (ml_nil))))))
            (mss_cons (ms_if (mt_lt (ma_pk 6) (ma_e (me_int))) (mss_one (ms_ret (me_ix (ma_e (me_tup (ml_cons (me_tup (ml_cons (me_str) (ml_cons (me_nm 4) (ml_nil)))) (ml_cons (me_tup (ml_cons (me_str) (ml_cons (me_nm 4) (ml_cons (me_nm 5) (ml_nil))))) (ml_cons (me_tup (ml_cons (me_str) (ml_cons (me_nm 4) (ml_cons (me_nm 5) (ml_nil))))) (ml_cons (me_tup (ml_cons (me_str) (ml_cons (me_nm 4) (ml_cons (me_nm 5) (ml_nil))))) (ml_nil))))))) (ma_pk 6)))) (mss_nil))
            (mss_cons (ms_if (mt_lt (ma_pk 6) (ma_e (me_int))) (mss_one (ms_ret (me_ix (ma_e (me_tup (ml_cons (me_tup (ml_cons (me_str) (ml_cons (me_nm 4) (ml_nil)))) (ml_cons (me_tup (ml_cons (me_str) (ml_cons (me_nm 4) (ml_nil)))) (ml_cons (me_tup (ml_cons (me_str) (ml_cons (me_nm 4) (ml_nil)))) (ml_cons (me_tup (ml_cons (me_str) (ml_cons (me_nm 4) (ml_nil)))) (ml_cons (me_tup (ml_cons (me_str) (ml_cons (me_nm 4) (ml_nil)))) (ml_nil)))))))) (ma_e (me_sub (ma_pk 6) (ma_e (me_int))))))) (mss_nil))
            (mss_cons (ms_if (mt_lt (ma_pk 6) (ma_e (me_int))) (mss_cons (ms_if (mt_eq hr (ma_pk 2) (ma_e (me_lst (ml_nil)))) (mss_one (ms_ret (me_call (ok__law_pick h) (hr.mono (Nat.le_trans (by decide) (Nat.le_add_right 2 _))) tk rfl (ml_cons (me_nm 0) (ml_cons (me_lst (ml_cons (me_tup (ml_cons (me_str) (ml_cons (me_nm 5) (ml_nil)))) (ml_cons (me_tup (ml_cons (me_str) (ml_cons (me_nm 4) (ml_cons (me_nm 5) (ml_nil))))) (ml_cons (me_tup (ml_cons (me_str) (ml_cons (me_nm 4) (ml_cons (me_nm 5) (ml_nil))))) (ml_nil))))) (ml_nil)))))) (mss_nil))
            (mss_cons (ms_asg (me_call (ok__law_pick h) (hr.mono (Nat.le_trans (by decide) (Nat.le_add_right 2 _))) tk rfl (ml_cons (me_nm 0) (ml_cons (me_nm 2) (ml_nil)))) (mg_seq rfl (mgs_cons (mg_name (i := 7) sc__law_statement_drawn.nd) (mgs_cons (mg_name (i := 8) sc__law_statement_drawn.nd) (mgs_cons (mg_name (i := 9) sc__law_statement_drawn.nd) (mgs_nil))))))
            (mss_one (ms_ret (me_tup (ml_cons (me_str) (ml_cons (me_if (mw_t (mw_and (mt_e (me_nm 9)) (mw_and1 (mt_gt (ma_e (me_call (ok__law_draw h) (hr.mono (Nat.le_trans (by decide) (Nat.le_add_right 2 _))) tk rfl (ml_cons (me_nm 0) (ml_cons (me_int) (ml_nil))))) (ma_e (me_int)))))) (me_nm 4) (me_str)) (ml_cons (me_nm 7) (ml_cons (me_totup rfl h.g_tuple (ma_e (me_lc rfl sc__law_statement_drawn.nd (mi_rng1 rfl h.g_range (me_nm 8)) (ow := [("lap", 10)]) (show BlkOk N__law_statement_drawn (defScope (top 17)) _ _ from ⟨rfl, by decide +kernel, by decide +kernel, by decide +kernel, by decide +kernel⟩) (by decide) (fun _ _ _ _ _ => mg_name (i := 10) sc__law_statement_drawn.nd) (fun _ _ _ _ _ => mts_nil) (fun _ _ _ _ _ => me_call (ok__law_pick h) (hr.mono (Nat.le_trans (by decide) (Nat.le_add_right 2 _))) takes0 rfl (ml_cons (me_nm 0) (ml_cons (me_nm 1) (ml_nil))))))) (ml_nil)))))))))) (mss_nil))
            (mss_cons (ms_if (mt_eq hr (ma_pk 6) (ma_e (me_int))) (mss_one (ms_ret (me_tup (ml_cons (me_str) (ml_cons (me_call o__law_body_drawn hr tk rfl (ml_cons (me_nm 0) (ml_cons (me_nm 1) (ml_cons (me_nm 2) (ml_cons (me_add (ma_e (me_int)) (ma_e (me_call (ok__law_draw h) (hr.mono (Nat.le_trans (by decide) (Nat.le_add_right 2 _))) tk rfl (ml_cons (me_nm 0) (ml_cons (me_int) (ml_nil)))))) (ml_cons (me_sub (ma_pk 3) (ma_e (me_int))) (ml_nil))))))) (ml_nil)))))) (mss_nil))
            (mss_one (ms_ret (me_tup (ml_cons (me_str) (ml_cons (me_call o__law_body_drawn hr tk rfl (ml_cons (me_nm 0) (ml_cons (me_nm 1) (ml_cons (me_nm 2) (ml_cons (me_call (ok__law_draw h) (hr.mono (Nat.le_trans (by decide) (Nat.le_add_right 2 _))) tk rfl (ml_cons (me_nm 0) (ml_cons (me_int) (ml_nil)))) (ml_cons (me_sub (ma_pk 3) (ma_e (me_int))) (ml_nil))))))) (ml_cons (me_call o__law_body_drawn hr tk rfl (ml_cons (me_nm 0) (ml_cons (me_nm 1) (ml_cons (me_nm 2) (ml_cons (me_call (ok__law_draw h) (hr.mono (Nat.le_trans (by decide) (Nat.le_add_right 2 _))) tk rfl (ml_cons (me_nm 0) (ml_cons (me_int) (ml_nil)))) (ml_cons (me_sub (ma_pk 3) (ma_e (me_int))) (ml_nil))))))) (ml_nil)))))))))))))⟩
theorem ok__law_body_drawn (h : Hd K mg) (n : Nat) : DefOk P w K mg base C (2 + n) 5 "_law_body_drawn" (fn__law_body_drawn n) := (oks__law_body_drawn h n).1
theorem ok__law_statement_drawn (h : Hd K mg) (n : Nat) : DefOk P w K mg base C (2 + n) 4 "_law_statement_drawn" (fn__law_statement_drawn n) := (oks__law_body_drawn h n).2
def N__law_begun : List Str := ["pen", "names", "x", "y", "z", "some"]
theorem sc__law_begun : FnScope N__law_begun ["pen", "names"] (defScope (top 19)) := ⟨rfl, rfl, rfl, by decide +kernel, rfl, by decide +kernel, by decide +kernel⟩
def b__law_begun  : CS := sSeq (sAsg (gSq 3 (gsC (gN 2) (gsC (gN 3) (gsC (gN 4) (gsN))))) (cP2 slHiF (aE (cP2 mulF (aE (cP1 listF (aE (cCall fn__law_shuffled (cCons (cNm 0) (cCons (cNm 1) (cNil))))))) (aE (cC (.int 2))))) (aE (cC (.int 3)))))
    (sSeq (sSet 5 (cLst (cCons (cTup (cCons (cTup (cCons (cC (.str "new")) (cCons (cNm 2) (cNil)))) (cNil))) (cCons (cTup (cCons (cTup (cCons (cC (.str "new")) (cCons (cNm 2) (cNil)))) (cCons (cTup (cCons (cC (.str "look")) (cCons (cNm 3) (cCons (cNm 2) (cNil))))) (cNil)))) (cCons (cTup (cCons (cTup (cCons (cC (.str "new")) (cCons (cNm 2) (cNil)))) (cCons (cTup (cCons (cC (.str "only")) (cCons (cNm 3) (cCons (cNm 2) (cNil))))) (cNil)))) (cCons (cTup (cCons (cTup (cCons (cC (.str "new")) (cCons (cNm 2) (cNil)))) (cCons (cTup (cCons (cC (.str "new")) (cCons (cNm 3) (cNil)))) (cNil)))) (cNil)))))))
    (sSeq (sIf (tE (cP2 (inF true) (aPk 4) (aE (cTup (cCons (cNm 2) (cCons (cNm 3) (cNil))))))) (sSet 5 (cP2 addF (aPk 5) (aE (cLst (cCons (cTup (cCons (cTup (cCons (cC (.str "new")) (cCons (cNm 2) (cNil)))) (cCons (cTup (cCons (cC (.str "look")) (cCons (cNm 3) (cCons (cNm 2) (cNil))))) (cCons (cTup (cCons (cC (.str "look")) (cCons (cNm 4) (cCons (cNm 2) (cNil))))) (cNil))))) (cCons (cTup (cCons (cTup (cCons (cC (.str "new")) (cCons (cNm 2) (cNil)))) (cCons (cTup (cCons (cC (.str "only")) (cCons (cNm 3) (cCons (cNm 2) (cNil))))) (cCons (cTup (cCons (cC (.str "only")) (cCons (cNm 4) (cCons (cNm 3) (cNil))))) (cNil))))) (cCons (cTup (cCons (cTup (cCons (cC (.str "new")) (cCons (cNm 2) (cNil)))) (cCons (cTup (cCons (cC (.str "only")) (cCons (cNm 3) (cCons (cNm 2) (cNil))))) (cCons (cTup (cCons (cC (.str "look")) (cCons (cNm 4) (cCons (cNm 3) (cNil))))) (cNil))))) (cNil)))))))) (sNil))
    (sRet (cCall fn__law_pick (cCons (cNm 0) (cCons (cNm 5) (cNil)))))))
def fn__law_begun : Fn := mkFn 2 6 b__law_begun
theorem ok__law_begun (h : Hd K mg) : DefOk P w K mg base C 3 2 "_law_begun" fn__law_begun := by
  obtain ⟨f, fd, F, hm⟩ := h.d__law_begun
  refine def_mk F.fun hm (F.bindsN (ps := ["pen", "names"]) fun _ _ _ _ _ _ us hl => match us, hl with | [_, _], _ => rfl) (def_ok F.fun sc__law_begun (by decide) fun cdv A outer s H E hr tk hp => ?_)
  exact mss_cons (ms_asg (me_slHi (ma_e (me_mul (ma_e (me_tolist rfl rfl h.g_list (ma_e (me_call (ok__law_shuffled h) (hr.mono (by decide)) tk rfl (ml_cons (me_nm 0) (ml_cons (me_nm 1) (ml_nil))))))) (ma_e (me_int)))) (ma_e (me_int))) (mg_seq rfl (mgs_cons (mg_name (i := 2) sc__law_begun.nd) (mgs_cons (mg_name (i := 3) sc__law_begun.nd) (mgs_cons (mg_name (i := 4) sc__law_begun.nd) (mgs_nil))))))
            (mss_cons (ms_set (i := 5) sc__law_begun.nd (me_lst (ml_cons (me_tup (ml_cons (me_tup (ml_cons (me_str) (ml_cons (me_nm 2) (ml_nil)))) (ml_nil))) (ml_cons (me_tup (ml_cons (me_tup (ml_cons (me_str) (ml_cons (me_nm 2) (ml_nil)))) (ml_cons (me_tup (ml_cons (me_str) (ml_cons (me_nm 3) (ml_cons (me_nm 2) (ml_nil))))) (ml_nil)))) (ml_cons (me_tup (ml_cons (me_tup (ml_cons (me_str) (ml_cons (me_nm 2) (ml_nil)))) (ml_cons (me_tup (ml_cons (me_str) (ml_cons (me_nm 3) (ml_cons (me_nm 2) (ml_nil))))) (ml_nil)))) (ml_cons (me_tup (ml_cons (me_tup (ml_cons (me_str) (ml_cons (me_nm 2) (ml_nil)))) (ml_cons (me_tup (ml_cons (me_str) (ml_cons (me_nm 3) (ml_nil)))) (ml_nil)))) (ml_nil)))))))
            (mss_cons (ms_if (mt_notin hr (ma_pk 4) (ma_e (me_tup (ml_cons (me_nm 2) (ml_cons (me_nm 3) (ml_nil)))))) (mss_one (ms_set (i := 5) sc__law_begun.nd (me_add (ma_pk 5) (ma_e (me_lst (ml_cons (me_tup (ml_cons (me_tup (ml_cons (me_str) (ml_cons (me_nm 2) (ml_nil)))) (ml_cons (me_tup (ml_cons (me_str) (ml_cons (me_nm 3) (ml_cons (me_nm 2) (ml_nil))))) (ml_cons (me_tup (ml_cons (me_str) (ml_cons (me_nm 4) (ml_cons (me_nm 2) (ml_nil))))) (ml_nil))))) (ml_cons (me_tup (ml_cons (me_tup (ml_cons (me_str) (ml_cons (me_nm 2) (ml_nil)))) (ml_cons (me_tup (ml_cons (me_str) (ml_cons (me_nm 3) (ml_cons (me_nm 2) (ml_nil))))) (ml_cons (me_tup (ml_cons (me_str) (ml_cons (me_nm 4) (ml_cons (me_nm 3) (ml_nil))))) (ml_nil))))) (ml_cons (me_tup (ml_cons (me_tup (ml_cons (me_str) (ml_cons (me_nm 2) (ml_nil)))) (ml_cons (me_tup (ml_cons (me_str) (ml_cons (me_nm 3) (ml_cons (me_nm 2) (ml_nil))))) (ml_cons (me_tup (ml_cons (me_str) (ml_cons (me_nm 4) (ml_cons (me_nm 3) (ml_nil))))) (ml_nil))))) (ml_nil))))))))) (mss_nil))
            (mss_one (ms_ret (me_call (ok__law_pick h) (hr.mono (by decide)) tk rfl (ml_cons (me_nm 0) (ml_cons (me_nm 5) (ml_nil))))))))
def N__law_book_of_sizes : List Str := ["pen", "many", "size", "names", "heads", "found", "name", "count", "gives", "own", "body"]
theorem sc__law_book_of_sizes : FnScope N__law_book_of_sizes ["pen", "many", "size", "names"] (defScope (top 20)) := ⟨rfl, rfl, rfl, by decide +kernel, rfl, by decide +kernel, by decide +kernel⟩
def d1__law_book_of_sizes  : CS := sSeq (sSet 9 (cCall fn__law_shuffled (cCons (cNm 0) (cCons (cNm 3) (cNil)))))
    (sSeq (sSet 10 (cCall (fn__law_body_drawn fuel__law_body_drawn) (cCons (cNm 0) (cCons (cNm 3) (cCons (cNm 4) (cCons (cCall fn__law_draw (cCons (cNm 0) (cCons (cNm 2) (cNil)))) (cCons (cC (.int 1)) (cNil))))))))
    (sSet 5 (cP2 addF (aPk 5) (aE (cTup (cCons (cTup (cCons (cNm 6) (cCons (cP1 tupF (aE (cP2 slHiF (aPk 9) (aPk 7)))) (cCons (cNm 10) (cCons (cIf (tE (cNm 8)) (cCall fn__law_pick (cCons (cNm 0) (cCons (cP2 addF (aE (cP2 slHiF (aPk 9) (aE (cP2 maxF (aPk 7) (aE (cC (.int 1))))))) (aE (cP2 slHiF (aPk 9) (aE (cC (.int 2)))))) (cNil)))) (cC (.str ""))) (cNil)))))) (cNil)))))))
def b__law_book_of_sizes  : CS := sSeq (sSet 3 (cIf (tE (cP2 gtF (aE (cCall fn__law_draw (cCons (cNm 0) (cCons (cC (.int 4)) (cNil))))) (aE (cC (.int 0))))) (cNm 3) (cP2 slHiF (aE (cCall fn__law_shuffled (cCons (cNm 0) (cCons (cLst (cCons (cC (.str "fresh")) (cCons (cC (.str "is")) (cCons (cC (.str "gone")) (cCons (cC (.str "over")) (cCons (cC (.str "same")) (cCons (cC (.str "none")) (cCons (cC (.str "root")) (cCons (cC (.str "looks")) (cCons (cC (.str "arg")) (cCons (cC (.str "item")) (cCons (cC (.str "start")) (cCons (cC (.str "lent")) (cNil)))))))))))))) (cNil))))) (aE (cP1 lenF (aPk 3))))))
    (sSeq (sSet 4 (cP2 slHiF (aE (cLst (cCons (cTup (cCons (cC (.str "f")) (cCons (cP2 addF (aE (cC (.int 1))) (aE (cCall fn__law_draw (cCons (cNm 0) (cCons (cC (.int 2)) (cNil)))))) (cCons (cP2 eqF (aE (cCall fn__law_draw (cCons (cNm 0) (cCons (cC (.int 2)) (cNil))))) (aE (cC (.int 0)))) (cNil))))) (cCons (cTup (cCons (cC (.str "g")) (cCons (cCall fn__law_draw (cCons (cNm 0) (cCons (cC (.int 3)) (cNil)))) (cCons (cP2 eqF (aE (cCall fn__law_draw (cCons (cNm 0) (cCons (cC (.int 2)) (cNil))))) (aE (cC (.int 0)))) (cNil))))) (cCons (cTup (cCons (cC (.str "far")) (cCons (cC (.int 1)) (cCons (cC (.bl true)) (cNil))))) (cNil)))))) (aPk 1)))
    (sSeq (sSet 5 (cTup (cCons (cTup (cCons (cC (.str "main")) (cCons (cTup (cNil)) (cCons (cP2 addF (aE (cCall fn__law_begun (cCons (cNm 0) (cCons (cNm 3) (cNil))))) (aE (cCall (fn__law_body_drawn fuel__law_body_drawn) (cCons (cNm 0) (cCons (cNm 3) (cCons (cNm 4) (cCons (cP2 addF (aE (cC (.int 1))) (aE (cCall fn__law_draw (cCons (cNm 0) (cCons (cNm 2) (cNil)))))) (cCons (cC (.int 2)) (cNil))))))))) (cCons (cCall fn__law_pick (cCons (cNm 0) (cCons (cLst (cCons (cC (.str "")) (cCons (cC (.str "")) (cCons (cC (.str "")) (cCons (cP2 ixF (aPk 3) (aE (cC (.int 0)))) (cNil)))))) (cNil)))) (cNil)))))) (cNil))))
    (sSeq (sFor (iSeq (cNm 4)) (gSq 3 (gsC (gN 6) (gsC (gN 7) (gsC (gN 8) (gsN))))) (d1__law_book_of_sizes))
    (sRet (cTup (cCons (cP1 tupF (aE (cCall fn__law_shuffled (cCons (cNm 0) (cCons (cP1 listF (aPk 5)) (cNil)))))) (cNil)))))))
def fn__law_book_of_sizes : Fn := mkFn 4 11 b__law_book_of_sizes
theorem ok__law_book_of_sizes (h : Hd K mg) : DefOk P w K mg base C 16 4 "_law_book_of_sizes" fn__law_book_of_sizes := by
  obtain ⟨f, fd, F, hm⟩ := h.d__law_book_of_sizes
  refine def_mk F.fun hm (F.bindsN (ps := ["pen", "many", "size", "names"]) fun _ _ _ _ _ _ us hl => match us, hl with | [_, _, _, _], _ => rfl) (def_ok F.fun sc__law_book_of_sizes (by decide) fun cdv A outer s H E hr tk hp => ?_)
  exact mss_cons (ms_set (i := 3) sc__law_book_of_sizes.nd (me_if (mt_gt (ma_e (me_call (ok__law_draw h) (hr.mono (by decide)) tk rfl (ml_cons (me_nm 0) (ml_cons (me_int) (ml_nil))))) (ma_e (me_int))) (me_nm 3) (me_slHi (ma_e (me_call (ok__law_shuffled h) (hr.mono (by decide)) tk rfl (ml_cons (me_nm 0) (ml_cons (me_lst (ml_cons (me_str) (ml_cons (me_str) (ml_cons (me_str) (ml_cons (me_str) (ml_cons (me_str) (ml_cons (me_str) (ml_cons (me_str) (ml_cons (me_str) (ml_cons (me_str) (ml_cons (me_str) (ml_cons (me_str) (ml_cons (me_str) (ml_nil)))))))))))))) (ml_nil))))) (ma_e (me_len rfl h.g_len (ma_pk 3))))))
            (mss_cons (ms_set (i := 4) sc__law_book_of_sizes.nd (me_slHi (ma_e (me_lst (ml_cons (me_tup (ml_cons (me_str) (ml_cons (me_add (ma_e (me_int)) (ma_e (me_call (ok__law_draw h) (hr.mono (by decide)) tk rfl (ml_cons (me_nm 0) (ml_cons (me_int) (ml_nil)))))) (ml_cons (me_eq hr (ma_e (me_call (ok__law_draw h) (hr.mono (by decide)) tk rfl (ml_cons (me_nm 0) (ml_cons (me_int) (ml_nil))))) (ma_e (me_int))) (ml_nil))))) (ml_cons (me_tup (ml_cons (me_str) (ml_cons (me_call (ok__law_draw h) (hr.mono (by decide)) tk rfl (ml_cons (me_nm 0) (ml_cons (me_int) (ml_nil)))) (ml_cons (me_eq hr (ma_e (me_call (ok__law_draw h) (hr.mono (by decide)) tk rfl (ml_cons (me_nm 0) (ml_cons (me_int) (ml_nil))))) (ma_e (me_int))) (ml_nil))))) (ml_cons (me_tup (ml_cons (me_str) (ml_cons (me_int) (ml_cons (me_bl) (ml_nil))))) (ml_nil)))))) (ma_pk 1)))
            (mss_cons (ms_set (i := 5) sc__law_book_of_sizes.nd (me_tup (ml_cons (me_tup (ml_cons (me_str) (ml_cons (me_tup (ml_nil)) (ml_cons (me_add (ma_e (me_call (ok__law_begun h) (hr.mono (by decide)) tk rfl (ml_cons (me_nm 0) (ml_cons (me_nm 3) (ml_nil))))) (ma_e (me_call (ok__law_body_drawn h fuel__law_body_drawn) (hr.mono (by decide)) tk rfl (ml_cons (me_nm 0) (ml_cons (me_nm 3) (ml_cons (me_nm 4) (ml_cons (me_add (ma_e (me_int)) (ma_e (me_call (ok__law_draw h) (hr.mono (by decide)) tk rfl (ml_cons (me_nm 0) (ml_cons (me_nm 2) (ml_nil)))))) (ml_cons (me_int) (ml_nil))))))))) (ml_cons (me_call (ok__law_pick h) (hr.mono (by decide)) tk rfl (ml_cons (me_nm 0) (ml_cons (me_lst (ml_cons (me_str) (ml_cons (me_str) (ml_cons (me_str) (ml_cons (me_ix (ma_pk 3) (ma_e (me_int))) (ml_nil)))))) (ml_nil)))) (ml_nil)))))) (ml_nil))))
            (mss_cons (ms_for hp rfl (mi_seq (me_nm 4)) (mg_seq rfl (mgs_cons (mg_name (i := 6) sc__law_book_of_sizes.nd) (mgs_cons (mg_name (i := 7) sc__law_book_of_sizes.nd) (mgs_cons (mg_name (i := 8) sc__law_book_of_sizes.nd) (mgs_nil))))) (mss_cons (ms_set (i := 9) sc__law_book_of_sizes.nd (me_call (ok__law_shuffled h) (hr.mono (by decide)) tk rfl (ml_cons (me_nm 0) (ml_cons (me_nm 3) (ml_nil)))))
            (mss_cons (ms_set (i := 10) sc__law_book_of_sizes.nd (me_call (ok__law_body_drawn h fuel__law_body_drawn) (hr.mono (by decide)) tk rfl (ml_cons (me_nm 0) (ml_cons (me_nm 3) (ml_cons (me_nm 4) (ml_cons (me_call (ok__law_draw h) (hr.mono (by decide)) tk rfl (ml_cons (me_nm 0) (ml_cons (me_nm 2) (ml_nil)))) (ml_cons (me_int) (ml_nil))))))))
            (mss_one (ms_set (i := 5) sc__law_book_of_sizes.nd (me_add (ma_pk 5) (ma_e (me_tup (ml_cons (me_tup (ml_cons (me_nm 6) (ml_cons (me_totup rfl h.g_tuple (ma_e (me_slHi (ma_pk 9) (ma_pk 7)))) (ml_cons (me_nm 10) (ml_cons (me_if (mt_e (me_nm 8)) (me_call (ok__law_pick h) (hr.mono (by decide)) tk rfl (ml_cons (me_nm 0) (ml_cons (me_add (ma_e (me_slHi (ma_pk 9) (ma_e (me_max rfl rfl h.g_max (ma_pk 7) (ma_e (me_int)))))) (ma_e (me_slHi (ma_pk 9) (ma_e (me_int))))) (ml_nil)))) (me_str)) (ml_nil)))))) (ml_nil))))))))))
            (mss_one (ms_ret (me_tup (ml_cons (me_totup rfl h.g_tuple (ma_e (me_call (ok__law_shuffled h) (hr.mono (by decide)) tk rfl (ml_cons (me_nm 0) (ml_cons (me_tolist rfl rfl h.g_list (ma_pk 5)) (ml_nil)))))) (ml_nil))))))))
def N__law_all_statements : List Str := ["body", "found", "statement", "inner"]
theorem sc__law_all_statements : FnScope N__law_all_statements ["body"] (defScope (top 22)) := ⟨rfl, rfl, rfl, by decide +kernel, rfl, by decide +kernel, by decide +kernel⟩
def d1__law_all_statements (r__law_all_statements : Fn) : CS := sSet 1 (cP2 addF (aPk 1) (aE (cCall r__law_all_statements (cCons (cNm 3) (cNil)))))
def d2__law_all_statements (r__law_all_statements : Fn) : CS := sSeq (sExp (cApp 1 (cNm 2)))
    (sIf (tE (cP2 (inF false) (aE (cP2 ixF (aPk 2) (aE (cC (.int 0))))) (aE (cTup (cCons (cC (.str "either")) (cCons (cC (.str "loop")) (cNil))))))) (sFor (iSeq (cP2 slLoF (aPk 2) (aE (cC (.int 1))))) (gN 3) (d1__law_all_statements r__law_all_statements)) (sNil))
def b__law_all_statements (r__law_all_statements : Fn) : CS := sSeq (sSet 1 (cLst (cNil)))
    (sSeq (sFor (iSeq (cNm 0)) (gN 2) (d2__law_all_statements r__law_all_statements))
    (sRet (cNm 1)))
def fuel__law_all_statements : Nat := 12

def fn__law_all_statements : Nat → Fn
  | 0 => fun _ _ => .no
  | n + 1 => mkFn 1 4 (b__law_all_statements (fn__law_all_statements n))

theorem oks__law_all_statements (h : Hd K mg) : ∀ n : Nat, DefOk P w K mg base C (0 + n) 1 "_law_all_statements" (fn__law_all_statements n)
  | 0 => (by
      obtain ⟨f, fd, F, hm⟩ := h.d__law_all_statements
      exact def_no F.fun hm (F.bindsN (ps := ["body"]) fun _ _ _ _ _ _ us hl => match us, hl with | [_], _ => rfl))
  | n + 1 => by
    have o__law_all_statements := oks__law_all_statements h n
    exact (by
      obtain ⟨f, fd, F, hm⟩ := h.d__law_all_statements
      refine def_mk F.fun hm (F.bindsN (ps := ["body"]) fun _ _ _ _ _ _ us hl => match us, hl with | [_], _ => rfl) (def_ok F.fun sc__law_all_statements (by decide) fun cdv A outer s H E hr tk hp => ?_)
      exact mss_cons (ms_set (i := 1) sc__law_all_statements.nd (me_lst (ml_nil)))
            (mss_cons (ms_for hp rfl (mi_seq (me_nm 0)) (mg_name (i := 2) sc__law_all_statements.nd) (mss_cons (ms_expr (me_app (i := 1) (me_nm 2)))
            (mss_one (ms_if (mt_in hr (ma_e (me_ix (ma_pk 2) (ma_e (me_int)))) (ma_e (me_tup (ml_cons (me_str) (ml_cons (me_str) (ml_nil)))))) (mss_one (ms_for hp rfl (mi_seq (me_slLo (ma_pk 2) (ma_e (me_int)))) (mg_name (i := 3) sc__law_all_statements.nd) (mss_one (ms_set (i := 1) sc__law_all_statements.nd (me_add (ma_pk 1) (ma_e (me_call o__law_all_statements hr tk rfl (ml_cons (me_nm 3) (ml_nil))))))))) (mss_nil)))))
            (mss_one (ms_ret (me_nm 1)))))
theorem ok__law_all_statements (h : Hd K mg) (n : Nat) : DefOk P w K mg base C (0 + n) 1 "_law_all_statements" (fn__law_all_statements n) := (oks__law_all_statements h n)
def N__law_book : List Str := ["pen", "lap", "tree", "proc"]
theorem sc__law_book : FnScope N__law_book ["pen"] (defScope (top 21)) := ⟨rfl, rfl, rfl, by decide +kernel, rfl, by decide +kernel, by decide +kernel⟩
def l1__law_book  : CE := cP2 ltF (aE (cP1 lenF (aE (cCall (fn__law_all_statements fuel__law_all_statements) (cCons (cP2 ixF (aPk 3) (aE (cC (.int 2)))) (cNil)))))) (aE (cC (.int 51)))
def d2__law_book  : CS := sSeq (sSet 2 (cCall fn__law_book_of_sizes (cCons (cNm 0) (cCons (cCall fn__law_pick (cCons (cNm 0) (cCons (cLst (cCons (cC (.int 0)) (cCons (cC (.int 1)) (cCons (cC (.int 1)) (cCons (cC (.int 2)) (cCons (cC (.int 3)) (cNil))))))) (cNil)))) (cCons (cCall fn__law_pick (cCons (cNm 0) (cCons (cLst (cCons (cC (.int 2)) (cCons (cC (.int 4)) (cCons (cC (.int 6)) (cNil))))) (cNil)))) (cCons (cP2 slHiF (aE (cLst (cCons (cC (.str "x")) (cCons (cC (.str "y")) (cCons (cC (.str "z")) (cCons (cC (.str "w2")) (cNil))))))) (aE (cCall fn__law_pick (cCons (cNm 0) (cCons (cLst (cCons (cC (.int 2)) (cCons (cC (.int 3)) (cCons (cC (.int 3)) (cCons (cC (.int 4)) (cNil)))))) (cNil)))))) (cNil)))))))
    (sIf (tE (cP1 allF (aE (cLc [3] (iSeq (cP2 ixF (aPk 2) (aE (cC (.int 0))))) (gN 3) (tY) (l1__law_book))))) (sRet (cNm 2)) (sNil))
def b__law_book  : CS := sSeq (sFor (iRng1' (cC (.int 12))) (gN 1) (d2__law_book))
    (sRet (cCall fn__law_book_of_sizes (cCons (cNm 0) (cCons (cC (.int 0)) (cCons (cC (.int 1)) (cCons (cLst (cCons (cC (.str "x")) (cCons (cC (.str "y")) (cNil)))) (cNil)))))))
def fn__law_book : Fn := mkFn 1 4 b__law_book
theorem ok__law_book (h : Hd K mg) : DefOk P w K mg base C 17 1 "_law_book" fn__law_book := by
  obtain ⟨f, fd, F, hm⟩ := h.d__law_book
  refine def_mk F.fun hm (F.bindsN (ps := ["pen"]) fun _ _ _ _ _ _ us hl => match us, hl with | [_], _ => rfl) (def_ok F.fun sc__law_book (by decide) fun cdv A outer s H E hr tk hp => ?_)
  exact mss_cons (ms_for hp rfl (mi_rng1 rfl h.g_range (me_int)) (mg_name (i := 1) sc__law_book.nd) (mss_cons (ms_set (i := 2) sc__law_book.nd (me_call (ok__law_book_of_sizes h) (hr.mono (by decide)) tk rfl (ml_cons (me_nm 0) (ml_cons (me_call (ok__law_pick h) (hr.mono (by decide)) tk rfl (ml_cons (me_nm 0) (ml_cons (me_lst (ml_cons (me_int) (ml_cons (me_int) (ml_cons (me_int) (ml_cons (me_int) (ml_cons (me_int) (ml_nil))))))) (ml_nil)))) (ml_cons (me_call (ok__law_pick h) (hr.mono (by decide)) tk rfl (ml_cons (me_nm 0) (ml_cons (me_lst (ml_cons (me_int) (ml_cons (me_int) (ml_cons (me_int) (ml_nil))))) (ml_nil)))) (ml_cons (me_slHi (ma_e (me_lst (ml_cons (me_str) (ml_cons (me_str) (ml_cons (me_str) (ml_cons (me_str) (ml_nil))))))) (ma_e (me_call (ok__law_pick h) (hr.mono (by decide)) tk rfl (ml_cons (me_nm 0) (ml_cons (me_lst (ml_cons (me_int) (ml_cons (me_int) (ml_cons (me_int) (ml_cons (me_int) (ml_nil)))))) (ml_nil)))))) (ml_nil)))))))
            (mss_one (ms_if (mt_e (me_all rfl rfl h.g_all (ma_e (me_lc rfl sc__law_book.nd (mi_seq (me_ix (ma_pk 2) (ma_e (me_int)))) (ow := [("proc", 3)]) (show BlkOk N__law_book (defScope (top 21)) _ _ from ⟨rfl, by decide +kernel, by decide +kernel, by decide +kernel, by decide +kernel⟩) (by decide) (fun _ _ _ _ _ => mg_name (i := 3) sc__law_book.nd) (fun _ _ _ _ _ => mts_nil) (fun _ _ _ _ _ => me_lt (ma_e (me_len rfl h.g_len (ma_e (me_call (ok__law_all_statements h fuel__law_all_statements) (hr.mono (by decide)) takes0 rfl (ml_cons (me_ix (ma_pk 3) (ma_e (me_int))) (ml_nil)))))) (ma_e (me_int))))))) (mss_one (ms_ret (me_nm 2))) (mss_nil)))))
            (mss_one (ms_ret (me_call (ok__law_book_of_sizes h) (hr.mono (by decide)) tk rfl (ml_cons (me_nm 0) (ml_cons (me_int) (ml_cons (me_int) (ml_cons (me_lst (ml_cons (me_str) (ml_cons (me_str) (ml_nil)))) (ml_nil))))))))
def N__law_body_text : List Str := ["body", "row"]
theorem sc__law_body_text : FnScope N__law_body_text ["body"] (defScope (top 24)) := ⟨rfl, rfl, rfl, by decide +kernel, rfl, by decide +kernel, by decide +kernel⟩
def l1__law_body_text (r__law_body_text : Fn) (r__law_statement_text : Fn) : CE := cP2 addF (aE (cCall r__law_statement_text (cCons (cNm 1) (cNil)))) (aE (cC (.str " ")))
def b__law_body_text (r__law_body_text : Fn) (r__law_statement_text : Fn) : CS := sRet (cP2 addF (aE (cP2 addF (aE (cC (.str "{ "))) (aE (cM1 joinF (aE (cC (.str ""))) (aE (cLc [1] (iSeq (cNm 0)) (gN 1) (tY) (l1__law_body_text r__law_body_text r__law_statement_text))))))) (aE (cC (.str "}"))))
def N__law_statement_text : List Str := ["row", "body"]
theorem sc__law_statement_text : FnScope N__law_statement_text ["row"] (defScope (top 23)) := ⟨rfl, rfl, rfl, by decide +kernel, rfl, by decide +kernel, by decide +kernel⟩
def l1__law_statement_text (r__law_body_text : Fn) (r__law_statement_text : Fn) : CE := cCall r__law_body_text (cCons (cNm 1) (cNil))
def b__law_statement_text (r__law_body_text : Fn) (r__law_statement_text : Fn) : CS := sSeq (sIf (tE (cP2 (inF false) (aE (cP2 ixF (aPk 0) (aE (cC (.int 0))))) (aE (cTup (cCons (cC (.str "either")) (cCons (cC (.str "loop")) (cNil))))))) (sRet (cP2 addF (aE (cP2 addF (aE (cP2 ixF (aPk 0) (aE (cC (.int 0))))) (aE (cC (.str " "))))) (aE (cM1 joinF (aE (cC (.str " or "))) (aE (cLc [1] (iSeq (cP2 slLoF (aPk 0) (aE (cC (.int 1))))) (gN 1) (tY) (l1__law_statement_text r__law_body_text r__law_statement_text))))))) (sNil))
    (sSeq (sIf (tE (cP2 eqF (aE (cP2 ixF (aPk 0) (aE (cC (.int 0))))) (aE (cC (.str "call"))))) (sRet (cP2 addF (aE (cP2 addF (aE (cP2 addF (aE (cP2 addF (aE (cIf (tE (cP2 neF (aE (cP2 ixF (aPk 0) (aE (cC (.int 1))))) (aE (cC (.str ""))))) (cP2 addF (aE (cP2 ixF (aPk 0) (aE (cC (.int 1))))) (aE (cC (.str " = ")))) (cC (.str "")))) (aE (cP2 ixF (aPk 0) (aE (cC (.int 2))))))) (aE (cC (.str "("))))) (aE (cM1 joinF (aE (cC (.str ", "))) (aE (cP2 ixF (aPk 0) (aE (cC (.int 3))))))))) (aE (cC (.str ");"))))) (sNil))
    (sSeq (sIf (tE (cP2 (inF false) (aE (cP2 ixF (aPk 0) (aE (cC (.int 0))))) (aE (cTup (cCons (cC (.str "use")) (cCons (cC (.str "set")) (cCons (cC (.str "drop")) (cNil)))))))) (sRet (cP2 addF (aE (cP2 addF (aE (cP2 addF (aE (cP2 ixF (aPk 0) (aE (cC (.int 0))))) (aE (cC (.str " "))))) (aE (cP2 ixF (aPk 0) (aE (cC (.int 1))))))) (aE (cC (.str ";"))))) (sNil))
    (sRet (cP2 addF (aE (cP2 addF (aE (cP2 addF (aE (cP2 addF (aE (cP2 ixF (aPk 0) (aE (cC (.int 1))))) (aE (cC (.str " = "))))) (aE (cDGet (aE (cDis [.inr "new", .inr "look", .inr "only", .inr "move"] (cCons (cC (.str "new")) (cCons (cC (.str "look ")) (cCons (cC (.str "only ")) (cCons (cC (.str "")) (cNil))))))) (aE (cP2 ixF (aPk 0) (aE (cC (.int 0))))))))) (aE (cM1 joinF (aE (cC (.str ""))) (aE (cP2 slLoF (aPk 0) (aE (cC (.int 2))))))))) (aE (cC (.str ";")))))))
def fuel__law_body_text : Nat := 12
mutual
def fn__law_body_text : Nat → Fn
  | 0 => fun _ _ => .no
  | n + 1 => mkFn 1 2 (b__law_body_text (fn__law_body_text n) (fn__law_statement_text n))
def fn__law_statement_text : Nat → Fn
  | 0 => fun _ _ => .no
  | n + 1 => mkFn 1 2 (b__law_statement_text (fn__law_body_text n) (fn__law_statement_text n))
end
theorem oks__law_body_text (h : Hd K mg) : ∀ n : Nat, DefOk P w K mg base C (0 + n) 1 "_law_body_text" (fn__law_body_text n) ∧ DefOk P w K mg base C (0 + n) 1 "_law_statement_text" (fn__law_statement_text n)
  | 0 => ⟨(by
      obtain ⟨f, fd, F, hm⟩ := h.d__law_body_text
      exact def_no F.fun hm (F.bindsN (ps := ["body"]) fun _ _ _ _ _ _ us hl => match us, hl with | [_], _ => rfl)), (by
      obtain ⟨f, fd, F, hm⟩ := h.d__law_statement_text
      exact def_no F.fun hm (F.bindsN (ps := ["row"]) fun _ _ _ _ _ _ us hl => match us, hl with | [_], _ => rfl))⟩
  | n + 1 => by
    obtain ⟨o__law_body_text, o__law_statement_text⟩ := oks__law_body_text h n
    exact ⟨(by
      obtain ⟨f, fd, F, hm⟩ := h.d__law_body_text
      refine def_mk F.fun hm (F.bindsN (ps := ["body"]) fun _ _ _ _ _ _ us hl => match us, hl with | [_], _ => rfl) (def_ok F.fun sc__law_body_text (by decide) fun cdv A outer s H E hr tk hp => ?_)
      exact mss_one (ms_ret (me_add (ma_e (me_add (ma_e (me_str)) (ma_e (me_join (ma_e (me_str)) (ma_e (me_lc rfl sc__law_body_text.nd (mi_seq (me_nm 0)) (ow := [("row", 1)]) (show BlkOk N__law_body_text (defScope (top 24)) _ _ from ⟨rfl, by decide +kernel, by decide +kernel, by decide +kernel, by decide +kernel⟩) (by decide) (fun _ _ _ _ _ => mg_name (i := 1) sc__law_body_text.nd) (fun _ _ _ _ _ => mts_nil) (fun _ _ _ _ _ => me_add (ma_e (me_call o__law_statement_text hr takes0 rfl (ml_cons (me_nm 1) (ml_nil)))) (ma_e (me_str))))))))) (ma_e (me_str))))), (by
      obtain ⟨f, fd, F, hm⟩ := h.d__law_statement_text
      refine def_mk F.fun hm (F.bindsN (ps := ["row"]) fun _ _ _ _ _ _ us hl => match us, hl with | [_], _ => rfl) (def_ok F.fun sc__law_statement_text (by decide) fun cdv A outer s H E hr tk hp => ?_)
      exact mss_cons (ms_if (mt_in hr (ma_e (me_ix (ma_pk 0) (ma_e (me_int)))) (ma_e (me_tup (ml_cons (me_str) (ml_cons (me_str) (ml_nil)))))) (mss_one (ms_ret (me_add (ma_e (me_add (ma_e (me_ix (ma_pk 0) (ma_e (me_int)))) (ma_e (me_str)))) (ma_e (me_join (ma_e (me_str)) (ma_e (me_lc rfl sc__law_statement_text.nd (mi_seq (me_slLo (ma_pk 0) (ma_e (me_int)))) (ow := [("body", 1)]) (show BlkOk N__law_statement_text (defScope (top 23)) _ _ from ⟨rfl, by decide +kernel, by decide +kernel, by decide +kernel, by decide +kernel⟩) (by decide) (fun _ _ _ _ _ => mg_name (i := 1) sc__law_statement_text.nd) (fun _ _ _ _ _ => mts_nil) (fun _ _ _ _ _ => me_call o__law_body_text hr takes0 rfl (ml_cons (me_nm 1) (ml_nil)))))))))) (mss_nil))
            (mss_cons (ms_if (mt_eq hr (ma_e (me_ix (ma_pk 0) (ma_e (me_int)))) (ma_e (me_str))) (mss_one (ms_ret (me_add (ma_e (me_add (ma_e (me_add (ma_e (me_add (ma_e (me_if (mt_ne hr (ma_e (me_ix (ma_pk 0) (ma_e (me_int)))) (ma_e (me_str))) (me_add (ma_e (me_ix (ma_pk 0) (ma_e (me_int)))) (ma_e (me_str))) (me_str))) (ma_e (me_ix (ma_pk 0) (ma_e (me_int)))))) (ma_e (me_str)))) (ma_e (me_join (ma_e (me_str)) (ma_e (me_ix (ma_pk 0) (ma_e (me_int)))))))) (ma_e (me_str))))) (mss_nil))
            (mss_cons (ms_if (mt_in hr (ma_e (me_ix (ma_pk 0) (ma_e (me_int)))) (ma_e (me_tup (ml_cons (me_str) (ml_cons (me_str) (ml_cons (me_str) (ml_nil))))))) (mss_one (ms_ret (me_add (ma_e (me_add (ma_e (me_add (ma_e (me_ix (ma_pk 0) (ma_e (me_int)))) (ma_e (me_str)))) (ma_e (me_ix (ma_pk 0) (ma_e (me_int)))))) (ma_e (me_str))))) (mss_nil))
            (mss_one (ms_ret (me_add (ma_e (me_add (ma_e (me_add (ma_e (me_add (ma_e (me_ix (ma_pk 0) (ma_e (me_int)))) (ma_e (me_str)))) (ma_e (me_dget hr (ma_e (me_dis (mp_cons (me_str) (mp_cons (me_str) (mp_cons (me_str) (mp_cons (me_str) (mp_nil))))))) (ma_e (me_ix (ma_pk 0) (ma_e (me_int)))))))) (ma_e (me_join (ma_e (me_str)) (ma_e (me_slLo (ma_pk 0) (ma_e (me_int)))))))) (ma_e (me_str))))))))⟩
theorem ok__law_body_text (h : Hd K mg) (n : Nat) : DefOk P w K mg base C (0 + n) 1 "_law_body_text" (fn__law_body_text n) := (oks__law_body_text h n).1
theorem ok__law_statement_text (h : Hd K mg) (n : Nat) : DefOk P w K mg base C (0 + n) 1 "_law_statement_text" (fn__law_statement_text n) := (oks__law_body_text h n).2
def N__law_proc_text : List Str := ["proc", "give"]
theorem sc__law_proc_text : FnScope N__law_proc_text ["proc"] (defScope (top 25)) := ⟨rfl, rfl, rfl, by decide +kernel, rfl, by decide +kernel, by decide +kernel⟩
def b__law_proc_text  : CS := sSeq (sSet 1 (cIf (tE (cP2 neF (aE (cP2 ixF (aPk 0) (aE (cC (.int 3))))) (aE (cC (.str ""))))) (cP2 addF (aE (cP2 addF (aE (cC (.str "give "))) (aE (cP2 ixF (aPk 0) (aE (cC (.int 3))))))) (aE (cC (.str "; ")))) (cC (.str ""))))
    (sRet (cP2 addF (aE (cP2 addF (aE (cP2 addF (aE (cP2 addF (aE (cP2 addF (aE (cP2 addF (aE (cP2 addF (aE (cC (.str "proc "))) (aE (cP2 ixF (aPk 0) (aE (cC (.int 0))))))) (aE (cC (.str "("))))) (aE (cM1 joinF (aE (cC (.str ", "))) (aE (cP2 ixF (aPk 0) (aE (cC (.int 1))))))))) (aE (cC (.str ") "))))) (aE (cP2 slHiF (aE (cCall (fn__law_body_text fuel__law_body_text) (cCons (cP2 ixF (aPk 0) (aE (cC (.int 2)))) (cNil)))) (aE (cP1 negF (aE (cC (.int 1))))))))) (aPk 1))) (aE (cC (.str "}")))))
def fn__law_proc_text : Fn := mkFn 1 2 b__law_proc_text
theorem ok__law_proc_text (h : Hd K mg) : DefOk P w K mg base C 14 1 "_law_proc_text" fn__law_proc_text := by
  obtain ⟨f, fd, F, hm⟩ := h.d__law_proc_text
  refine def_mk F.fun hm (F.bindsN (ps := ["proc"]) fun _ _ _ _ _ _ us hl => match us, hl with | [_], _ => rfl) (def_ok F.fun sc__law_proc_text (by decide) fun cdv A outer s H E hr tk hp => ?_)
  exact mss_cons (ms_set (i := 1) sc__law_proc_text.nd (me_if (mt_ne hr (ma_e (me_ix (ma_pk 0) (ma_e (me_int)))) (ma_e (me_str))) (me_add (ma_e (me_add (ma_e (me_str)) (ma_e (me_ix (ma_pk 0) (ma_e (me_int)))))) (ma_e (me_str))) (me_str)))
            (mss_one (ms_ret (me_add (ma_e (me_add (ma_e (me_add (ma_e (me_add (ma_e (me_add (ma_e (me_add (ma_e (me_add (ma_e (me_str)) (ma_e (me_ix (ma_pk 0) (ma_e (me_int)))))) (ma_e (me_str)))) (ma_e (me_join (ma_e (me_str)) (ma_e (me_ix (ma_pk 0) (ma_e (me_int)))))))) (ma_e (me_str)))) (ma_e (me_slHi (ma_e (me_call (ok__law_body_text h fuel__law_body_text) (hr.mono (by decide)) tk rfl (ml_cons (me_ix (ma_pk 0) (ma_e (me_int))) (ml_nil)))) (ma_e (me_neg (ma_e (me_int)))))))) (ma_pk 1))) (ma_e (me_str)))))
def N__law_printed : List Str := ["tree", "proc"]
theorem sc__law_printed : FnScope N__law_printed ["tree"] (defScope (top 26)) := ⟨rfl, rfl, rfl, by decide +kernel, rfl, by decide +kernel, by decide +kernel⟩
def l1__law_printed  : CE := cCall fn__law_proc_text (cCons (cNm 1) (cNil))
def b__law_printed  : CS := sRet (cM1 joinF (aE (cC (.str "\n"))) (aE (cLc [1] (iSeq (cP2 ixF (aPk 0) (aE (cC (.int 0))))) (gN 1) (tY) (l1__law_printed))))
def fn__law_printed : Fn := mkFn 1 2 b__law_printed
theorem ok__law_printed (h : Hd K mg) : DefOk P w K mg base C 15 1 "_law_printed" fn__law_printed := by
  obtain ⟨f, fd, F, hm⟩ := h.d__law_printed
  refine def_mk F.fun hm (F.bindsN (ps := ["tree"]) fun _ _ _ _ _ _ us hl => match us, hl with | [_], _ => rfl) (def_ok F.fun sc__law_printed (by decide) fun cdv A outer s H E hr tk hp => ?_)
  exact mss_one (ms_ret (me_join (ma_e (me_str)) (ma_e (me_lc rfl sc__law_printed.nd (mi_seq (me_ix (ma_pk 0) (ma_e (me_int)))) (ow := [("proc", 1)]) (show BlkOk N__law_printed (defScope (top 26)) _ _ from ⟨rfl, by decide +kernel, by decide +kernel, by decide +kernel, by decide +kernel⟩) (by decide) (fun _ _ _ _ _ => mg_name (i := 1) sc__law_printed.nd) (fun _ _ _ _ _ => mts_nil) (fun _ _ _ _ _ => me_call (ok__law_proc_text h) (hr.mono (by decide)) takes0 rfl (ml_cons (me_nm 1) (ml_nil)))))))
def N__law_parted : List Str := ["text", "sign", "word"]
theorem sc__law_parted : FnScope N__law_parted ["text"] (defScope (top 27)) := ⟨rfl, rfl, rfl, by decide +kernel, rfl, by decide +kernel, by decide +kernel⟩
def c1__law_parted  : CT := tE (cP2 neF (aPk 2) (aE (cC (.str ""))))
def l2__law_parted  : CE := cNm 2
def b__law_parted  : CS := sSeq (sParted 0 1 " " " " "=;,(){}")
            (sRet (cLc [2] (iPart 0 "\n" " " " ") (gN 2) (c1__law_parted) (l2__law_parted)))
def fn__law_parted : Fn := mkFn 1 3 b__law_parted
theorem ok__law_parted (h : Hd K mg) : DefOk P w K mg base C 1 1 "_law_parted" fn__law_parted := by
  obtain ⟨f, fd, F, hm⟩ := h.d__law_parted
  refine def_mk F.fun hm (F.bindsN (ps := ["text"]) fun _ _ _ _ _ _ us hl => match us, hl with | [_], _ => rfl) (def_ok F.fun sc__law_parted (by decide) fun cdv A outer s H E hr tk hp => ?_)
  exact mss_parted (i := 0) (j := 1) (ow := [("word", 2)]) hp rfl sc__law_parted.nd (show BlkOk N__law_parted (defScope (top 27)) _ _ from ⟨rfl, by decide +kernel, by decide +kernel, by decide +kernel, by decide +kernel⟩) (by decide) (fun _ _ _ _ _ => mg_name (i := 2) sc__law_parted.nd) (fun _ _ _ _ _ => mts_one (mt_ne hr (ma_pk 2) (ma_e (me_str)))) (fun _ _ _ _ _ => me_nm 2)
def N__law_text_of : List Str := ["tree"]
theorem sc__law_text_of : FnScope N__law_text_of ["tree"] (defScope (top 28)) := ⟨rfl, rfl, rfl, by decide +kernel, rfl, by decide +kernel, by decide +kernel⟩
def b__law_text_of  : CS := sRet (cM1 joinF (aE (cC (.str " "))) (aE (cCall fn__law_parted (cCons (cCall fn__law_printed (cCons (cNm 0) (cNil))) (cNil)))))
def fn__law_text_of : Fn := mkFn 1 1 b__law_text_of
theorem ok__law_text_of (h : Hd K mg) : DefOk P w K mg base C 16 1 "_law_text_of" fn__law_text_of := by
  obtain ⟨f, fd, F, hm⟩ := h.d__law_text_of
  refine def_mk F.fun hm (F.bindsN (ps := ["tree"]) fun _ _ _ _ _ _ us hl => match us, hl with | [_], _ => rfl) (def_ok F.fun sc__law_text_of (by decide) fun cdv A outer s H E hr tk hp => ?_)
  exact mss_one (ms_ret (me_join (ma_e (me_str)) (ma_e (me_call (ok__law_parted h) (hr.mono (by decide)) tk rfl (ml_cons (me_call (ok__law_printed h) (hr.mono (by decide)) tk rfl (ml_cons (me_nm 0) (ml_nil))) (ml_nil))))))
def N__law_gap : List Str := ["pen", "last", "word", "close", "gap"]
theorem sc__law_gap : FnScope N__law_gap ["pen", "last", "word"] (defScope (top 29)) := ⟨rfl, rfl, rfl, by decide +kernel, rfl, by decide +kernel, by decide +kernel⟩
def b__law_gap  : CS := sSeq (sSet 3 (cOr (cP2 eqF (aPk 1) (aE (cC (.str "")))) (cOr (cNot (cOr (cM0 alnumF (aE (cP2 ixF (aPk 1) (aE (cP1 negF (aE (cC (.int 1)))))))) (cP2 eqF (aE (cP2 ixF (aPk 1) (aE (cP1 negF (aE (cC (.int 1))))))) (aE (cC (.str "_")))))) (cNot (cOr (cM0 alnumF (aE (cP2 ixF (aPk 2) (aE (cC (.int 0)))))) (cP2 eqF (aE (cP2 ixF (aPk 2) (aE (cC (.int 0))))) (aE (cC (.str "_")))))))))
    (sSeq (sSet 4 (cCall fn__law_draw (cCons (cNm 0) (cCons (cC (.int 9)) (cNil)))))
    (sSeq (sIf (tE (cP2 eqF (aPk 4) (aE (cC (.int 0))))) (sRet (cC (.str "\n"))) (sNil))
    (sSeq (sIf (tE (cP2 eqF (aPk 4) (aE (cC (.int 1))))) (sRet (cCall fn__law_pick (cCons (cNm 0) (cCons (cLst (cCons (cC (.str " # x = new;\n")) (cCons (cC (.str "  ")) (cCons (cC (.str "\n\n  ")) (cCons (cC (.str " #\n")) (cNil)))))) (cNil))))) (sNil))
    (sRet (cIf (tAndT (tE (cNm 3)) (tE (cP2 ltF (aPk 4) (aE (cC (.int 4)))))) (cC (.str "")) (cC (.str " ")))))))
def fn__law_gap : Fn := mkFn 3 5 b__law_gap
theorem ok__law_gap (h : Hd K mg) : DefOk P w K mg base C 3 3 "_law_gap" fn__law_gap := by
  obtain ⟨f, fd, F, hm⟩ := h.d__law_gap
  refine def_mk F.fun hm (F.bindsN (ps := ["pen", "last", "word"]) fun _ _ _ _ _ _ us hl => match us, hl with | [_, _, _], _ => rfl) (def_ok F.fun sc__law_gap (by decide) fun cdv A outer s H E hr tk hp => ?_)
  exact mss_cons (ms_set (i := 3) sc__law_gap.nd (me_or (me_eq hr (ma_pk 1) (ma_e (me_str))) (me_or (me_not (me_or (me_alnum (ma_e (me_ix (ma_pk 1) (ma_e (me_neg (ma_e (me_int))))))) (me_one (me_eq hr (ma_e (me_ix (ma_pk 1) (ma_e (me_neg (ma_e (me_int)))))) (ma_e (me_str)))))) (me_one (me_not (me_or (me_alnum (ma_e (me_ix (ma_pk 2) (ma_e (me_int))))) (me_one (me_eq hr (ma_e (me_ix (ma_pk 2) (ma_e (me_int)))) (ma_e (me_str))))))))))
            (mss_cons (ms_set (i := 4) sc__law_gap.nd (me_call (ok__law_draw h) (hr.mono (by decide)) tk rfl (ml_cons (me_nm 0) (ml_cons (me_int) (ml_nil)))))
            (mss_cons (ms_if (mt_eq hr (ma_pk 4) (ma_e (me_int))) (mss_one (ms_ret (me_str))) (mss_nil))
            (mss_cons (ms_if (mt_eq hr (ma_pk 4) (ma_e (me_int))) (mss_one (ms_ret (me_call (ok__law_pick h) (hr.mono (by decide)) tk rfl (ml_cons (me_nm 0) (ml_cons (me_lst (ml_cons (me_str) (ml_cons (me_str) (ml_cons (me_str) (ml_cons (me_str) (ml_nil)))))) (ml_nil)))))) (mss_nil))
            (mss_one (ms_ret (me_if (mw_t (mw_and (mt_e (me_nm 3)) (mw_and1 (mt_lt (ma_pk 4) (ma_e (me_int)))))) (me_str) (me_str)))))))
def N__law_loose_words : List Str := ["pen", "words", "text", "last", "word"]
theorem sc__law_loose_words : FnScope N__law_loose_words ["pen", "words"] (defScope (top 30)) := ⟨rfl, rfl, rfl, by decide +kernel, rfl, by decide +kernel, by decide +kernel⟩
def d1__law_loose_words  : CS := sPar 2 3 (cP2 addF (aE (cP2 addF (aPk 2) (aE (cCall fn__law_gap (cCons (cNm 0) (cCons (cNm 3) (cCons (cNm 4) (cNil)))))))) (aPk 4)) (cNm 4)
def b__law_loose_words  : CS := sSeq (sAsg (gSq 2 (gsC (gN 2) (gsC (gN 3) (gsN)))) (cTup (cCons (cC (.str "")) (cCons (cC (.str "")) (cNil)))))
    (sSeq (sFor (iSeq (cNm 1)) (gN 4) (d1__law_loose_words))
    (sRet (cNm 2)))
def fn__law_loose_words : Fn := mkFn 2 5 b__law_loose_words
theorem ok__law_loose_words (h : Hd K mg) : DefOk P w K mg base C 4 2 "_law_loose_words" fn__law_loose_words := by
  obtain ⟨f, fd, F, hm⟩ := h.d__law_loose_words
  refine def_mk F.fun hm (F.bindsN (ps := ["pen", "words"]) fun _ _ _ _ _ _ us hl => match us, hl with | [_, _], _ => rfl) (def_ok F.fun sc__law_loose_words (by decide) fun cdv A outer s H E hr tk hp => ?_)
  exact mss_cons (ms_asg (me_tup (ml_cons (me_str) (ml_cons (me_str) (ml_nil)))) (mg_seq rfl (mgs_cons (mg_name (i := 2) sc__law_loose_words.nd) (mgs_cons (mg_name (i := 3) sc__law_loose_words.nd) (mgs_nil)))))
            (mss_cons (ms_for hp rfl (mi_seq (me_nm 1)) (mg_name (i := 4) sc__law_loose_words.nd) (mss_one (ms_par (i := 2) (j := 3) rfl sc__law_loose_words.nd (me_add (ma_e (me_add (ma_pk 2) (ma_e (me_call (ok__law_gap h) (hr.mono (by decide)) tk rfl (ml_cons (me_nm 0) (ml_cons (me_nm 3) (ml_cons (me_nm 4) (ml_nil)))))))) (ma_pk 4)) (me_nm 4))))
            (mss_one (ms_ret (me_nm 2))))
def N__law_loose_text : List Str := ["pen", "tree"]
theorem sc__law_loose_text : FnScope N__law_loose_text ["pen", "tree"] (defScope (top 31)) := ⟨rfl, rfl, rfl, by decide +kernel, rfl, by decide +kernel, by decide +kernel⟩
def b__law_loose_text  : CS := sRet (cP2 addF (aE (cCall fn__law_loose_words (cCons (cNm 0) (cCons (cCall fn__law_parted (cCons (cCall fn__law_printed (cCons (cNm 1) (cNil))) (cNil))) (cNil))))) (aE (cCall fn__law_pick (cCons (cNm 0) (cCons (cLst (cCons (cC (.str "")) (cCons (cC (.str "")) (cCons (cC (.str "\n")) (cCons (cC (.str " ")) (cCons (cC (.str " # the end")) (cCons (cC (.str "#")) (cNil)))))))) (cNil))))))
def fn__law_loose_text : Fn := mkFn 2 2 b__law_loose_text
theorem ok__law_loose_text (h : Hd K mg) : DefOk P w K mg base C 16 2 "_law_loose_text" fn__law_loose_text := by
  obtain ⟨f, fd, F, hm⟩ := h.d__law_loose_text
  refine def_mk F.fun hm (F.bindsN (ps := ["pen", "tree"]) fun _ _ _ _ _ _ us hl => match us, hl with | [_, _], _ => rfl) (def_ok F.fun sc__law_loose_text (by decide) fun cdv A outer s H E hr tk hp => ?_)
  exact mss_one (ms_ret (me_add (ma_e (me_call (ok__law_loose_words h) (hr.mono (by decide)) tk rfl (ml_cons (me_nm 0) (ml_cons (me_call (ok__law_parted h) (hr.mono (by decide)) tk rfl (ml_cons (me_call (ok__law_printed h) (hr.mono (by decide)) tk rfl (ml_cons (me_nm 1) (ml_nil))) (ml_nil))) (ml_nil))))) (ma_e (me_call (ok__law_pick h) (hr.mono (by decide)) tk rfl (ml_cons (me_nm 0) (ml_cons (me_lst (ml_cons (me_str) (ml_cons (me_str) (ml_cons (me_str) (ml_cons (me_str) (ml_cons (me_str) (ml_cons (me_str) (ml_nil)))))))) (ml_nil)))))))
def N__law_words : List Str := ["text", "letters", "found", "lines", "number", "line", "at", "many", "word", "own"]
theorem sc__law_words : FnScope N__law_words ["text"] (defScope (top 32)) := ⟨rfl, rfl, rfl, by decide +kernel, rfl, by decide +kernel, by decide +kernel⟩
def c1__law_words  : CT := tAndT (tE (cP2 ltF (aE (cP2 addF (aPk 6) (aPk 7))) (aE (cP1 lenF (aPk 5))))) (tE (cP2 (inF false) (aE (cP2 ixF (aPk 5) (aE (cP2 addF (aPk 6) (aPk 7))))) (aE (cP2 addF (aPk 1) (aE (cC (.str "0123456789_")))))))
def d2__law_words  : CS := sSet 7 (cP2 addF (aPk 7) (aE (cC (.int 1))))
def c3__law_words  : CT := tAndT (tE (cP2 ltF (aPk 6) (aE (cP1 lenF (aPk 5))))) (tE (cP2 neF (aE (cP2 ixF (aPk 5) (aPk 6))) (aE (cC (.str "#")))))
def d4__law_words  : CS := sSeq (sAsg (gSq 2 (gsC (gN 7) (gsC (gN 8) (gsN)))) (cTup (cCons (cC (.int 1)) (cCons (cC (.str "sign")) (cNil)))))
    (sSeq (sIf (tE (cP2 (inF false) (aE (cP2 ixF (aPk 5) (aPk 6))) (aPk 1))) (sSeq (sWhile (c1__law_words) (d2__law_words))
    (sSeq (sSet 9 (cP2 (inF false) (aE (cSlBo (aPk 5) (aPk 6) (aE (cP2 addF (aPk 6) (aPk 7))))) (aE (cM1 splitF (aE (cC (.str "drop either give given look loop new only or out proc set use"))) (aE (cC (.str " ")))))))
    (sSeq (sSet 8 (cIf (tE (cNm 9)) (cC (.str "own")) (cC (.str "name"))))
    (sIf (tE (cP2 gtF (aPk 7) (aE (cC (.int 12))))) (sRet (cP2 addF (aPk 2) (aE (cLst (cCons (cTup (cCons (cC (.str "bad")) (cCons (cC (.str "word")) (cCons (cNm 4) (cCons (cNm 6) (cNil)))))) (cNil)))))) (sNil))))) (sIf (tE (cP2 (inF true) (aE (cP2 ixF (aPk 5) (aPk 6))) (aE (cC (.str "=;,(){} "))))) (sRet (cP2 addF (aPk 2) (aE (cLst (cCons (cTup (cCons (cC (.str "bad")) (cCons (cC (.str "sign")) (cCons (cNm 4) (cCons (cNm 6) (cNil)))))) (cNil)))))) (sNil)))
    (sSeq (sIf (tE (cP2 neF (aE (cP2 ixF (aPk 5) (aPk 6))) (aE (cC (.str " "))))) (sExp (cApp 2 (cTup (cCons (cNm 8) (cCons (cSlBo (aPk 5) (aPk 6) (aE (cP2 addF (aPk 6) (aPk 7)))) (cCons (cNm 4) (cCons (cNm 6) (cNil)))))))) (sNil))
    (sSet 6 (cP2 addF (aPk 6) (aPk 7)))))
def d5__law_words  : CS := sSeq (sPar 5 6 (cP2 ixF (aPk 3) (aPk 4)) (cC (.int 0)))
    (sWhile (c3__law_words) (d4__law_words))
def b__law_words  : CS := sSeq (sPar 1 2 (cC (.str "abcdefghijklmnopqrstuvwxyzABCDEFGHIJKLMNOPQRSTUVWXYZ")) (cLst (cNil)))
    (sSeq (sSet 3 (cM1 splitF (aPk 0) (aE (cC (.str "\n")))))
    (sSeq (sFor (iRng1' (cP1 lenF (aPk 3))) (gN 4) (d5__law_words))
    (sRet (cP2 addF (aPk 2) (aE (cLst (cCons (cTup (cCons (cC (.str "end")) (cCons (cC (.str "")) (cCons (cP2 subF (aE (cP1 lenF (aPk 3))) (aE (cC (.int 1)))) (cCons (cP1 lenF (aE (cP2 ixF (aPk 3) (aE (cP1 negF (aE (cC (.int 1)))))))) (cNil)))))) (cNil))))))))
def fn__law_words : Fn := mkFn 1 10 b__law_words
theorem ok__law_words (h : Hd K mg) : DefOk P w K mg base C 1 1 "_law_words" fn__law_words := by
  obtain ⟨f, fd, F, hm⟩ := h.d__law_words
  refine def_mk F.fun hm (F.bindsN (ps := ["text"]) fun _ _ _ _ _ _ us hl => match us, hl with | [_], _ => rfl) (def_ok F.fun sc__law_words (by decide) fun cdv A outer s H E hr tk hp => ?_)
  exact mss_cons (ms_par (i := 1) (j := 2) rfl sc__law_words.nd (me_str) (me_lst (ml_nil)))
            (mss_cons (ms_set (i := 3) sc__law_words.nd (me_split (ma_pk 0) (ma_e (me_str))))
            (mss_cons (ms_for hp rfl (mi_rng1 rfl h.g_range (me_len rfl h.g_len (ma_pk 3))) (mg_name (i := 4) sc__law_words.nd) (mss_cons (ms_par (i := 5) (j := 6) rfl sc__law_words.nd (me_ix (ma_pk 3) (ma_pk 4)) (me_int))
            (mss_one (ms_while hp (mw_t (mw_and (mt_lt (ma_pk 6) (ma_e (me_len rfl h.g_len (ma_pk 5)))) (mw_and1 (mt_ne hr (ma_e (me_ix (ma_pk 5) (ma_pk 6))) (ma_e (me_str)))))) (mss_cons (ms_asg (me_tup (ml_cons (me_int) (ml_cons (me_str) (ml_nil)))) (mg_seq rfl (mgs_cons (mg_name (i := 7) sc__law_words.nd) (mgs_cons (mg_name (i := 8) sc__law_words.nd) (mgs_nil)))))
            (mss_cons (ms_if (mt_in hr (ma_e (me_ix (ma_pk 5) (ma_pk 6))) (ma_pk 1)) (mss_cons (ms_while hp (mw_t (mw_and (mt_lt (ma_e (me_add (ma_pk 6) (ma_pk 7))) (ma_e (me_len rfl h.g_len (ma_pk 5)))) (mw_and1 (mt_in hr (ma_e (me_ix (ma_pk 5) (ma_e (me_add (ma_pk 6) (ma_pk 7))))) (ma_e (me_add (ma_pk 1) (ma_e (me_str)))))))) (mss_one (ms_set (i := 7) sc__law_words.nd (me_add (ma_pk 7) (ma_e (me_int))))))
            (mss_cons (ms_set (i := 9) sc__law_words.nd (me_in hr (ma_e (me_slBo (ma_pk 5) (ma_pk 6) (ma_e (me_add (ma_pk 6) (ma_pk 7))))) (ma_e (me_split (ma_e (me_str)) (ma_e (me_str))))))
            (mss_cons (ms_set (i := 8) sc__law_words.nd (me_if (mt_e (me_nm 9)) (me_str) (me_str)))
            (mss_one (ms_if (mt_gt (ma_pk 7) (ma_e (me_int))) (mss_one (ms_ret (me_add (ma_pk 2) (ma_e (me_lst (ml_cons (me_tup (ml_cons (me_str) (ml_cons (me_str) (ml_cons (me_nm 4) (ml_cons (me_nm 6) (ml_nil)))))) (ml_nil))))))) (mss_nil)))))) (mss_one (ms_if (mt_notin hr (ma_e (me_ix (ma_pk 5) (ma_pk 6))) (ma_e (me_str))) (mss_one (ms_ret (me_add (ma_pk 2) (ma_e (me_lst (ml_cons (me_tup (ml_cons (me_str) (ml_cons (me_str) (ml_cons (me_nm 4) (ml_cons (me_nm 6) (ml_nil)))))) (ml_nil))))))) (mss_nil))))
            (mss_cons (ms_if (mt_ne hr (ma_e (me_ix (ma_pk 5) (ma_pk 6))) (ma_e (me_str))) (mss_one (ms_expr (me_app (i := 2) (me_tup (ml_cons (me_nm 8) (ml_cons (me_slBo (ma_pk 5) (ma_pk 6) (ma_e (me_add (ma_pk 6) (ma_pk 7)))) (ml_cons (me_nm 4) (ml_cons (me_nm 6) (ml_nil))))))))) (mss_nil))
            (mss_one (ms_set (i := 6) sc__law_words.nd (me_add (ma_pk 6) (ma_pk 7)))))))))))
            (mss_one (ms_ret (me_add (ma_pk 2) (ma_e (me_lst (ml_cons (me_tup (ml_cons (me_str) (ml_cons (me_str) (ml_cons (me_sub (ma_e (me_len rfl h.g_len (ma_pk 3))) (ma_e (me_int))) (ml_cons (me_len rfl h.g_len (ma_e (me_ix (ma_pk 3) (ma_e (me_neg (ma_e (me_int))))))) (ml_nil)))))) (ml_nil)))))))))
def N__law_spoilt : List Str := ["pen", "text", "at", "way", "sign"]
theorem sc__law_spoilt : FnScope N__law_spoilt ["pen", "text"] (defScope (top 33)) := ⟨rfl, rfl, rfl, by decide +kernel, rfl, by decide +kernel, by decide +kernel⟩
def b__law_spoilt  : CS := sSeq (sPar 2 3 (cCall fn__law_draw (cCons (cNm 0) (cCons (cP2 addF (aE (cP1 lenF (aPk 1))) (aE (cC (.int 1)))) (cNil)))) (cCall fn__law_draw (cCons (cNm 0) (cCons (cC (.int 4)) (cNil)))))
    (sSeq (sSet 4 (cCall fn__law_pick (cCons (cNm 0) (cCons (cLst (cCons (cC (.str "_")) (cCons (cC (.str "!")) (cCons (cC (.str "=")) (cCons (cC (.str ":")) (cCons (cC (.str ">")) (cCons (cC (.str "\t")) (cCons (cC (.str "0")) (cCons (cC (.str "12")) (cCons (cC (.str "#")) (cCons (cC (.str "\n")) (cCons (cC (.str " ")) (cCons (cC (.str "a")) (cCons (cC (.str "Z9")) (cCons (cC (.str ",")) (cCons (cC (.str ".")) (cCons (cP2 mulF (aE (cC (.str "x"))) (aE (cC (.int 13)))) (cCons (cP2 mulF (aE (cC (.str "1"))) (aE (cC (.int 13)))) (cCons (cC (.str "10")) (cCons (cC (.str "-")) (cCons (cC (.str "=>")) (cCons (cC (.str "{")) (cCons (cC (.str "|")) (cCons (cP2 mulF (aE (cC (.str "a"))) (aE (cC (.int 12)))) (cCons (cP2 mulF (aE (cC (.str "b"))) (aE (cC (.int 12)))) (cCons (cC (.str "==")) (cCons (cC (.str "proc")) (cCons (cC (.str "out")) (cCons (cC (.str "<")) (cCons (cC (.str "loop")) (cCons (cC (.str "..")) (cNil)))))))))))))))))))))))))))))))) (cNil)))))
    (sSeq (sIf (tE (cP2 eqF (aPk 3) (aE (cC (.int 0))))) (sRet (cP2 addF (aE (cP2 slHiF (aPk 1) (aPk 2))) (aE (cP2 slLoF (aPk 1) (aE (cP2 addF (aPk 2) (aE (cC (.int 1))))))))) (sNil))
    (sSeq (sIf (tE (cP2 eqF (aPk 3) (aE (cC (.int 1))))) (sRet (cP2 addF (aE (cP2 addF (aE (cP2 slHiF (aPk 1) (aPk 2))) (aPk 4))) (aE (cP2 slLoF (aPk 1) (aE (cP2 addF (aPk 2) (aE (cC (.int 1))))))))) (sNil))
    (sRet (cP2 addF (aE (cP2 addF (aE (cP2 slHiF (aPk 1) (aPk 2))) (aPk 4))) (aE (cP2 slLoF (aPk 1) (aPk 2))))))))
def fn__law_spoilt : Fn := mkFn 2 5 b__law_spoilt
theorem ok__law_spoilt (h : Hd K mg) : DefOk P w K mg base C 3 2 "_law_spoilt" fn__law_spoilt := by
  obtain ⟨f, fd, F, hm⟩ := h.d__law_spoilt
  refine def_mk F.fun hm (F.bindsN (ps := ["pen", "text"]) fun _ _ _ _ _ _ us hl => match us, hl with | [_, _], _ => rfl) (def_ok F.fun sc__law_spoilt (by decide) fun cdv A outer s H E hr tk hp => ?_)
  exact mss_cons (ms_par (i := 2) (j := 3) rfl sc__law_spoilt.nd (me_call (ok__law_draw h) (hr.mono (by decide)) tk rfl (ml_cons (me_nm 0) (ml_cons (me_add (ma_e (me_len rfl h.g_len (ma_pk 1))) (ma_e (me_int))) (ml_nil)))) (me_call (ok__law_draw h) (hr.mono (by decide)) tk rfl (ml_cons (me_nm 0) (ml_cons (me_int) (ml_nil)))))
            (mss_cons (ms_set (i := 4) sc__law_spoilt.nd (me_call (ok__law_pick h) (hr.mono (by decide)) tk rfl (ml_cons (me_nm 0) (ml_cons (me_lst (ml_cons (me_str) (ml_cons (me_str) (ml_cons (me_str) (ml_cons (me_str) (ml_cons (me_str) (ml_cons (me_str) (ml_cons (me_str) (ml_cons (me_str) (ml_cons (me_str) (ml_cons (me_str) (ml_cons (me_str) (ml_cons (me_str) (ml_cons (me_str) (ml_cons (me_str) (ml_cons (me_str) (ml_cons (me_mul (ma_e (me_str)) (ma_e (me_int))) (ml_cons (me_mul (ma_e (me_str)) (ma_e (me_int))) (ml_cons (me_str) (ml_cons (me_str) (ml_cons (me_str) (ml_cons (me_str) (ml_cons (me_str) (ml_cons (me_mul (ma_e (me_str)) (ma_e (me_int))) (ml_cons (me_mul (ma_e (me_str)) (ma_e (me_int))) (ml_cons (me_str) (ml_cons (me_str) (ml_cons (me_str) (ml_cons (me_str) (ml_cons (me_str) (ml_cons (me_str) (ml_nil)))))))))))))))))))))))))))))))) (ml_nil)))))
            (mss_cons (ms_if (mt_eq hr (ma_pk 3) (ma_e (me_int))) (mss_one (ms_ret (me_add (ma_e (me_slHi (ma_pk 1) (ma_pk 2))) (ma_e (me_slLo (ma_pk 1) (ma_e (me_add (ma_pk 2) (ma_e (me_int))))))))) (mss_nil))
            (mss_cons (ms_if (mt_eq hr (ma_pk 3) (ma_e (me_int))) (mss_one (ms_ret (me_add (ma_e (me_add (ma_e (me_slHi (ma_pk 1) (ma_pk 2))) (ma_pk 4))) (ma_e (me_slLo (ma_pk 1) (ma_e (me_add (ma_pk 2) (ma_e (me_int))))))))) (mss_nil))
            (mss_one (ms_ret (me_add (ma_e (me_add (ma_e (me_slHi (ma_pk 1) (ma_pk 2))) (ma_pk 4))) (ma_e (me_slLo (ma_pk 1) (ma_pk 2)))))))))
def N__law_told_ok : List Str := ["told", "word"]
theorem sc__law_told_ok : FnScope N__law_told_ok ["told"] (defScope (top 34)) := ⟨rfl, rfl, rfl, by decide +kernel, rfl, by decide +kernel, by decide +kernel⟩
def l1__law_told_ok  : CE := cAnd (cP1 (isiF .tuple) (aPk 1)) (cAnd (cP2 eqF (aE (cP1 lenF (aPk 1))) (aE (cC (.int 4)))) (cAnd (cCall fn__law_is_int (cCons (cP2 ixF (aPk 1) (aE (cC (.int 2)))) (cNil))) (cCall fn__law_is_int (cCons (cP2 ixF (aPk 1) (aE (cC (.int 3)))) (cNil)))))
def b__law_told_ok  : CS := sRet (cAnd (cP1 (isiF .tuple) (aPk 0)) (cP1 allF (aE (cLc [1] (iSeq (cNm 0)) (gN 1) (tY) (l1__law_told_ok)))))
def fn__law_told_ok : Fn := mkFn 1 2 b__law_told_ok
theorem ok__law_told_ok (h : Hd K mg) : DefOk P w K mg base C 2 1 "_law_told_ok" fn__law_told_ok := by
  obtain ⟨f, fd, F, hm⟩ := h.d__law_told_ok
  refine def_mk F.fun hm (F.bindsN (ps := ["told"]) fun _ _ _ _ _ _ us hl => match us, hl with | [_], _ => rfl) (def_ok F.fun sc__law_told_ok (by decide) fun cdv A outer s H E hr tk hp => ?_)
  exact mss_one (ms_ret (me_and (me_isa .tuple h.g_isinstance h.g_tuple (by decide +kernel) (ma_pk 0)) (me_one (me_all rfl rfl h.g_all (ma_e (me_lc rfl sc__law_told_ok.nd (mi_seq (me_nm 0)) (ow := [("word", 1)]) (show BlkOk N__law_told_ok (defScope (top 34)) _ _ from ⟨rfl, by decide +kernel, by decide +kernel, by decide +kernel, by decide +kernel⟩) (by decide) (fun _ _ _ _ _ => mg_name (i := 1) sc__law_told_ok.nd) (fun _ _ _ _ _ => mts_nil) (fun _ _ _ _ _ => me_and (me_isa .tuple h.g_isinstance h.g_tuple (by decide +kernel) (ma_pk 1)) (me_and (me_eq hr (ma_e (me_len rfl h.g_len (ma_pk 1))) (ma_e (me_int))) (me_and (me_call (ok__law_is_int h) (hr.mono (by decide)) takes0 rfl (ml_cons (me_ix (ma_pk 1) (ma_e (me_int))) (ml_nil))) (me_one (me_call (ok__law_is_int h) (hr.mono (by decide)) takes0 rfl (ml_cons (me_ix (ma_pk 1) (ma_e (me_int))) (ml_nil)))))))))))))
def N_law : List Str := ["script", "pen", "tree", "lap", "text", "told", "change", "row", "sign", "odd"]
theorem sc_law : FnScope N_law ["script"] (defScope (top 35)) := ⟨rfl, rfl, rfl, by decide +kernel, rfl, by decide +kernel, by decide +kernel⟩
def d1_law  : CS := sIf (tE (cP2 neF (aE (cCall fn_words_of (cCons (cNm 9) (cNil)))) (aE (cTup (cCons (cTup (cCons (cC (.str "bad")) (cCons (cC (.str "text")) (cCons (cC (.int 0)) (cCons (cC (.int 0)) (cNil)))))) (cNil)))))) (sRet (cC (.bl false))) (sNil)
def l2_law  : CE := cCall fn__law_pick (cCons (cNm 1) (cCons (cP2 addF (aE (cP1 listF (aE (cC (.str "ab_09 ,;:=(){}#\n."))))) (aE (cLst (cCons (cC (.str "proc")) (cCons (cC (.str "only")) (cCons (cC (.str "either")) (cCons (cC (.str "given")) (cNil)))))))) (cNil)))
def d3_law  : CS := sSeq (sSet 4 (cCall fn__law_spoilt (cCons (cNm 1) (cCons (cNm 4) (cNil)))))
    (sSeq (sSet 5 (cCall fn_words_of (cCons (cNm 4) (cNil))))
    (sIf (tOrT (tE (cP2 neF (aPk 5) (aE (cP1 tupF (aE (cCall fn__law_words (cCons (cNm 4) (cNil)))))))) (tNotT (tE (cCall fn__law_told_ok (cCons (cNm 5) (cNil)))))) (sRet (cC (.bl false))) (sNil)))
def d4_law  : CS := sSeq (sSet 4 (cIf (tE (cP2 gtF (aPk 3) (aE (cC (.int 0))))) (cCall fn__law_loose_text (cCons (cNm 1) (cCons (cNm 2) (cNil)))) (cCall fn__law_text_of (cCons (cNm 2) (cNil)))))
    (sSeq (sSet 5 (cCall fn_words_of (cCons (cNm 4) (cNil))))
    (sSeq (sIf (tOrT (tE (cP2 neF (aPk 5) (aE (cP1 tupF (aE (cCall fn__law_words (cCons (cNm 4) (cNil)))))))) (tOrT (tNotT (tE (cCall fn__law_told_ok (cCons (cNm 5) (cNil))))) (tE (cP2 neF (aE (cP2 ixF (aE (cP2 ixF (aPk 5) (aE (cP1 negF (aE (cC (.int 1))))))) (aE (cC (.int 0))))) (aE (cC (.str "end"))))))) (sRet (cC (.bl false))) (sNil))
    (sFor (iRng1' (cC (.int 3))) (gN 6) (d3_law))))
def b_law  : CS := sSeq (sSet 1 (cCall fn__law_pen (cCons (cNm 0) (cNil))))
    (sSeq (sSet 2 (cCall fn__law_book (cCons (cNm 1) (cNil))))
    (sSeq (sFor (iRng1' (cC (.int 4))) (gN 3) (d4_law))
    (sSeq (sSet 7 (cM1 joinF (aE (cC (.str ""))) (aE (cLc [8] (iRng1' (cCall fn__law_draw (cCons (cNm 1) (cCons (cC (.int 30)) (cNil))))) (gN 8) (tY) (l2_law)))))
    (sSeq (sIf (tE (cP2 neF (aE (cCall fn_words_of (cCons (cNm 7) (cNil)))) (aE (cP1 tupF (aE (cCall fn__law_words (cCons (cNm 7) (cNil)))))))) (sRet (cC (.bl false))) (sNil))
    (sSeq (sFor (iSeq (cLst (cCons (cC .non) (cCons (cC (.int 5)) (cCons (cC (.bl true)) (cCons (cLst (cCons (cC (.str "a")) (cNil))) (cCons (cTup (cCons (cC (.str "a")) (cNil))) (cCons (cDis [.inr "a"] (cCons (cC (.int 1)) (cNil))) (cNil))))))))) (gN 9) (d1_law))
    (sSeq (sIf (tOrT (tE (cP2 neF (aE (cCall fn_words_of (cCons (cC (.str "")) (cNil)))) (aE (cTup (cCons (cTup (cCons (cC (.str "end")) (cCons (cC (.str "")) (cCons (cC (.int 0)) (cCons (cC (.int 0)) (cNil)))))) (cNil)))))) (tOrT (tE (cP2 neF (aE (cCall fn_words_of (cCons (cC (.str "a\n # b")) (cNil)))) (aE (cTup (cCons (cTup (cCons (cC (.str "name")) (cCons (cC (.str "a")) (cCons (cC (.int 0)) (cCons (cC (.int 0)) (cNil)))))) (cCons (cTup (cCons (cC (.str "end")) (cCons (cC (.str "")) (cCons (cC (.int 1)) (cCons (cC (.int 4)) (cNil)))))) (cNil))))))) (tE (cP2 neF (aE (cCall fn_words_of (cCons (cC (.str "x 1")) (cNil)))) (aE (cTup (cCons (cTup (cCons (cC (.str "name")) (cCons (cC (.str "x")) (cCons (cC (.int 0)) (cCons (cC (.int 0)) (cNil)))))) (cCons (cTup (cCons (cC (.str "bad")) (cCons (cC (.str "sign")) (cCons (cC (.int 0)) (cCons (cC (.int 2)) (cNil)))))) (cNil))))))))) (sRet (cC (.bl false))) (sNil))
    (sRet (cAnd (cP2 eqF (aE (cCall fn_words_of (cCons (cC (.str "f(x1)=")) (cNil)))) (aE (cTup (cCons (cTup (cCons (cC (.str "name")) (cCons (cC (.str "f")) (cCons (cC (.int 0)) (cCons (cC (.int 0)) (cNil)))))) (cCons (cTup (cCons (cC (.str "sign")) (cCons (cC (.str "(")) (cCons (cC (.int 0)) (cCons (cC (.int 1)) (cNil)))))) (cCons (cTup (cCons (cC (.str "name")) (cCons (cC (.str "x1")) (cCons (cC (.int 0)) (cCons (cC (.int 2)) (cNil)))))) (cCons (cTup (cCons (cC (.str "sign")) (cCons (cC (.str ")")) (cCons (cC (.int 0)) (cCons (cC (.int 4)) (cNil)))))) (cCons (cTup (cCons (cC (.str "sign")) (cCons (cC (.str "=")) (cCons (cC (.int 0)) (cCons (cC (.int 5)) (cNil)))))) (cCons (cTup (cCons (cC (.str "end")) (cCons (cC (.str "")) (cCons (cC (.int 0)) (cCons (cC (.int 6)) (cNil)))))) (cNil)))))))))) (cP2 eqF (aE (cCall fn_words_of (cCons (cC (.str "out gives")) (cNil)))) (aE (cTup (cCons (cTup (cCons (cC (.str "own")) (cCons (cC (.str "out")) (cCons (cC (.int 0)) (cCons (cC (.int 0)) (cNil)))))) (cCons (cTup (cCons (cC (.str "name")) (cCons (cC (.str "gives")) (cCons (cC (.int 0)) (cCons (cC (.int 4)) (cNil)))))) (cCons (cTup (cCons (cC (.str "end")) (cCons (cC (.str "")) (cCons (cC (.int 0)) (cCons (cC (.int 9)) (cNil)))))) (cNil)))))))))))))))
def fn_law : Fn := mkFn 1 10 b_law
theorem fnok_law (h : Hd K mg) {f : Addr} {fd : FuncData} (F : FunD K "law" "law" (defArgs (top 35)) (defBody (top 35)) (defScope (top 35)) [] [] f fd) : FnOk P w K mg base (L2.CX P w) 18 f fd ["script"] (spF ⟨K, C⟩ 1 fn_law) := by
  refine def_ok F.fun sc_law (by decide) fun cdv A outer s H E hr tk hp => ?_
  exact mss_cons (ms_set (i := 1) sc_law.nd (me_call (ok__law_pen h) (hr.mono (by decide)) tk rfl (ml_cons (me_nm 0) (ml_nil))))
            (mss_cons (ms_set (i := 2) sc_law.nd (me_call (ok__law_book h) (hr.mono (by decide)) tk rfl (ml_cons (me_nm 1) (ml_nil))))
            (mss_cons (ms_for hp rfl (mi_rng1 rfl h.g_range (me_int)) (mg_name (i := 3) sc_law.nd) (mss_cons (ms_set (i := 4) sc_law.nd (me_if (mt_gt (ma_pk 3) (ma_e (me_int))) (me_call (ok__law_loose_text h) (hr.mono (by decide)) tk rfl (ml_cons (me_nm 1) (ml_cons (me_nm 2) (ml_nil)))) (me_call (ok__law_text_of h) (hr.mono (by decide)) tk rfl (ml_cons (me_nm 2) (ml_nil)))))
            (mss_cons (ms_set (i := 5) sc_law.nd (me_call (ok_words_of h) (hr.mono (by decide)) tk rfl (ml_cons (me_nm 4) (ml_nil))))
            (mss_cons (ms_if (mw_t (mw_or (mt_ne hr (ma_pk 5) (ma_e (me_totup rfl h.g_tuple (ma_e (me_call (ok__law_words h) (hr.mono (by decide)) tk rfl (ml_cons (me_nm 4) (ml_nil))))))) (mw_or (mt_not (mt_e (me_call (ok__law_told_ok h) (hr.mono (by decide)) tk rfl (ml_cons (me_nm 5) (ml_nil))))) (mw_or1 (mt_ne hr (ma_e (me_ix (ma_e (me_ix (ma_pk 5) (ma_e (me_neg (ma_e (me_int)))))) (ma_e (me_int)))) (ma_e (me_str))))))) (mss_one (ms_ret (me_bl))) (mss_nil))
            (mss_one (ms_for hp rfl (mi_rng1 rfl h.g_range (me_int)) (mg_name (i := 6) sc_law.nd) (mss_cons (ms_set (i := 4) sc_law.nd (me_call (ok__law_spoilt h) (hr.mono (by decide)) tk rfl (ml_cons (me_nm 1) (ml_cons (me_nm 4) (ml_nil)))))
            (mss_cons (ms_set (i := 5) sc_law.nd (me_call (ok_words_of h) (hr.mono (by decide)) tk rfl (ml_cons (me_nm 4) (ml_nil))))
            (mss_one (ms_if (mw_t (mw_or (mt_ne hr (ma_pk 5) (ma_e (me_totup rfl h.g_tuple (ma_e (me_call (ok__law_words h) (hr.mono (by decide)) tk rfl (ml_cons (me_nm 4) (ml_nil))))))) (mw_or1 (mt_not (mt_e (me_call (ok__law_told_ok h) (hr.mono (by decide)) tk rfl (ml_cons (me_nm 5) (ml_nil)))))))) (mss_one (ms_ret (me_bl))) (mss_nil)))))))))))
            (mss_cons (ms_set (i := 7) sc_law.nd (me_join (ma_e (me_str)) (ma_e (me_lc rfl sc_law.nd (mi_rng1 rfl h.g_range (me_call (ok__law_draw h) (hr.mono (by decide)) tk rfl (ml_cons (me_nm 1) (ml_cons (me_int) (ml_nil))))) (ow := [("sign", 8)]) (show BlkOk N_law (defScope (top 35)) _ _ from ⟨rfl, by decide +kernel, by decide +kernel, by decide +kernel, by decide +kernel⟩) (by decide) (fun _ _ _ _ _ => mg_name (i := 8) sc_law.nd) (fun _ _ _ _ _ => mts_nil) (fun _ _ _ _ _ => me_call (ok__law_pick h) (hr.mono (by decide)) takes0 rfl (ml_cons (me_nm 1) (ml_cons (me_add (ma_e (me_tolist rfl rfl h.g_list (ma_e (me_str)))) (ma_e (me_lst (ml_cons (me_str) (ml_cons (me_str) (ml_cons (me_str) (ml_cons (me_str) (ml_nil)))))))) (ml_nil))))))))
            (mss_cons (ms_if (mt_ne hr (ma_e (me_call (ok_words_of h) (hr.mono (by decide)) tk rfl (ml_cons (me_nm 7) (ml_nil)))) (ma_e (me_totup rfl h.g_tuple (ma_e (me_call (ok__law_words h) (hr.mono (by decide)) tk rfl (ml_cons (me_nm 7) (ml_nil))))))) (mss_one (ms_ret (me_bl))) (mss_nil))
            (mss_cons (ms_for hp rfl (mi_seq (me_lst (ml_cons (me_non) (ml_cons (me_int) (ml_cons (me_bl) (ml_cons (me_lst (ml_cons (me_str) (ml_nil))) (ml_cons (me_tup (ml_cons (me_str) (ml_nil))) (ml_cons (me_dis (mp_cons (me_int) (mp_nil))) (ml_nil))))))))) (mg_name (i := 9) sc_law.nd) (mss_one (ms_if (mt_ne hr (ma_e (me_call (ok_words_of h) (hr.mono (by decide)) tk rfl (ml_cons (me_nm 9) (ml_nil)))) (ma_e (me_tup (ml_cons (me_tup (ml_cons (me_str) (ml_cons (me_str) (ml_cons (me_int) (ml_cons (me_int) (ml_nil)))))) (ml_nil))))) (mss_one (ms_ret (me_bl))) (mss_nil))))
            (mss_cons (ms_if (mw_t (mw_or (mt_ne hr (ma_e (me_call (ok_words_of h) (hr.mono (by decide)) tk rfl (ml_cons (me_str) (ml_nil)))) (ma_e (me_tup (ml_cons (me_tup (ml_cons (me_str) (ml_cons (me_str) (ml_cons (me_int) (ml_cons (me_int) (ml_nil)))))) (ml_nil))))) (mw_or (mt_ne hr (ma_e (me_call (ok_words_of h) (hr.mono (by decide)) tk rfl (ml_cons (me_str) (ml_nil)))) (ma_e (me_tup (ml_cons (me_tup (ml_cons (me_str) (ml_cons (me_str) (ml_cons (me_int) (ml_cons (me_int) (ml_nil)))))) (ml_cons (me_tup (ml_cons (me_str) (ml_cons (me_str) (ml_cons (me_int) (ml_cons (me_int) (ml_nil)))))) (ml_nil)))))) (mw_or1 (mt_ne hr (ma_e (me_call (ok_words_of h) (hr.mono (by decide)) tk rfl (ml_cons (me_str) (ml_nil)))) (ma_e (me_tup (ml_cons (me_tup (ml_cons (me_str) (ml_cons (me_str) (ml_cons (me_int) (ml_cons (me_int) (ml_nil)))))) (ml_cons (me_tup (ml_cons (me_str) (ml_cons (me_str) (ml_cons (me_int) (ml_cons (me_int) (ml_nil)))))) (ml_nil)))))))))) (mss_one (ms_ret (me_bl))) (mss_nil))
            (mss_one (ms_ret (me_and (me_eq hr (ma_e (me_call (ok_words_of h) (hr.mono (by decide)) tk rfl (ml_cons (me_str) (ml_nil)))) (ma_e (me_tup (ml_cons (me_tup (ml_cons (me_str) (ml_cons (me_str) (ml_cons (me_int) (ml_cons (me_int) (ml_nil)))))) (ml_cons (me_tup (ml_cons (me_str) (ml_cons (me_str) (ml_cons (me_int) (ml_cons (me_int) (ml_nil)))))) (ml_cons (me_tup (ml_cons (me_str) (ml_cons (me_str) (ml_cons (me_int) (ml_cons (me_int) (ml_nil)))))) (ml_cons (me_tup (ml_cons (me_str) (ml_cons (me_str) (ml_cons (me_int) (ml_cons (me_int) (ml_nil)))))) (ml_cons (me_tup (ml_cons (me_str) (ml_cons (me_str) (ml_cons (me_int) (ml_cons (me_int) (ml_nil)))))) (ml_cons (me_tup (ml_cons (me_str) (ml_cons (me_str) (ml_cons (me_int) (ml_cons (me_int) (ml_nil)))))) (ml_nil)))))))))) (me_one (me_eq hr (ma_e (me_call (ok_words_of h) (hr.mono (by decide)) tk rfl (ml_cons (me_str) (ml_nil)))) (ma_e (me_tup (ml_cons (me_tup (ml_cons (me_str) (ml_cons (me_str) (ml_cons (me_int) (ml_cons (me_int) (ml_nil)))))) (ml_cons (me_tup (ml_cons (me_str) (ml_cons (me_str) (ml_cons (me_int) (ml_cons (me_int) (ml_nil)))))) (ml_cons (me_tup (ml_cons (me_str) (ml_cons (me_str) (ml_cons (me_int) (ml_cons (me_int) (ml_nil)))))) (ml_nil)))))))))))))))))
end
end W44

set_option Elab.async false
set_option linter.all false
set_option maxRecDepth 100000
set_option maxHeartbeats 1000000
namespace W44
open PySem Mi
def lettersL : List Nat := "abcdefghijklmnopqrstuvwxyzABCDEFGHIJKLMNOPQRSTUVWXYZ".toList.map Char.toNat
def wordsL : List Nat := "abcdefghijklmnopqrstuvwxyzABCDEFGHIJKLMNOPQRSTUVWXYZ0123456789_".toList.map Char.toNat
def onesL : List Nat := "=;,(){}".toList.map Char.toNat
theorem str_T {s : Str} {l : List Nat} (h : s.cps.toList = l) : W.str s = .str (T l) := by rw [← h, T_eta]
theorem k_letters : k_LETTERS = .str (T lettersL) := str_T (by decide +kernel)
theorem k_signs : k_SIGNS = .str (T wordsL) := str_T (by decide +kernel)
theorem k_ones : k_ONE_SIGNS = .str (T onesL) := str_T (by decide +kernel)
/-- the run of word signs at the head -/
def wrun (l : List Nat) : Nat := (l.takeWhile fun c => decide (c ∈ wordsL)).length
theorem wrun_nil : wrun [] = 0 := rfl
theorem wrun_in {c : Nat} {l : List Nat} (h : c ∈ wordsL) : wrun (c :: l) = wrun l + 1 := by
  unfold wrun
  rw [List.takeWhile_cons_of_pos (by simpa using h)]
  rfl
theorem wrun_out {c : Nat} {l : List Nat} (h : c ∉ wordsL) : wrun (c :: l) = 0 := by
  unfold wrun
  rw [List.takeWhile_cons_of_neg (by simpa using h)]
  rfl
theorem wrun_le (l : List Nat) : wrun l ≤ l.length := (List.takeWhile_sublist _).length_le
theorem row_end_ev (l : List Nat) (i : Nat) (h : List MO) (hl : l.length ≤ 16777216) (hi : i ≤ l.length) : fn_row_end [.str (T l), .int i, .str (T wordsL)] h = .ok (.w (.int ((i + wrun (l.drop i) : Nat) : Int))) h := by
  have loop : sWhile c1_row_end d2_row_end ⟨[.val (.str (T l)), .val (.int i), .val (.str (T wordsL)), .val (.int i)], h⟩ = .nx ⟨[.val (.str (T l)), .val (.int i), .val (.str (T wordsL)), .val (.int ((i + wrun (l.drop i) : Nat) : Int))], h⟩ := by
    refine while_to (m := l.length - i) (fun m S => ∃ j, m = l.length - j ∧ j ≤ l.length ∧ S = ⟨[.val (.str (T l)), .val (.int i), .val (.str (T wordsL)), .val (.int j)], h⟩ ∧ j + wrun (l.drop j) = i + wrun (l.drop i))
      (fun o => o = .nx ⟨[.val (.str (T l)), .val (.int i), .val (.str (T wordsL)), .val (.int ((i + wrun (l.drop i) : Nat) : Int))], h⟩) ?_ ⟨i, rfl, hi, rfl, rfl⟩ (by omega)
    rintro m S ⟨j, rfl, hj, rfl, e⟩
    by_cases hlt : j < l.length
    · have ej := List.getElem?_eq_getElem hlt
      have ed := List.drop_eq_getElem_cons hlt
      by_cases hin : l[j] ∈ wordsL
      · simp only [c1_row_end, sSeq, sSet, sNil, sExp, sRet, sRetN, sCt, sBk, sIf, sAsg, sPar, sAug, sPut, ofG, cC, cNm, cP1, cP2, cP3, cM0, cM1, cNil, cCons, cTup, cLst, cIf, cNot, cAnd, cOr, cCall, cDGet, cDis, cObj, cDis0, cApp, cPopAt, cPop, cSlBo, cLc, tE, tNotT, tAndT, tOrT, tY, aE, aPk, iSeq, ofI, M.bind, M.thn, M.bindN, Fl.thn, Arg.get, R.sl, R.val, stSl, retO, gN, gsN, gsC, gSq, wipeS, mkFn, List.foldr_cons, List.foldr_nil, List.length_cons, List.length_nil, List.map_cons, List.map_nil, List.replicate, List.append_eq, List.cons_append, List.nil_append, List.getElem?_cons_zero, List.getElem?_cons_succ, List.set_cons_zero, List.set_cons_succ, if_true, if_false, Nat.zero_add, Nat.reduceAdd, Nat.reduceSub, Nat.reduceLT, Nat.reduceLeDiff, Nat.reduceEqDiff, Bool.not_true, Bool.not_false, Bool.false_eq_true, Option.map_some, Option.bind_some, and_self, true_and, and_true, reduceCtorEq, len_T l hl, ltF, cmpI, ix_T l j l[j] hl ej, in_T, Int.ofNat_lt, hlt, hin, decide_true, Ev, d2_row_end, iaddF, Turn]
        refine ⟨l.length - (j + 1), by omega, j + 1, rfl, hlt, rfl, ?_⟩
        rw [ed, wrun_in hin] at e
        omega
      · simp only [c1_row_end, sSeq, sSet, sNil, sExp, sRet, sRetN, sCt, sBk, sIf, sAsg, sPar, sAug, sPut, ofG, cC, cNm, cP1, cP2, cP3, cM0, cM1, cNil, cCons, cTup, cLst, cIf, cNot, cAnd, cOr, cCall, cDGet, cDis, cObj, cDis0, cApp, cPopAt, cPop, cSlBo, cLc, tE, tNotT, tAndT, tOrT, tY, aE, aPk, iSeq, ofI, M.bind, M.thn, M.bindN, Fl.thn, Arg.get, R.sl, R.val, stSl, retO, gN, gsN, gsC, gSq, wipeS, mkFn, List.foldr_cons, List.foldr_nil, List.length_cons, List.length_nil, List.map_cons, List.map_nil, List.replicate, List.append_eq, List.cons_append, List.nil_append, List.getElem?_cons_zero, List.getElem?_cons_succ, List.set_cons_zero, List.set_cons_succ, if_true, if_false, Nat.zero_add, Nat.reduceAdd, Nat.reduceSub, Nat.reduceLT, Nat.reduceLeDiff, Nat.reduceEqDiff, Bool.not_true, Bool.not_false, Bool.false_eq_true, Option.map_some, Option.bind_some, and_self, true_and, and_true, reduceCtorEq, len_T l hl, ltF, cmpI, ix_T l j l[j] hl ej, in_T, Int.ofNat_lt, hlt, hin, decide_true, decide_false, Ev]
        rw [ed, wrun_out hin] at e
        rw [← e] <;> rfl
    · simp only [c1_row_end, sSeq, sSet, sNil, sExp, sRet, sRetN, sCt, sBk, sIf, sAsg, sPar, sAug, sPut, ofG, cC, cNm, cP1, cP2, cP3, cM0, cM1, cNil, cCons, cTup, cLst, cIf, cNot, cAnd, cOr, cCall, cDGet, cDis, cObj, cDis0, cApp, cPopAt, cPop, cSlBo, cLc, tE, tNotT, tAndT, tOrT, tY, aE, aPk, iSeq, ofI, M.bind, M.thn, M.bindN, Fl.thn, Arg.get, R.sl, R.val, stSl, retO, gN, gsN, gsC, gSq, wipeS, mkFn, List.foldr_cons, List.foldr_nil, List.length_cons, List.length_nil, List.map_cons, List.map_nil, List.replicate, List.append_eq, List.cons_append, List.nil_append, List.getElem?_cons_zero, List.getElem?_cons_succ, List.set_cons_zero, List.set_cons_succ, if_true, if_false, Nat.zero_add, Nat.reduceAdd, Nat.reduceSub, Nat.reduceLT, Nat.reduceLeDiff, Nat.reduceEqDiff, Bool.not_true, Bool.not_false, Bool.false_eq_true, Option.map_some, Option.bind_some, and_self, true_and, and_true, reduceCtorEq, len_T l hl, ltF, cmpI, Int.ofNat_lt, hlt, decide_false, Ev]
      rw [List.drop_eq_nil_of_le (by omega), wrun_nil] at e
      rw [← e] <;> rfl
  simp only [fn_row_end, b_row_end, N_row_end, sSeq, sSet, sNil, sExp, sRet, sRetN, sCt, sBk, sIf, sAsg, sPar, sAug, sPut, ofG, cC, cNm, cP1, cP2, cP3, cM0, cM1, cNil, cCons, cTup, cLst, cIf, cNot, cAnd, cOr, cCall, cDGet, cDis, cObj, cDis0, cApp, cPopAt, cPop, cSlBo, cLc, tE, tNotT, tAndT, tOrT, tY, aE, aPk, iSeq, ofI, M.bind, M.thn, M.bindN, Fl.thn, Arg.get, R.sl, R.val, stSl, retO, gN, gsN, gsC, gSq, wipeS, mkFn, List.foldr_cons, List.foldr_nil, List.length_cons, List.length_nil, List.map_cons, List.map_nil, List.replicate, List.append_eq, List.cons_append, List.nil_append, List.getElem?_cons_zero, List.getElem?_cons_succ, List.set_cons_zero, List.set_cons_succ, if_true, if_false, Nat.zero_add, Nat.reduceAdd, Nat.reduceSub, Nat.reduceLT, Nat.reduceLeDiff, Nat.reduceEqDiff, Bool.not_true, Bool.not_false, Bool.false_eq_true, Option.map_some, Option.bind_some, and_self, true_and, and_true, reduceCtorEq]
  rw [loop]
  rfl
/-! ### words -/
def ownsS : List Str := ["drop", "either", "give", "given", "look", "loop", "new", "only", "or", "out", "proc", "set", "use"]
theorem k_owns : k_OWN_WORDS = .tup (ownsS.map W.str) := rfl
theorem k_longest : k_LONGEST_WORD = .int 12 := rfl
def kindOf (x : Str) : Str := if x ∈ ownsS then "own" else "name"
theorem letter_sub {c : Nat} (h : c ∈ lettersL) : c ∈ wordsL := by
  have : ∀ c ∈ lettersL, c ∈ wordsL := by decide +kernel
  exact this c h
theorem letter_word_ev (l : List Nat) (i : Nat) (h : List MO) (hl : l.length ≤ 16777216) (hi : i ≤ l.length) : fn_letter_word [.str (T l), .int i] h =
    .ok (.w (if 12 < wrun (l.drop i) then .tup [.str "bad", .str "word"] else .tup [.str (kindOf (T ((l.drop i).take (wrun (l.drop i))))), .str (T ((l.drop i).take (wrun (l.drop i))))])) h := by
  have le : i + wrun (l.drop i) ≤ l.length := by
    have := wrun_le (l.drop i)
    rw [List.length_drop] at this
    omega
  have lt : ((l.drop i).take (wrun (l.drop i))).length = wrun (l.drop i) := by
    rw [List.length_take, List.length_drop]
    omega
  have e1 : i + wrun (l.drop i) - i = wrun (l.drop i) := by omega
  simp only [fn_letter_word, b_letter_word, N_letter_word, sSeq, sSet, sNil, sExp, sRet, sRetN, sCt, sBk, sIf, sAsg, sPar, sAug, sPut, ofG, cC, cNm, cP1, cP2, cP3, cM0, cM1, cNil, cCons, cTup, cLst, cIf, cNot, cAnd, cOr, cCall, cDGet, cDis, cObj, cDis0, cApp, cPopAt, cPop, cSlBo, cLc, tE, tNotT, tAndT, tOrT, tY, aE, aPk, iSeq, ofI, M.bind, M.thn, M.bindN, Fl.thn, Arg.get, R.sl, R.val, stSl, retO, gN, gsN, gsC, gSq, wipeS, mkFn, List.foldr_cons, List.foldr_nil, List.length_cons, List.length_nil, List.map_cons, List.map_nil, List.replicate, List.append_eq, List.cons_append, List.nil_append, List.getElem?_cons_zero, List.getElem?_cons_succ, List.set_cons_zero, List.set_cons_succ, if_true, if_false, Nat.zero_add, Nat.reduceAdd, Nat.reduceSub, Nat.reduceLT, Nat.reduceLeDiff, Nat.reduceEqDiff, Bool.not_true, Bool.not_false, Bool.false_eq_true, Option.map_some, Option.bind_some, and_self, true_and, and_true, reduceCtorEq, k_signs, row_end_ev l i h hl hi, slBoF, slBo_T l i _ hl le (Nat.le_add_right _ _), e1, k_longest, len_T _ (show ((l.drop i).take (wrun (l.drop i))).length ≤ 16777216 by omega), lt, gtF, cmpI]
  by_cases g : 12 < wrun (l.drop i)
  · have g' : (12 : Int) < (wrun (l.drop i) : Int) := by omega
    simp only [g, g', decide_true, sSeq, sSet, sNil, sExp, sRet, sRetN, sCt, sBk, sIf, sAsg, sPar, sAug, sPut, ofG, cC, cNm, cP1, cP2, cP3, cM0, cM1, cNil, cCons, cTup, cLst, cIf, cNot, cAnd, cOr, cCall, cDGet, cDis, cObj, cDis0, cApp, cPopAt, cPop, cSlBo, cLc, tE, tNotT, tAndT, tOrT, tY, aE, aPk, iSeq, ofI, M.bind, M.thn, M.bindN, Fl.thn, Arg.get, R.sl, R.val, stSl, retO, gN, gsN, gsC, gSq, wipeS, mkFn, List.foldr_cons, List.foldr_nil, List.length_cons, List.length_nil, List.map_cons, List.map_nil, List.replicate, List.append_eq, List.cons_append, List.nil_append, List.getElem?_cons_zero, List.getElem?_cons_succ, List.set_cons_zero, List.set_cons_succ, if_true, if_false, Nat.zero_add, Nat.reduceAdd, Nat.reduceSub, Nat.reduceLT, Nat.reduceLeDiff, Nat.reduceEqDiff, Bool.not_true, Bool.not_false, Bool.false_eq_true, Option.map_some, Option.bind_some, and_self, true_and, and_true, reduceCtorEq]
  · have g' : ¬ (12 : Int) < (wrun (l.drop i) : Int) := by omega
    simp only [g, g', decide_false, sSeq, sSet, sNil, sExp, sRet, sRetN, sCt, sBk, sIf, sAsg, sPar, sAug, sPut, ofG, cC, cNm, cP1, cP2, cP3, cM0, cM1, cNil, cCons, cTup, cLst, cIf, cNot, cAnd, cOr, cCall, cDGet, cDis, cObj, cDis0, cApp, cPopAt, cPop, cSlBo, cLc, tE, tNotT, tAndT, tOrT, tY, aE, aPk, iSeq, ofI, M.bind, M.thn, M.bindN, Fl.thn, Arg.get, R.sl, R.val, stSl, retO, gN, gsN, gsC, gSq, wipeS, mkFn, List.foldr_cons, List.foldr_nil, List.length_cons, List.length_nil, List.map_cons, List.map_nil, List.replicate, List.append_eq, List.cons_append, List.nil_append, List.getElem?_cons_zero, List.getElem?_cons_succ, List.set_cons_zero, List.set_cons_succ, if_true, if_false, Nat.zero_add, Nat.reduceAdd, Nat.reduceSub, Nat.reduceLT, Nat.reduceLeDiff, Nat.reduceEqDiff, Bool.not_true, Bool.not_false, Bool.false_eq_true, Option.map_some, Option.bind_some, and_self, true_and, and_true, reduceCtorEq, k_owns, in_strs, kindOf]
    by_cases o : T ((l.drop i).take (wrun (l.drop i))) ∈ ownsS
    · simp only [o, decide_true, sSeq, sSet, sNil, sExp, sRet, sRetN, sCt, sBk, sIf, sAsg, sPar, sAug, sPut, ofG, cC, cNm, cP1, cP2, cP3, cM0, cM1, cNil, cCons, cTup, cLst, cIf, cNot, cAnd, cOr, cCall, cDGet, cDis, cObj, cDis0, cApp, cPopAt, cPop, cSlBo, cLc, tE, tNotT, tAndT, tOrT, tY, aE, aPk, iSeq, ofI, M.bind, M.thn, M.bindN, Fl.thn, Arg.get, R.sl, R.val, stSl, retO, gN, gsN, gsC, gSq, wipeS, mkFn, List.foldr_cons, List.foldr_nil, List.length_cons, List.length_nil, List.map_cons, List.map_nil, List.replicate, List.append_eq, List.cons_append, List.nil_append, List.getElem?_cons_zero, List.getElem?_cons_succ, List.set_cons_zero, List.set_cons_succ, if_true, if_false, Nat.zero_add, Nat.reduceAdd, Nat.reduceSub, Nat.reduceLT, Nat.reduceLeDiff, Nat.reduceEqDiff, Bool.not_true, Bool.not_false, Bool.false_eq_true, Option.map_some, Option.bind_some, and_self, true_and, and_true, reduceCtorEq]
    · simp only [o, decide_false, sSeq, sSet, sNil, sExp, sRet, sRetN, sCt, sBk, sIf, sAsg, sPar, sAug, sPut, ofG, cC, cNm, cP1, cP2, cP3, cM0, cM1, cNil, cCons, cTup, cLst, cIf, cNot, cAnd, cOr, cCall, cDGet, cDis, cObj, cDis0, cApp, cPopAt, cPop, cSlBo, cLc, tE, tNotT, tAndT, tOrT, tY, aE, aPk, iSeq, ofI, M.bind, M.thn, M.bindN, Fl.thn, Arg.get, R.sl, R.val, stSl, retO, gN, gsN, gsC, gSq, wipeS, mkFn, List.foldr_cons, List.foldr_nil, List.length_cons, List.length_nil, List.map_cons, List.map_nil, List.replicate, List.append_eq, List.cons_append, List.nil_append, List.getElem?_cons_zero, List.getElem?_cons_succ, List.set_cons_zero, List.set_cons_succ, if_true, if_false, Nat.zero_add, Nat.reduceAdd, Nat.reduceSub, Nat.reduceLT, Nat.reduceLeDiff, Nat.reduceEqDiff, Bool.not_true, Bool.not_false, Bool.false_eq_true, Option.map_some, Option.bind_some, and_self, true_and, and_true, reduceCtorEq]
theorem word_from_ev (l : List Nat) (i : Nat) (c : Nat) (r : List Nat) (h : List MO) (hl : l.length ≤ 16777216) (ed : l.drop i = c :: r) : fn_word_from [.str (T l), .int i] h =
    .ok (.w (if c ∈ lettersL then (if 12 < wrun r + 1 then .tup [.str "bad", .str "word"] else .tup [.str (kindOf (T (c :: r.take (wrun r)))), .str (T (c :: r.take (wrun r)))]) else if c ∈ onesL then .tup [.str "sign", .str (T [c])] else .tup [.str "bad", .str "sign"])) h := by
  have hi : i < l.length := by
    have := congrArg List.length ed
    rw [List.length_drop, List.length_cons] at this
    omega
  have e : l[i]? = some c := by
    rw [← List.head?_drop, ed]
    rfl
  by_cases g : c ∈ lettersL
  · simp only [fn_word_from, b_word_from, N_word_from, sSeq, sSet, sNil, sExp, sRet, sRetN, sCt, sBk, sIf, sAsg, sPar, sAug, sPut, ofG, cC, cNm, cP1, cP2, cP3, cM0, cM1, cNil, cCons, cTup, cLst, cIf, cNot, cAnd, cOr, cCall, cDGet, cDis, cObj, cDis0, cApp, cPopAt, cPop, cSlBo, cLc, tE, tNotT, tAndT, tOrT, tY, aE, aPk, iSeq, ofI, M.bind, M.thn, M.bindN, Fl.thn, Arg.get, R.sl, R.val, stSl, retO, gN, gsN, gsC, gSq, wipeS, mkFn, List.foldr_cons, List.foldr_nil, List.length_cons, List.length_nil, List.map_cons, List.map_nil, List.replicate, List.append_eq, List.cons_append, List.nil_append, List.getElem?_cons_zero, List.getElem?_cons_succ, List.set_cons_zero, List.set_cons_succ, if_true, if_false, Nat.zero_add, Nat.reduceAdd, Nat.reduceSub, Nat.reduceLT, Nat.reduceLeDiff, Nat.reduceEqDiff, Bool.not_true, Bool.not_false, Bool.false_eq_true, Option.map_some, Option.bind_some, and_self, true_and, and_true, reduceCtorEq, ix_T l i c hl e, k_letters, in_T, g, decide_true, letter_word_ev l i h hl (Nat.le_of_lt hi), ed, wrun_in (letter_sub g), List.take_succ_cons]
  · by_cases o : c ∈ onesL
    · simp only [fn_word_from, b_word_from, N_word_from, sSeq, sSet, sNil, sExp, sRet, sRetN, sCt, sBk, sIf, sAsg, sPar, sAug, sPut, ofG, cC, cNm, cP1, cP2, cP3, cM0, cM1, cNil, cCons, cTup, cLst, cIf, cNot, cAnd, cOr, cCall, cDGet, cDis, cObj, cDis0, cApp, cPopAt, cPop, cSlBo, cLc, tE, tNotT, tAndT, tOrT, tY, aE, aPk, iSeq, ofI, M.bind, M.thn, M.bindN, Fl.thn, Arg.get, R.sl, R.val, stSl, retO, gN, gsN, gsC, gSq, wipeS, mkFn, List.foldr_cons, List.foldr_nil, List.length_cons, List.length_nil, List.map_cons, List.map_nil, List.replicate, List.append_eq, List.cons_append, List.nil_append, List.getElem?_cons_zero, List.getElem?_cons_succ, List.set_cons_zero, List.set_cons_succ, if_true, if_false, Nat.zero_add, Nat.reduceAdd, Nat.reduceSub, Nat.reduceLT, Nat.reduceLeDiff, Nat.reduceEqDiff, Bool.not_true, Bool.not_false, Bool.false_eq_true, Option.map_some, Option.bind_some, and_self, true_and, and_true, reduceCtorEq, ix_T l i c hl e, k_letters, k_ones, in_T, g, o, decide_true, decide_false]
    · simp only [fn_word_from, b_word_from, N_word_from, sSeq, sSet, sNil, sExp, sRet, sRetN, sCt, sBk, sIf, sAsg, sPar, sAug, sPut, ofG, cC, cNm, cP1, cP2, cP3, cM0, cM1, cNil, cCons, cTup, cLst, cIf, cNot, cAnd, cOr, cCall, cDGet, cDis, cObj, cDis0, cApp, cPopAt, cPop, cSlBo, cLc, tE, tNotT, tAndT, tOrT, tY, aE, aPk, iSeq, ofI, M.bind, M.thn, M.bindN, Fl.thn, Arg.get, R.sl, R.val, stSl, retO, gN, gsN, gsC, gSq, wipeS, mkFn, List.foldr_cons, List.foldr_nil, List.length_cons, List.length_nil, List.map_cons, List.map_nil, List.replicate, List.append_eq, List.cons_append, List.nil_append, List.getElem?_cons_zero, List.getElem?_cons_succ, List.set_cons_zero, List.set_cons_succ, if_true, if_false, Nat.zero_add, Nat.reduceAdd, Nat.reduceSub, Nat.reduceLT, Nat.reduceLeDiff, Nat.reduceEqDiff, Bool.not_true, Bool.not_false, Bool.false_eq_true, Option.map_some, Option.bind_some, and_self, true_and, and_true, reduceCtorEq, ix_T l i c hl e, k_letters, k_ones, in_T, g, o, decide_true, decide_false]
/-- a word as it is told -/
def tok (k : Str) (t : Str) (row col : Nat) : W := .tup [.str k, .str t, .int row, .int col]
/-- a line's words; whether the last one is none -/
def lexL (row : Nat) (col : Nat) : List Nat → List W × Bool
  | [] => ([], false)
  | c :: r =>
    if c = 35 then ([], false)
    else if c = 32 then lexL row (col + 1) r
    else if c ∈ lettersL then
      (if 12 < wrun r + 1 then ([tok "bad" "word" row col], true)
      else (tok (kindOf (T (c :: r.take (wrun r)))) (T (c :: r.take (wrun r))) row col :: (lexL row (col + (wrun r + 1)) (r.drop (wrun r))).1, (lexL row (col + (wrun r + 1)) (r.drop (wrun r))).2))
    else if c ∈ onesL then (tok "sign" (T [c]) row col :: (lexL row (col + 1) r).1, (lexL row (col + 1) r).2)
    else ([tok "bad" "sign" row col], true)
termination_by l => l.length
decreasing_by all_goals simp_all <;> omega
theorem lexL_nil (row col : Nat) : lexL row col [] = ([], false) := by rw [lexL]
theorem kind_ne (x : Str) : kindOf x ≠ "bad" := by
  unfold kindOf
  split <;> decide +kernel
theorem kind_ok (x : Str) : PyData.strOk (kindOf x) = true := by
  unfold kindOf
  split <;> decide +kernel
theorem words_line (l : List Nat) (row : Nat) (tx : W) (ln : List W) (f : List W) (h : List MO) (s6 s7 : Sl) (hp : Pl l) (hl : l.length ≤ 16777216) (hf : f.length + l.length < 16777216) :
    ∃ S', S'.h = h ∧ sWhile c1_words_in d2_words_in ⟨[.val tx, .own (.lst f), .own (.lst ln), .val (.int row), .val (.str (T l)), .val (.int ((0 : Nat) : Int)), s6, s7], h⟩ =
      (if (lexL row 0 l).2 = true then .rt (.w (.lst (f ++ (lexL row 0 l).1))) S' else .nx S') ∧ ((lexL row 0 l).2 = false → ∃ (j : Nat) (t6 t7 : Sl), S' = ⟨[.val tx, .own (.lst (f ++ (lexL row 0 l).1)), .own (.lst ln), .val (.int row), .val (.str (T l)), .val (.int j), t6, t7], h⟩) := by
  refine while_to (m := l.length - 0) (fun m S => ∃ (j : Nat) (g : List W) (t6 t7 : Sl), m = l.length - j ∧ j ≤ l.length ∧ S = ⟨[.val tx, .own (.lst g), .own (.lst ln), .val (.int row), .val (.str (T l)), .val (.int j), t6, t7], h⟩ ∧
      g ++ (lexL row j (l.drop j)).1 = f ++ (lexL row 0 l).1 ∧ (lexL row j (l.drop j)).2 = (lexL row 0 l).2 ∧ g.length + (l.length - j) ≤ f.length + l.length)
    (fun o => ∃ S', S'.h = h ∧ o = (if (lexL row 0 l).2 = true then .rt (.w (.lst (f ++ (lexL row 0 l).1))) S' else .nx S') ∧ ((lexL row 0 l).2 = false → ∃ (j : Nat) (t6 t7 : Sl), S' = ⟨[.val tx, .own (.lst (f ++ (lexL row 0 l).1)), .own (.lst ln), .val (.int row), .val (.str (T l)), .val (.int j), t6, t7], h⟩))
    ?_ ⟨0, f, s6, s7, rfl, Nat.zero_le _, rfl, rfl, rfl, by omega⟩ (by omega)
  rintro m S ⟨j, g, t6, t7, rfl, hj, rfl, e1, e2, e3⟩
  have done : ∀ {o : List W} (q : (lexL row j (l.drop j)) = ([], false)), ∃ S' : Sta, S'.h = h ∧ Fl.nx ⟨[.val tx, .own (.lst g), .own (.lst ln), .val (.int row), .val (.str (T l)), .val (.int j), t6, t7], h⟩ = (if (lexL row 0 l).2 = true then .rt (.w (.lst (f ++ (lexL row 0 l).1))) S' else .nx S') ∧
      ((lexL row 0 l).2 = false → ∃ (j : Nat) (t6 t7 : Sl), S' = ⟨[.val tx, .own (.lst (f ++ (lexL row 0 l).1)), .own (.lst ln), .val (.int row), .val (.str (T l)), .val (.int j), t6, t7], h⟩) := fun {o} q => by
    rw [q] at e1 e2
    have e1' : g = f ++ (lexL row 0 l).1 := by simpa using e1
    refine ⟨⟨[.val tx, .own (.lst g), .own (.lst ln), .val (.int row), .val (.str (T l)), .val (.int j), t6, t7], h⟩, rfl, ?_, fun _ => ⟨j, t6, t7, ?_⟩⟩
    · rw [← e2]
      simp
    · rw [← e1']
  by_cases lt : j < l.length
  · have ed := List.drop_eq_getElem_cons lt
    have ej := List.getElem?_eq_getElem lt
    have hc : l[j] < 1114112 := hp _ (List.getElem_mem lt)
    have ed1 : l.drop (j + 1) = (l.drop j).tail := by rw [ed] <;> rfl
    revert ed ej hc
    generalize l[j] = c
    intro ed ej hc
    have p1 : Pl [c] := fun d hd => by
      rw [List.mem_singleton.mp hd]
      exact hc
    have s35 : (W.str "#") = .str (T [35]) := str_T (by decide +kernel)
    have s32 : (W.str " ") = .str (T [32]) := str_T (by decide +kernel)
    have p35 : Pl [35] := by decide
    have p32 : Pl [32] := by decide
    by_cases q35 : c = 35
    · have q : decide ([c] = [35]) = true := by simp [q35]
      simp only [c1_words_in, sSeq, sSet, sNil, sExp, sRet, sRetN, sCt, sBk, sIf, sAsg, sPar, sAug, sPut, ofG, cC, cNm, cP1, cP2, cP3, cM0, cM1, cNil, cCons, cTup, cLst, cIf, cNot, cAnd, cOr, cCall, cDGet, cDis, cObj, cDis0, cApp, cPopAt, cPop, cSlBo, cLc, tE, tNotT, tAndT, tOrT, tY, aE, aPk, iSeq, ofI, M.bind, M.thn, M.bindN, Fl.thn, Arg.get, R.sl, R.val, stSl, retO, gN, gsN, gsC, gSq, wipeS, mkFn, List.foldr_cons, List.foldr_nil, List.length_cons, List.length_nil, List.map_cons, List.map_nil, List.replicate, List.append_eq, List.cons_append, List.nil_append, List.getElem?_cons_zero, List.getElem?_cons_succ, List.set_cons_zero, List.set_cons_succ, if_true, if_false, Nat.zero_add, Nat.reduceAdd, Nat.reduceSub, Nat.reduceLT, Nat.reduceLeDiff, Nat.reduceEqDiff, Bool.not_true, Bool.not_false, Bool.false_eq_true, Option.map_some, Option.bind_some, and_self, true_and, and_true, reduceCtorEq, len_T l hl, ltF, neF, cmpI, ix_T l j c hl ej, s35, eq_T _ _ _ p1 p35, q, Int.ofNat_lt, lt, decide_true, decide_false, Ev]
      refine done (o := []) ?_
      rw [ed, lexL, if_pos q35]
    · have q : ([c] = [35]) = False := by simp [q35]
      simp only [c1_words_in, sSeq, sSet, sNil, sExp, sRet, sRetN, sCt, sBk, sIf, sAsg, sPar, sAug, sPut, ofG, cC, cNm, cP1, cP2, cP3, cM0, cM1, cNil, cCons, cTup, cLst, cIf, cNot, cAnd, cOr, cCall, cDGet, cDis, cObj, cDis0, cApp, cPopAt, cPop, cSlBo, cLc, tE, tNotT, tAndT, tOrT, tY, aE, aPk, iSeq, ofI, M.bind, M.thn, M.bindN, Fl.thn, Arg.get, R.sl, R.val, stSl, retO, gN, gsN, gsC, gSq, wipeS, mkFn, List.foldr_cons, List.foldr_nil, List.length_cons, List.length_nil, List.map_cons, List.map_nil, List.replicate, List.append_eq, List.cons_append, List.nil_append, List.getElem?_cons_zero, List.getElem?_cons_succ, List.set_cons_zero, List.set_cons_succ, if_true, if_false, Nat.zero_add, Nat.reduceAdd, Nat.reduceSub, Nat.reduceLT, Nat.reduceLeDiff, Nat.reduceEqDiff, Bool.not_true, Bool.not_false, Bool.false_eq_true, Option.map_some, Option.bind_some, and_self, true_and, and_true, reduceCtorEq, len_T l hl, ltF, neF, cmpI, ix_T l j c hl ej, s35, eq_T _ _ _ p1 p35, q, Int.ofNat_lt, lt, decide_true, decide_false, Ev]
      by_cases q32 : c = 32
      · have q : decide ([c] = [32]) = true := by simp [q32]
        simp only [d2_words_in, sSeq, sSet, sNil, sExp, sRet, sRetN, sCt, sBk, sIf, sAsg, sPar, sAug, sPut, ofG, cC, cNm, cP1, cP2, cP3, cM0, cM1, cNil, cCons, cTup, cLst, cIf, cNot, cAnd, cOr, cCall, cDGet, cDis, cObj, cDis0, cApp, cPopAt, cPop, cSlBo, cLc, tE, tNotT, tAndT, tOrT, tY, aE, aPk, iSeq, ofI, M.bind, M.thn, M.bindN, Fl.thn, Arg.get, R.sl, R.val, stSl, retO, gN, gsN, gsC, gSq, wipeS, mkFn, List.foldr_cons, List.foldr_nil, List.length_cons, List.length_nil, List.map_cons, List.map_nil, List.replicate, List.append_eq, List.cons_append, List.nil_append, List.getElem?_cons_zero, List.getElem?_cons_succ, List.set_cons_zero, List.set_cons_succ, if_true, if_false, Nat.zero_add, Nat.reduceAdd, Nat.reduceSub, Nat.reduceLT, Nat.reduceLeDiff, Nat.reduceEqDiff, Bool.not_true, Bool.not_false, Bool.false_eq_true, Option.map_some, Option.bind_some, and_self, true_and, and_true, reduceCtorEq, eqF, ix_T l j c hl ej, s32, eq_T _ _ _ p1 p32, q, decide_true, iaddF, Turn]
        rw [ed, lexL, if_neg q35, if_pos q32] at e1 e2
        have er : l.drop (j + 1) = (l.drop j).tail := ed1
        rw [ed] at er
        refine ⟨l.length - (j + 1), by omega, j + 1, g, t6, t7, rfl, lt, rfl, ?_, ?_, by omega⟩
        · rw [er]
          exact e1
        · rw [er]
          exact e2
      · have q : ([c] = [32]) = False := by simp [q32]
        have gl : g.length < 16777216 := by omega
        rw [ed, lexL, if_neg q35, if_neg q32] at e1 e2
        have room : j + (wrun (l.drop (j + 1)) + 1) ≤ l.length := by
          have := wrun_le (l.drop (j + 1))
          rw [List.length_drop] at this
          omega
        have sbad : PyData.strOk "bad" = true := by decide +kernel
        have ssign : PyData.strOk "sign" = true := by decide +kernel
        have dbb : decide (("bad" : Str) = "bad") = true := by decide +kernel
        have dsb : decide (("sign" : Str) = "bad") = false := by decide +kernel
        simp only [d2_words_in, sSeq, sSet, sNil, sExp, sRet, sRetN, sCt, sBk, sIf, sAsg, sPar, sAug, sPut, ofG, cC, cNm, cP1, cP2, cP3, cM0, cM1, cNil, cCons, cTup, cLst, cIf, cNot, cAnd, cOr, cCall, cDGet, cDis, cObj, cDis0, cApp, cPopAt, cPop, cSlBo, cLc, tE, tNotT, tAndT, tOrT, tY, aE, aPk, iSeq, ofI, M.bind, M.thn, M.bindN, Fl.thn, Arg.get, R.sl, R.val, stSl, retO, gN, gsN, gsC, gSq, wipeS, mkFn, List.foldr_cons, List.foldr_nil, List.length_cons, List.length_nil, List.map_cons, List.map_nil, List.replicate, List.append_eq, List.cons_append, List.nil_append, List.getElem?_cons_zero, List.getElem?_cons_succ, List.set_cons_zero, List.set_cons_succ, if_true, if_false, Nat.zero_add, Nat.reduceAdd, Nat.reduceSub, Nat.reduceLT, Nat.reduceLeDiff, Nat.reduceEqDiff, Bool.not_true, Bool.not_false, Bool.false_eq_true, Option.map_some, Option.bind_some, and_self, true_and, and_true, reduceCtorEq, eqF, ix_T l j c hl ej, s32, eq_T _ _ _ p1 p32, q, decide_false, word_from_ev l j c _ h hl ed]
        by_cases lc : c ∈ lettersL
        · rw [if_pos lc] at e1 e2
          by_cases lg : 12 < wrun (l.drop (j + 1)) + 1
          · rw [if_pos lg] at e1 e2
            simp only [lc, lg, sSeq, sSet, sNil, sExp, sRet, sRetN, sCt, sBk, sIf, sAsg, sPar, sAug, sPut, ofG, cC, cNm, cP1, cP2, cP3, cM0, cM1, cNil, cCons, cTup, cLst, cIf, cNot, cAnd, cOr, cCall, cDGet, cDis, cObj, cDis0, cApp, cPopAt, cPop, cSlBo, cLc, tE, tNotT, tAndT, tOrT, tY, aE, aPk, iSeq, ofI, M.bind, M.thn, M.bindN, Fl.thn, Arg.get, R.sl, R.val, stSl, retO, gN, gsN, gsC, gSq, wipeS, mkFn, List.foldr_cons, List.foldr_nil, List.length_cons, List.length_nil, List.map_cons, List.map_nil, List.replicate, List.append_eq, List.cons_append, List.nil_append, List.getElem?_cons_zero, List.getElem?_cons_succ, List.set_cons_zero, List.set_cons_succ, if_true, if_false, Nat.zero_add, Nat.reduceAdd, Nat.reduceSub, Nat.reduceLT, Nat.reduceLeDiff, Nat.reduceEqDiff, Bool.not_true, Bool.not_false, Bool.false_eq_true, Option.map_some, Option.bind_some, and_self, true_and, and_true, reduceCtorEq, gl, eq_S _ _ _ sbad sbad, dbb, Turn]
            refine Exists.intro ?gw0 ⟨?ga0, ?gb0, ?gc0⟩
            case gb0 =>
              rw [← e2, if_pos rfl, ← e1]
              rfl
            case ga0 => rfl
            case gc0 =>
              intro z
              rw [← e2] at z
              cases z
          · rw [if_neg lg] at e1 e2
            have kn : decide (kindOf (T (c :: (l.drop (j + 1)).take (wrun (l.drop (j + 1))))) = "bad") = false := decide_eq_false (kind_ne _)
            have ln : (c :: (l.drop (j + 1)).take (wrun (l.drop (j + 1)))).length = wrun (l.drop (j + 1)) + 1 := by
              rw [List.length_cons, List.length_take, List.length_drop]
              omega
            have dd : l.drop (j + (wrun (l.drop (j + 1)) + 1)) = (l.drop (j + 1)).drop (wrun (l.drop (j + 1))) := by
              rw [List.drop_drop]
              congr 1
              omega
            simp only [lc, lg, sSeq, sSet, sNil, sExp, sRet, sRetN, sCt, sBk, sIf, sAsg, sPar, sAug, sPut, ofG, cC, cNm, cP1, cP2, cP3, cM0, cM1, cNil, cCons, cTup, cLst, cIf, cNot, cAnd, cOr, cCall, cDGet, cDis, cObj, cDis0, cApp, cPopAt, cPop, cSlBo, cLc, tE, tNotT, tAndT, tOrT, tY, aE, aPk, iSeq, ofI, M.bind, M.thn, M.bindN, Fl.thn, Arg.get, R.sl, R.val, stSl, retO, gN, gsN, gsC, gSq, wipeS, mkFn, List.foldr_cons, List.foldr_nil, List.length_cons, List.length_nil, List.map_cons, List.map_nil, List.replicate, List.append_eq, List.cons_append, List.nil_append, List.getElem?_cons_zero, List.getElem?_cons_succ, List.set_cons_zero, List.set_cons_succ, if_true, if_false, Nat.zero_add, Nat.reduceAdd, Nat.reduceSub, Nat.reduceLT, Nat.reduceLeDiff, Nat.reduceEqDiff, Bool.not_true, Bool.not_false, Bool.false_eq_true, Option.map_some, Option.bind_some, and_self, true_and, and_true, reduceCtorEq, gl, eq_S _ _ _ (kind_ok _) sbad, kn, Turn, len_T _ (show (c :: (l.drop (j + 1)).take (wrun (l.drop (j + 1)))).length ≤ 16777216 by omega), ln, iaddF]
            refine ⟨l.length - (j + (wrun (l.drop (j + 1)) + 1)), by omega, j + (wrun (l.drop (j + 1)) + 1), g ++ [tok (kindOf (T (c :: (l.drop (j + 1)).take (wrun (l.drop (j + 1)))))) (T (c :: (l.drop (j + 1)).take (wrun (l.drop (j + 1))))) row j], _, _, rfl, room, rfl, ?_, ?_, ?_⟩
            · rw [← e1, dd, List.append_assoc]
              rfl
            · rw [← e2, dd]
            · rw [List.length_append, List.length_singleton]
              omega
        · rw [if_neg lc] at e1 e2
          by_cases oc : c ∈ onesL
          · rw [if_pos oc] at e1 e2
            simp only [lc, oc, sSeq, sSet, sNil, sExp, sRet, sRetN, sCt, sBk, sIf, sAsg, sPar, sAug, sPut, ofG, cC, cNm, cP1, cP2, cP3, cM0, cM1, cNil, cCons, cTup, cLst, cIf, cNot, cAnd, cOr, cCall, cDGet, cDis, cObj, cDis0, cApp, cPopAt, cPop, cSlBo, cLc, tE, tNotT, tAndT, tOrT, tY, aE, aPk, iSeq, ofI, M.bind, M.thn, M.bindN, Fl.thn, Arg.get, R.sl, R.val, stSl, retO, gN, gsN, gsC, gSq, wipeS, mkFn, List.foldr_cons, List.foldr_nil, List.length_cons, List.length_nil, List.map_cons, List.map_nil, List.replicate, List.append_eq, List.cons_append, List.nil_append, List.getElem?_cons_zero, List.getElem?_cons_succ, List.set_cons_zero, List.set_cons_succ, if_true, if_false, Nat.zero_add, Nat.reduceAdd, Nat.reduceSub, Nat.reduceLT, Nat.reduceLeDiff, Nat.reduceEqDiff, Bool.not_true, Bool.not_false, Bool.false_eq_true, Option.map_some, Option.bind_some, and_self, true_and, and_true, reduceCtorEq, gl, eq_S _ _ _ ssign sbad, dsb, Turn, len_T [c] (by simp), iaddF]
            refine ⟨l.length - (j + 1), by omega, j + 1, g ++ [tok "sign" (T [c]) row j], _, _, rfl, lt, rfl, ?_, ?_, ?_⟩
            · rw [← e1, List.append_assoc, List.singleton_append]
            · rw [← e2]
            · rw [List.length_append, List.length_singleton]
              omega
          · rw [if_neg oc] at e1 e2
            simp only [lc, oc, sSeq, sSet, sNil, sExp, sRet, sRetN, sCt, sBk, sIf, sAsg, sPar, sAug, sPut, ofG, cC, cNm, cP1, cP2, cP3, cM0, cM1, cNil, cCons, cTup, cLst, cIf, cNot, cAnd, cOr, cCall, cDGet, cDis, cObj, cDis0, cApp, cPopAt, cPop, cSlBo, cLc, tE, tNotT, tAndT, tOrT, tY, aE, aPk, iSeq, ofI, M.bind, M.thn, M.bindN, Fl.thn, Arg.get, R.sl, R.val, stSl, retO, gN, gsN, gsC, gSq, wipeS, mkFn, List.foldr_cons, List.foldr_nil, List.length_cons, List.length_nil, List.map_cons, List.map_nil, List.replicate, List.append_eq, List.cons_append, List.nil_append, List.getElem?_cons_zero, List.getElem?_cons_succ, List.set_cons_zero, List.set_cons_succ, if_true, if_false, Nat.zero_add, Nat.reduceAdd, Nat.reduceSub, Nat.reduceLT, Nat.reduceLeDiff, Nat.reduceEqDiff, Bool.not_true, Bool.not_false, Bool.false_eq_true, Option.map_some, Option.bind_some, and_self, true_and, and_true, reduceCtorEq, gl, eq_S _ _ _ sbad sbad, dbb, Turn]
            refine Exists.intro ?gw1 ⟨?ga1, ?gb1, ?gc1⟩
            case gb1 =>
              rw [← e2, if_pos rfl, ← e1]
              rfl
            case ga1 => rfl
            case gc1 =>
              intro z
              rw [← e2] at z
              cases z
  · have ed : l.drop j = [] := List.drop_eq_nil_of_le (by omega)
    simp only [c1_words_in, sSeq, sSet, sNil, sExp, sRet, sRetN, sCt, sBk, sIf, sAsg, sPar, sAug, sPut, ofG, cC, cNm, cP1, cP2, cP3, cM0, cM1, cNil, cCons, cTup, cLst, cIf, cNot, cAnd, cOr, cCall, cDGet, cDis, cObj, cDis0, cApp, cPopAt, cPop, cSlBo, cLc, tE, tNotT, tAndT, tOrT, tY, aE, aPk, iSeq, ofI, M.bind, M.thn, M.bindN, Fl.thn, Arg.get, R.sl, R.val, stSl, retO, gN, gsN, gsC, gSq, wipeS, mkFn, List.foldr_cons, List.foldr_nil, List.length_cons, List.length_nil, List.map_cons, List.map_nil, List.replicate, List.append_eq, List.cons_append, List.nil_append, List.getElem?_cons_zero, List.getElem?_cons_succ, List.set_cons_zero, List.set_cons_succ, if_true, if_false, Nat.zero_add, Nat.reduceAdd, Nat.reduceSub, Nat.reduceLT, Nat.reduceLeDiff, Nat.reduceEqDiff, Bool.not_true, Bool.not_false, Bool.false_eq_true, Option.map_some, Option.bind_some, and_self, true_and, and_true, reduceCtorEq, len_T l hl, ltF, cmpI, Int.ofNat_lt, lt, decide_false, Ev]
    refine done (o := []) ?_
    rw [ed, lexL_nil]
/-- the rows' words -/
def lexR (row : Nat) : List (List Nat) → List W × Bool
  | [] => ([], false)
  | l :: ls => if (lexL row 0 l).2 = true then ((lexL row 0 l).1, true) else ((lexL row 0 l).1 ++ (lexR (row + 1) ls).1, (lexR (row + 1) ls).2)
def linesW (l : List Nat) : List W := (splitL 10 l).map fun p => W.str (T p)
def lexT (l : List Nat) : List W := (lexR 0 (splitL 10 l)).1 ++ if (lexR 0 (splitL 10 l)).2 = true then [] else [tok "end" "" ((splitL 10 l).length - 1) ((splitL 10 l).getLast (splitL_ne 10 l)).length]
theorem splitL_sum (c : Nat) : ∀ l : List Nat, ((splitL c l).map List.length).sum + (splitL c l).length = l.length + 1
  | [] => rfl
  | d :: l => by
    have ih := splitL_sum c l
    unfold splitL
    split
    · simp only [List.map_cons, List.length_nil, List.sum_cons, List.length_cons]
      omega
    · cases e : splitL c l with
      | nil => exact absurd e (splitL_ne c l)
      | cons p ps =>
        rw [e] at ih
        simp only [List.map_cons, List.length_cons, List.sum_cons] at ih ⊢
        omega
theorem splitL_sub {c : Nat} : ∀ {l p : List Nat}, p ∈ splitL c l → ∀ d ∈ p, d ∈ l
  | [], p, h => by
    intro d hd
    have : p = [] := by simpa [splitL] using h
    rw [this] at hd
    cases hd
  | e :: l, p, h => by
    intro d hd
    unfold splitL at h
    split at h
    · rcases List.mem_cons.mp h with rfl | h
      · cases hd
      · exact List.mem_cons_of_mem _ (splitL_sub h d hd)
    · cases q : splitL c l with
      | nil => exact absurd q (splitL_ne c l)
      | cons a as =>
        rw [q] at h
        rcases List.mem_cons.mp h with rfl | h
        · rcases List.mem_cons.mp hd with rfl | hd
          · exact List.mem_cons_self
          · exact List.mem_cons_of_mem _ (splitL_sub (p := a) (by rw [q]; exact List.mem_cons_self) d hd)
        · exact List.mem_cons_of_mem _ (splitL_sub (p := p) (by rw [q]; exact List.mem_cons_of_mem _ h) d hd)
theorem len_le_sum {p : List Nat} : ∀ {ps : List (List Nat)}, p ∈ ps → p.length ≤ (ps.map List.length).sum
  | q :: ps, h => by
    rw [List.map_cons, List.sum_cons]
    rcases List.mem_cons.mp h with rfl | h
    · omega
    · have := len_le_sum h
      omega
theorem drop_sum {ps : List (List Nat)} {k : Nat} {p : List Nat} (e : ps[k]? = some p) : ((ps.drop k).map List.length).sum = p.length + ((ps.drop (k + 1)).map List.length).sum := by
  obtain ⟨lt, e⟩ := List.getElem?_eq_some_iff.mp e
  rw [List.drop_eq_getElem_cons lt, List.map_cons, List.sum_cons, e]
theorem lexL_len (row : Nat) : ∀ (col : Nat) (l : List Nat), (lexL row col l).1.length ≤ l.length := by
  have all : ∀ n col (l : List Nat), l.length ≤ n → (lexL row col l).1.length ≤ l.length := by
    intro n
    induction n with
    | zero =>
      intro col l h
      have e : l = [] := List.length_eq_zero_iff.mp (by omega)
      rw [e, lexL_nil]
      exact Nat.le_refl _
    | succ n ih =>
      intro col l h
      cases l with
      | nil =>
        rw [lexL_nil]
        exact Nat.le_refl _
      | cons c r =>
        rw [List.length_cons] at h
        have h1 := ih (col + 1) r (by omega)
        have h2 := ih (col + (wrun r + 1)) (r.drop (wrun r)) (by rw [List.length_drop]; omega)
        rw [List.length_drop] at h2
        rw [lexL, List.length_cons]
        split
        · exact Nat.zero_le _
        split
        · omega
        split
        · split
          · exact Nat.succ_le_succ (Nat.zero_le _)
          · rw [List.length_cons]
            omega
        split
        · rw [List.length_cons]
          omega
        · exact Nat.succ_le_succ (Nat.zero_le _)
  exact fun col l => all l.length col l (Nat.le_refl _)
theorem lexR_cons (row : Nat) (l : List Nat) (ls : List (List Nat)) : lexR row (l :: ls) = if (lexL row 0 l).2 = true then ((lexL row 0 l).1, true) else ((lexL row 0 l).1 ++ (lexR (row + 1) ls).1, (lexR (row + 1) ls).2) := rfl
theorem last_ix (ps : List (List Nat)) (ne : ps ≠ []) : ixF (.lst (ps.map fun p => W.str (T p))) (.int (-1)) = some (.w (.str (T (ps.getLast ne)))) := by
  have l : 0 < ps.length := List.length_pos_iff.mpr ne
  dsimp only [ixF, L2.atI, L2.ixN]
  rw [if_neg (by omega), if_pos (by simp; omega), List.length_map]
  rw [show (-1 + (ps.length : Int)).toNat = ps.length - 1 by omega]
  simp only [Option.bind_some, List.getElem?_map]
  rw [List.getLast_eq_getElem, List.getElem?_eq_getElem (by omega)]
  rfl
theorem at_ix (ps : List (List Nat)) (k : Nat) (p : List Nat) (e : ps[k]? = some p) : ixF (.lst (ps.map fun p => W.str (T p))) (.int k) = some (.w (.str (T p))) := by
  have l := (List.getElem?_eq_some_iff.mp e).1
  dsimp only [ixF, L2.atI, L2.ixN]
  rw [if_pos (by omega), if_pos (by simpa using l)]
  simp [e]
theorem lexR_len (l : List Nat) : (lexR 0 (splitL 10 l)).1.length ≤ l.length := by
  have hs := splitL_sum 10 l
  have h1 : 0 < (splitL 10 l).length := List.length_pos_iff.mpr (splitL_ne 10 l)
  have all : ∀ (ps : List (List Nat)) (k : Nat), (lexR k ps).1.length ≤ (ps.map List.length).sum := by
    intro ps
    induction ps with
    | nil => exact fun k => Nat.le_refl _
    | cons p ps ih =>
      intro k
      have := lexL_len k 0 p
      have := ih (k + 1)
      rw [lexR_cons, List.map_cons, List.sum_cons]
      split
      · dsimp only
        omega
      · dsimp only
        rw [List.length_append]
        omega
  have := all (splitL 10 l) 0
  omega
theorem words_in_ev (l : List Nat) (h : List MO) (hp : Pl l) (hl : l.length + 2 ≤ 16777216) : fn_words_in [.str (T l)] h = .ok (.w (.lst (lexT l))) h := by
  have hs := splitL_sum 10 l
  have h1 : 0 < (splitL 10 l).length := List.length_pos_iff.mpr (splitL_ne 10 l)
  have s10 : (W.str "\n") = .str (T [10]) := str_T (by decide +kernel)
  have sp : splitF (.str (T l)) (.str (T [10])) = some (.fr (.lst (linesW l))) := by
    dsimp only [splitF]
    rw [if_pos ⟨rfl, by rw [T_len]; exact hl⟩, parts_T, List.map_map] <;> rfl
  have ll : lenF (.lst (linesW l)) = some (.w (.int (splitL 10 l).length)) := by
    simp [lenF, linesW]
  have loop : ∃ S' : Sta, S'.h = h ∧ sFor (iRng1' (cP1 lenF (aPk 2))) (gN 3) d3_words_in ⟨[.val (.str (T l)), .own (.lst []), .own (.lst (linesW l)), .un, .un, .un, .un, .un], h⟩ =
      (if (lexR 0 (splitL 10 l)).2 = true then .rt (.w (.lst (lexR 0 (splitL 10 l)).1)) S' else .nx S') ∧ ((lexR 0 (splitL 10 l)).2 = false → ∃ s3 s4 s5 s6 s7 : Sl, S' = ⟨[.val (.str (T l)), .own (.lst (lexR 0 (splitL 10 l)).1), .own (.lst (linesW l)), s3, s4, s5, s6, s7], h⟩) := by
    rw [sFor_rng (splitL 10 l).length (by omega) (cP1 lenF (aPk 2)) ⟨[.val (.str (T l)), .own (.lst []), .own (.lst (linesW l)), .un, .un, .un, .un, .un], h⟩ ⟨[.val (.str (T l)), .own (.lst []), .own (.lst (linesW l)), .un, .un, .un, .un, .un], h⟩ (.w (.int (splitL 10 l).length)) (by simp only [sSeq, sSet, sNil, sExp, sRet, sRetN, sCt, sBk, sIf, sAsg, sPar, sAug, sPut, ofG, cC, cNm, cP1, cP2, cP3, cM0, cM1, cNil, cCons, cTup, cLst, cIf, cNot, cAnd, cOr, cCall, cDGet, cDis, cObj, cDis0, cApp, cPopAt, cPop, cSlBo, cLc, tE, tNotT, tAndT, tOrT, tY, aE, aPk, iSeq, ofI, M.bind, M.thn, M.bindN, Fl.thn, Arg.get, R.sl, R.val, stSl, retO, gN, gsN, gsC, gSq, wipeS, mkFn, List.foldr_cons, List.foldr_nil, List.length_cons, List.length_nil, List.map_cons, List.map_nil, List.replicate, List.append_eq, List.cons_append, List.nil_append, List.getElem?_cons_zero, List.getElem?_cons_succ, List.set_cons_zero, List.set_cons_succ, if_true, if_false, Nat.zero_add, Nat.reduceAdd, Nat.reduceSub, Nat.reduceLT, Nat.reduceLeDiff, Nat.reduceEqDiff, Bool.not_true, Bool.not_false, Bool.false_eq_true, Option.map_some, Option.bind_some, and_self, true_and, and_true, reduceCtorEq, ll]) rfl]
    refine for_rng (splitL 10 l).length (fun k S => ∃ (f : List W) (s3 s4 s5 s6 s7 : Sl), S = ⟨[.val (.str (T l)), .own (.lst f), .own (.lst (linesW l)), s3, s4, s5, s6, s7], h⟩ ∧
        f ++ (lexR k ((splitL 10 l).drop k)).1 = (lexR 0 (splitL 10 l)).1 ∧ (lexR k ((splitL 10 l).drop k)).2 = (lexR 0 (splitL 10 l)).2 ∧ f.length + (((splitL 10 l).drop k).map List.length).sum ≤ l.length)
      (fun o => ∃ S' : Sta, S'.h = h ∧ o = (if (lexR 0 (splitL 10 l)).2 = true then .rt (.w (.lst (lexR 0 (splitL 10 l)).1)) S' else .nx S') ∧ ((lexR 0 (splitL 10 l)).2 = false → ∃ s3 s4 s5 s6 s7 : Sl, S' = ⟨[.val (.str (T l)), .own (.lst (lexR 0 (splitL 10 l)).1), .own (.lst (linesW l)), s3, s4, s5, s6, s7], h⟩))
      ?_ ?_ _ ⟨[], _, _, _, _, _, rfl, rfl, rfl, by simp; omega⟩
    · rintro S ⟨f, s3, s4, s5, s6, s7, rfl, e1, e2, e3⟩
      rw [List.drop_length] at e1 e2
      have ef : f = (lexR 0 (splitL 10 l)).1 := by rw [← e1]; simp [lexR]
      refine ⟨⟨[.val (.str (T l)), .own (.lst f), .own (.lst (linesW l)), s3, s4, s5, s6, s7], h⟩, rfl, ?_, fun _ => ⟨s3, s4, s5, s6, s7, by rw [ef]⟩⟩
      rw [← e2]
      rfl
    · rintro k S lt ⟨f, s3, s4, s5, s6, s7, rfl, e1, e2, e3⟩
      have ek := List.getElem?_eq_getElem lt
      have ed := List.drop_eq_getElem_cons lt
      have pm : (splitL 10 l)[k] ∈ splitL 10 l := List.getElem_mem lt
      revert ek ed pm
      generalize (splitL 10 l)[k] = p
      intro ek ed pm
      have pl : p.length ≤ l.length := by
        have := len_le_sum pm
        omega
      have pp : Pl p := fun c hc => hp c (splitL_sub pm c hc)
      rw [drop_sum ek] at e3
      rw [ed] at e1 e2
      simp only [sSeq, sSet, sNil, sExp, sRet, sRetN, sCt, sBk, sIf, sAsg, sPar, sAug, sPut, ofG, cC, cNm, cP1, cP2, cP3, cM0, cM1, cNil, cCons, cTup, cLst, cIf, cNot, cAnd, cOr, cCall, cDGet, cDis, cObj, cDis0, cApp, cPopAt, cPop, cSlBo, cLc, tE, tNotT, tAndT, tOrT, tY, aE, aPk, iSeq, ofI, M.bind, M.thn, M.bindN, Fl.thn, Arg.get, R.sl, R.val, stSl, retO, gN, gsN, gsC, gSq, wipeS, mkFn, List.foldr_cons, List.foldr_nil, List.length_cons, List.length_nil, List.map_cons, List.map_nil, List.replicate, List.append_eq, List.cons_append, List.nil_append, List.getElem?_cons_zero, List.getElem?_cons_succ, List.set_cons_zero, List.set_cons_succ, if_true, if_false, Nat.zero_add, Nat.reduceAdd, Nat.reduceSub, Nat.reduceLT, Nat.reduceLeDiff, Nat.reduceEqDiff, Bool.not_true, Bool.not_false, Bool.false_eq_true, Option.map_some, Option.bind_some, and_self, true_and, and_true, reduceCtorEq, EvG, d3_words_in, linesW, at_ix _ k p ek]
      obtain ⟨S', hh, er, ek2⟩ := words_line p k (.str (T l)) (linesW l) f h s6 s7 pp (by omega) (by omega)
      unfold linesW at er ek2
      rw [show ((0 : Nat) : Int) = 0 from rfl] at er
      rw [er]
      rw [lexR_cons] at e1 e2
      cases hb : (lexL k 0 p).2 with
      | true =>
        rw [hb] at e1 e2
        simp only [if_true] at e1 e2 ⊢
        refine ⟨S', hh, ?_, fun z => ?_⟩
        · rw [← e2, if_pos rfl, ← e1]
        · rw [← e2] at z
          cases z
      | false =>
        rw [hb] at e1 e2
        obtain ⟨j, t6, t7, rfl⟩ := ek2 hb
        simp only [Bool.false_eq_true, if_false] at e1 e2 ⊢
        refine ⟨_, _, _, _, _, _, rfl, ?_, e2, ?_⟩
        · rw [List.append_assoc]
          exact e1
        · have := lexL_len k 0 p
          rw [List.length_append]
          omega
  obtain ⟨S', hh, er, ek⟩ := loop
  rw [show fn_words_in = mkFn 1 8 b_words_in from rfl]
  simp only [b_words_in, sSeq, sSet, sNil, sExp, sRet, sRetN, sCt, sBk, sIf, sAsg, sPar, sAug, sPut, ofG, cC, cNm, cP1, cP2, cP3, cM0, cM1, cNil, cCons, cTup, cLst, cIf, cNot, cAnd, cOr, cCall, cDGet, cDis, cObj, cDis0, cApp, cPopAt, cPop, cSlBo, cLc, tE, tNotT, tAndT, tOrT, tY, aE, aPk, iSeq, ofI, M.bind, M.thn, M.bindN, Fl.thn, Arg.get, R.sl, R.val, stSl, retO, gN, gsN, gsC, gSq, wipeS, mkFn, List.foldr_cons, List.foldr_nil, List.length_cons, List.length_nil, List.map_cons, List.map_nil, List.replicate, List.append_eq, List.cons_append, List.nil_append, List.getElem?_cons_zero, List.getElem?_cons_succ, List.set_cons_zero, List.set_cons_succ, if_true, if_false, Nat.zero_add, Nat.reduceAdd, Nat.reduceSub, Nat.reduceLT, Nat.reduceLeDiff, Nat.reduceEqDiff, Bool.not_true, Bool.not_false, Bool.false_eq_true, Option.map_some, Option.bind_some, and_self, true_and, and_true, reduceCtorEq, s10, sp]
  rw [er]
  have fl : (lexR 0 (splitL 10 l)).1.length ≤ l.length := lexR_len l
  cases hb : (lexR 0 (splitL 10 l)).2 with
  | true =>
    simp only [sSeq, sSet, sNil, sExp, sRet, sRetN, sCt, sBk, sIf, sAsg, sPar, sAug, sPut, ofG, cC, cNm, cP1, cP2, cP3, cM0, cM1, cNil, cCons, cTup, cLst, cIf, cNot, cAnd, cOr, cCall, cDGet, cDis, cObj, cDis0, cApp, cPopAt, cPop, cSlBo, cLc, tE, tNotT, tAndT, tOrT, tY, aE, aPk, iSeq, ofI, M.bind, M.thn, M.bindN, Fl.thn, Arg.get, R.sl, R.val, stSl, retO, gN, gsN, gsC, gSq, wipeS, mkFn, List.foldr_cons, List.foldr_nil, List.length_cons, List.length_nil, List.map_cons, List.map_nil, List.replicate, List.append_eq, List.cons_append, List.nil_append, List.getElem?_cons_zero, List.getElem?_cons_succ, List.set_cons_zero, List.set_cons_succ, if_true, if_false, Nat.zero_add, Nat.reduceAdd, Nat.reduceSub, Nat.reduceLT, Nat.reduceLeDiff, Nat.reduceEqDiff, Bool.not_true, Bool.not_false, Bool.false_eq_true, Option.map_some, Option.bind_some, and_self, true_and, and_true, reduceCtorEq]
    rw [hh, lexT, hb, if_pos rfl, List.append_nil]
  | false =>
    obtain ⟨s3, s4, s5, s6, s7, rfl⟩ := ek hb
    have lst : ixF (.lst (linesW l)) (.int (-1)) = some (.w (.str (T ((splitL 10 l).getLast (splitL_ne 10 l))))) := last_ix (splitL 10 l) (splitL_ne 10 l)
    have lm : ((splitL 10 l).getLast (splitL_ne 10 l)).length ≤ 16777216 := by
      have := len_le_sum (List.getLast_mem (splitL_ne 10 l))
      omega
    have fl' : (lexR 0 (splitL 10 l)).1.length < 16777216 := by omega
    have sb : ((splitL 10 l).length : Int) - 1 = (((splitL 10 l).length - 1 : Nat) : Int) := by omega
    simp only [sSeq, sSet, sNil, sExp, sRet, sRetN, sCt, sBk, sIf, sAsg, sPar, sAug, sPut, ofG, cC, cNm, cP1, cP2, cP3, cM0, cM1, cNil, cCons, cTup, cLst, cIf, cNot, cAnd, cOr, cCall, cDGet, cDis, cObj, cDis0, cApp, cPopAt, cPop, cSlBo, cLc, tE, tNotT, tAndT, tOrT, tY, aE, aPk, iSeq, ofI, M.bind, M.thn, M.bindN, Fl.thn, Arg.get, R.sl, R.val, stSl, retO, gN, gsN, gsC, gSq, wipeS, mkFn, List.foldr_cons, List.foldr_nil, List.length_cons, List.length_nil, List.map_cons, List.map_nil, List.replicate, List.append_eq, List.cons_append, List.nil_append, List.getElem?_cons_zero, List.getElem?_cons_succ, List.set_cons_zero, List.set_cons_succ, if_true, if_false, Nat.zero_add, Nat.reduceAdd, Nat.reduceSub, Nat.reduceLT, Nat.reduceLeDiff, Nat.reduceEqDiff, Bool.not_true, Bool.not_false, Bool.false_eq_true, Option.map_some, Option.bind_some, and_self, true_and, and_true, reduceCtorEq, ll, subF, negF, lst, len_T _ lm, fl']
    rw [lexT, hb, sb]
    rfl
theorem words_of_ev (l : List Nat) (h : List MO) (hp : Pl l) (hl : l.length + 2 ≤ 16777216) : fn_words_of [.str (T l)] h = .ok (.w (.tup (lexT l))) h := by
  simp only [fn_words_of, b_words_of, N_words_of, sSeq, sSet, sNil, sExp, sRet, sRetN, sCt, sBk, sIf, sAsg, sPar, sAug, sPut, ofG, cC, cNm, cP1, cP2, cP3, cM0, cM1, cNil, cCons, cTup, cLst, cIf, cNot, cAnd, cOr, cCall, cDGet, cDis, cObj, cDis0, cApp, cPopAt, cPop, cSlBo, cLc, tE, tNotT, tAndT, tOrT, tY, aE, aPk, iSeq, ofI, M.bind, M.thn, M.bindN, Fl.thn, Arg.get, R.sl, R.val, stSl, retO, gN, gsN, gsC, gSq, wipeS, mkFn, List.foldr_cons, List.foldr_nil, List.length_cons, List.length_nil, List.map_cons, List.map_nil, List.replicate, List.append_eq, List.cons_append, List.nil_append, List.getElem?_cons_zero, List.getElem?_cons_succ, List.set_cons_zero, List.set_cons_succ, if_true, if_false, Nat.zero_add, Nat.reduceAdd, Nat.reduceSub, Nat.reduceLT, Nat.reduceLeDiff, Nat.reduceEqDiff, Bool.not_true, Bool.not_false, Bool.false_eq_true, Option.map_some, Option.bind_some, and_self, true_and, and_true, reduceCtorEq, isiF, isTy, words_in_ev l h hp hl, tupF]
end W44

set_option Elab.async false
set_option linter.all false
set_option maxRecDepth 100000
set_option maxHeartbeats 1000000
namespace W44
open PySem Mi
/-! ### the pen -/
def penK : List L2.Key := [.inr "cells", .inr "at", .inr "digits", .inr "count", .inr "fold"]
theorem pen_cells (a b c d e : W) : valW penK [a, b, c, d, e] (.inr "cells") = some a := rfl
theorem pen_at (a b c d e : W) : valW penK [a, b, c, d, e] (.inr "at") = some b := rfl
theorem pen_digits (a b c d e : W) : valW penK [a, b, c, d, e] (.inr "digits") = some c := rfl
theorem pen_count (a b c d e : W) : valW penK [a, b, c, d, e] (.inr "count") = some d := rfl
theorem pen_fold (a b c d e : W) : valW penK [a, b, c, d, e] (.inr "fold") = some e := rfl
theorem put_at (a b c d e w : W) : putW penK [a, b, c, d, e] (.inr "at") w = (penK, [a, w, c, d, e]) := rfl
theorem put_digits (a b c d e w : W) : putW penK [a, b, c, d, e] (.inr "digits") w = (penK, [a, b, w, d, e]) := rfl
theorem put_count (a b c d e w : W) : putW penK [a, b, c, d, e] (.inr "count") w = (penK, [a, b, c, w, e]) := rfl
theorem put_fold (a b c d e w : W) : putW penK [a, b, c, d, e] (.inr "fold") w = (penK, [a, b, c, d, w]) := rfl
def penO (ns : List Int) (p d c f : Int) : List MO := [.dct penK [.lst (ns.map W.int), .int p, .int d, .int c, .int f]]
def Pen (n : Nat) (h : List MO) : Prop := ∃ (ns : List Int) (p d c f : Int), h = penO ns p d c f ∧ 0 ≤ p ∧ 0 ≤ d ∧ 0 ≤ c ∧ c ≤ n ∧ 0 ≤ f ∧ f < 2147483563
theorem Pen.mono {n m : Nat} {h : List MO} (q : Pen n h) (l : n ≤ m) : Pen m h := by
  obtain ⟨ns, p, d, c, f, e, h1, h2, h3, h4, h5, h6⟩ := q
  exact ⟨ns, p, d, c, f, e, h1, h2, h3, by omega, h5, h6⟩
theorem pen_len : penK.length = 5 := rfl
theorem eq_I (neg : Bool) (i j : Int) : eqV' neg (.int i) (.int j) = some (.w (.bl (if neg = true then !decide (i = j) else decide (i = j)))) := by
  have a : ∀ i : Int, SeqAt.shaped (.int i) = true := fun i => rfl
  simp only [eqV', toPy, a, PyData.eqv]
  have : (i == j) = decide (i = j) := by
    by_cases e : i = j
    · subst e
      simp
    · simp [e]
  simp [this]
theorem ix_L (ws : List W) (k : Nat) (w : W) (e : ws[k]? = some w) : ixF (.lst ws) (.int k) = some (.w w) := by
  have l := (List.getElem?_eq_some_iff.mp e).1
  dsimp only [ixF, L2.atI, L2.ixN]
  rw [if_pos (by omega), if_pos (by omega)]
  simp [e]
theorem ix_U (ws : List W) (k : Nat) (w : W) (e : ws[k]? = some w) : ixF (.tup ws) (.int k) = some (.w w) := by
  have l := (List.getElem?_eq_some_iff.mp e).1
  dsimp only [ixF, L2.atI, L2.ixN]
  rw [if_pos (by omega), if_pos (by omega)]
  simp [e]
theorem mul_r (i j : Int) (h : j.natAbs < 18446744073709551616) : mulF (.int i) (.int j) = some (.w (.int (i * j))) := by
  dsimp only [mulF]
  rw [if_pos (.inr h)]
theorem mod_p (i j : Int) (h : 0 < j) : modF (.int i) (.int j) = some (.w (.int (i % j))) := by
  dsimp only [modF]
  rw [if_pos h]
theorem div_p (i j : Int) (h : 0 < j) (h2 : j.natAbs < 1073741824) : divF (.int i) (.int j) = some (.w (.int (i / j))) := by
  dsimp only [divF]
  rw [if_pos ⟨h, h2⟩]
theorem seq_nx {f g : CS} {S S1 : Sta} (e : f S = .nx S1) : sSeq f g S = g S1 := by
  unfold sSeq
  rw [e]
theorem ten18 : powF (.int 10) (.int 18) = some (.w (.int 1000000000000000000)) := by
  have e : (10 : Int) ^ (Int.toNat 18) = 1000000000000000000 := by decide +kernel
  simp only [powF, e]
  rfl
theorem draw_fill (ns : List Int) (p d c f : Int) (m : Nat) (h1 : 0 ≤ p) (h2 : 0 ≤ d) (h5 : 0 ≤ f) (h6 : f < 2147483563) : ∃ (p' d' f' : Int) (s2 : Sl), 0 ≤ p' ∧ 0 ≤ d' ∧ 0 ≤ f' ∧ f' < 2147483563 ∧
    sIf (tAndT (tE (cP2 eqF (aE (cDGet (aPk 0) (aE (cC (.str "digits"))))) (aE (cC (.int 0))))) (tE (cP2 ltF (aE (cDGet (aPk 0) (aE (cC (.str "at"))))) (aE (cP1 lenF (aE (cDGet (aPk 0) (aE (cC (.str "cells")))))))))) (sSeq (sSet 2 (cP2 ixF (aE (cDGet (aPk 0) (aE (cC (.str "cells"))))) (aE (cDGet (aPk 0) (aE (cC (.str "at")))))))
      (sSeq (sPut (aPk 0) (aE (cC (.str "at"))) (cP2 addF (aE (cDGet (aPk 0) (aE (cC (.str "at"))))) (aE (cC (.int 1)))))
      (sIf (tE (cP2 geF (aPk 2) (aE (cP2 powF (aE (cC (.int 10))) (aE (cC (.int 18))))))) (sPut (aPk 0) (aE (cC (.str "digits"))) (cP2 subF (aPk 2) (aE (cP2 powF (aE (cC (.int 10))) (aE (cC (.int 18))))))) (sPut (aPk 0) (aE (cC (.str "fold"))) (cP2 modF (aE (cP1 intF (aE (cP2 addF (aE (cP2 mulF (aE (cDGet (aPk 0) (aE (cC (.str "fold"))))) (aE (cC (.int 48271))))) (aPk 2))))) (aE (cC (.int 2147483563)))))))) (sNil) ⟨[.val (.obj 0), .val (.int m), .un, .un, .un], penO ns p d c f⟩ =
    .nx ⟨[.val (.obj 0), .val (.int m), s2, .un, .un], penO ns p' d' c f'⟩ := by
  by_cases hd : d = 0
  · by_cases hp : p < (ns.length : Int)
    · have hp' : decide (p < ((ns.map W.int).length : Int)) = true := decide_eq_true (by simpa using hp)
      obtain ⟨k, rfl⟩ : ∃ k : Nat, p = k := ⟨p.toNat, by omega⟩
      have lk : k < ns.length := by omega
      have ek : (ns.map W.int)[k]? = some (.int ns[k]) := by simp [lk]
      by_cases hc : (1000000000000000000 : Int) ≤ ns[k]
      · refine ⟨k + 1, ns[k] - 1000000000000000000, f, .val (.int ns[k]), by omega, by omega, h5, h6, ?_⟩
        simp only [sSeq, sSet, sNil, sExp, sRet, sRetN, sCt, sBk, sIf, sAsg, sPar, sAug, sPut, ofG, cC, cNm, cP1, cP2, cP3, cM0, cM1, cNil, cCons, cTup, cLst, cIf, cNot, cAnd, cOr, cCall, cDGet, cDis, cObj, cDis0, cApp, cPopAt, cPop, cSlBo, cLc, tE, tNotT, tAndT, tOrT, tY, aE, aPk, iSeq, ofI, M.bind, M.thn, M.bindN, Fl.thn, Arg.get, R.sl, R.val, stSl, retO, gN, gsN, gsC, gSq, wipeS, mkFn, List.foldr_cons, List.foldr_nil, List.length_cons, List.length_nil, List.map_cons, List.map_nil, List.replicate, List.append_eq, List.cons_append, List.nil_append, List.getElem?_cons_zero, List.getElem?_cons_succ, List.set_cons_zero, List.set_cons_succ, if_true, if_false, Nat.zero_add, Nat.reduceAdd, Nat.reduceSub, Nat.reduceLT, Nat.reduceLeDiff, Nat.reduceEqDiff, Bool.not_true, Bool.not_false, Bool.false_eq_true, Option.map_some, Option.bind_some, and_self, true_and, and_true, reduceCtorEq, penO, dicAt, keyW, pen_cells, pen_at, pen_digits, pen_count, pen_fold, put_at, put_digits, put_count, put_fold, pen_len, add_i, eqF, eq_I, hd, decide_true, lenF, ltF, cmpI, hp', ix_L _ _ _ ek, ten18, geF, decide_eq_true hc, subF]
      · refine ⟨k + 1, 0, (f * 48271 + ns[k]) % 2147483563, .val (.int ns[k]), by omega, by omega, by omega, by omega, ?_⟩
        simp only [sSeq, sSet, sNil, sExp, sRet, sRetN, sCt, sBk, sIf, sAsg, sPar, sAug, sPut, ofG, cC, cNm, cP1, cP2, cP3, cM0, cM1, cNil, cCons, cTup, cLst, cIf, cNot, cAnd, cOr, cCall, cDGet, cDis, cObj, cDis0, cApp, cPopAt, cPop, cSlBo, cLc, tE, tNotT, tAndT, tOrT, tY, aE, aPk, iSeq, ofI, M.bind, M.thn, M.bindN, Fl.thn, Arg.get, R.sl, R.val, stSl, retO, gN, gsN, gsC, gSq, wipeS, mkFn, List.foldr_cons, List.foldr_nil, List.length_cons, List.length_nil, List.map_cons, List.map_nil, List.replicate, List.append_eq, List.cons_append, List.nil_append, List.getElem?_cons_zero, List.getElem?_cons_succ, List.set_cons_zero, List.set_cons_succ, if_true, if_false, Nat.zero_add, Nat.reduceAdd, Nat.reduceSub, Nat.reduceLT, Nat.reduceLeDiff, Nat.reduceEqDiff, Bool.not_true, Bool.not_false, Bool.false_eq_true, Option.map_some, Option.bind_some, and_self, true_and, and_true, reduceCtorEq, penO, dicAt, keyW, pen_cells, pen_at, pen_digits, pen_count, pen_fold, put_at, put_digits, put_count, put_fold, pen_len, add_i, eqF, eq_I, hd, decide_true, lenF, ltF, cmpI, hp', ix_L _ _ _ ek, ten18, geF, decide_eq_false hc, mul_r _ (48271 : Int) (by decide), intF, mod_p _ _ (show (0 : Int) < 2147483563 by decide)]
    · have hp' : decide (p < ((ns.map W.int).length : Int)) = false := decide_eq_false (by simpa using hp)
      refine ⟨p, d, f, .un, h1, h2, h5, h6, ?_⟩
      simp only [sSeq, sSet, sNil, sExp, sRet, sRetN, sCt, sBk, sIf, sAsg, sPar, sAug, sPut, ofG, cC, cNm, cP1, cP2, cP3, cM0, cM1, cNil, cCons, cTup, cLst, cIf, cNot, cAnd, cOr, cCall, cDGet, cDis, cObj, cDis0, cApp, cPopAt, cPop, cSlBo, cLc, tE, tNotT, tAndT, tOrT, tY, aE, aPk, iSeq, ofI, M.bind, M.thn, M.bindN, Fl.thn, Arg.get, R.sl, R.val, stSl, retO, gN, gsN, gsC, gSq, wipeS, mkFn, List.foldr_cons, List.foldr_nil, List.length_cons, List.length_nil, List.map_cons, List.map_nil, List.replicate, List.append_eq, List.cons_append, List.nil_append, List.getElem?_cons_zero, List.getElem?_cons_succ, List.set_cons_zero, List.set_cons_succ, if_true, if_false, Nat.zero_add, Nat.reduceAdd, Nat.reduceSub, Nat.reduceLT, Nat.reduceLeDiff, Nat.reduceEqDiff, Bool.not_true, Bool.not_false, Bool.false_eq_true, Option.map_some, Option.bind_some, and_self, true_and, and_true, reduceCtorEq, penO, dicAt, keyW, pen_cells, pen_at, pen_digits, pen_count, pen_fold, eqF, eq_I, hd, decide_true, lenF, ltF, cmpI, hp']
  · refine ⟨p, d, f, .un, h1, h2, h5, h6, ?_⟩
    simp only [sSeq, sSet, sNil, sExp, sRet, sRetN, sCt, sBk, sIf, sAsg, sPar, sAug, sPut, ofG, cC, cNm, cP1, cP2, cP3, cM0, cM1, cNil, cCons, cTup, cLst, cIf, cNot, cAnd, cOr, cCall, cDGet, cDis, cObj, cDis0, cApp, cPopAt, cPop, cSlBo, cLc, tE, tNotT, tAndT, tOrT, tY, aE, aPk, iSeq, ofI, M.bind, M.thn, M.bindN, Fl.thn, Arg.get, R.sl, R.val, stSl, retO, gN, gsN, gsC, gSq, wipeS, mkFn, List.foldr_cons, List.foldr_nil, List.length_cons, List.length_nil, List.map_cons, List.map_nil, List.replicate, List.append_eq, List.cons_append, List.nil_append, List.getElem?_cons_zero, List.getElem?_cons_succ, List.set_cons_zero, List.set_cons_succ, if_true, if_false, Nat.zero_add, Nat.reduceAdd, Nat.reduceSub, Nat.reduceLT, Nat.reduceLeDiff, Nat.reduceEqDiff, Bool.not_true, Bool.not_false, Bool.false_eq_true, Option.map_some, Option.bind_some, and_self, true_and, and_true, reduceCtorEq, penO, dicAt, keyW, pen_cells, pen_at, pen_digits, pen_count, pen_fold, eqF, eq_I, decide_eq_false hd]
theorem pow19 (i : Int) (h : i.natAbs < 2 ^ 64) : powF (.int i) (.int 19) = some (.w (.int (i ^ 19))) := by
  dsimp only [powF]
  rw [if_pos ⟨by decide, by decide, h⟩]
  rfl
theorem draw_ev (n m : Nat) (h : List MO) (q : Pen n h) (hm : 0 < m) (hm2 : m < 1073741824) (hn : n < 1099511627776) : ∃ (k : Nat) (h' : List MO), fn__law_draw [.obj 0, .int m] h = .ok (.w (.int k)) h' ∧ k < m ∧ Pen (n + 1) h' := by
  obtain ⟨ns, p, d, c, f, rfl, h1, h2, h3, h4, h5, h6⟩ := q
  have m0 : (0 : Int) < (m : Int) := by omega
  have m1 : ((m : Int)).natAbs < 1073741824 := by omega
  have eA : sPut (aPk 0) (aE (cC (.str "count"))) (cP2 addF (aE (cDGet (aPk 0) (aE (cC (.str "count"))))) (aE (cC (.int 1)))) ⟨[.val (.obj 0), .val (.int m), .un, .un, .un], penO ns p d c f⟩ = .nx ⟨[.val (.obj 0), .val (.int m), .un, .un, .un], penO ns p d (c + 1) f⟩ := by
    simp only [sSeq, sSet, sNil, sExp, sRet, sRetN, sCt, sBk, sIf, sAsg, sPar, sAug, sPut, ofG, cC, cNm, cP1, cP2, cP3, cM0, cM1, cNil, cCons, cTup, cLst, cIf, cNot, cAnd, cOr, cCall, cDGet, cDis, cObj, cDis0, cApp, cPopAt, cPop, cSlBo, cLc, tE, tNotT, tAndT, tOrT, tY, aE, aPk, iSeq, ofI, M.bind, M.thn, M.bindN, Fl.thn, Arg.get, R.sl, R.val, stSl, retO, gN, gsN, gsC, gSq, wipeS, mkFn, List.foldr_cons, List.foldr_nil, List.length_cons, List.length_nil, List.map_cons, List.map_nil, List.replicate, List.append_eq, List.cons_append, List.nil_append, List.getElem?_cons_zero, List.getElem?_cons_succ, List.set_cons_zero, List.set_cons_succ, if_true, if_false, Nat.zero_add, Nat.reduceAdd, Nat.reduceSub, Nat.reduceLT, Nat.reduceLeDiff, Nat.reduceEqDiff, Bool.not_true, Bool.not_false, Bool.false_eq_true, Option.map_some, Option.bind_some, and_self, true_and, and_true, reduceCtorEq, penO, dicAt, keyW, pen_count, put_count, pen_len, add_i]
  obtain ⟨p', d', f', s2, g1, g2, g3, g4, eB⟩ := draw_fill ns p d (c + 1) f m h1 h2 h5 h6
  by_cases hd : (0 : Int) < d'
  · obtain ⟨k, ek⟩ : ∃ k : Nat, d' % (m : Int) = k := ⟨(d' % (m : Int)).toNat, by have := Int.emod_nonneg d' (show (m : Int) ≠ 0 by omega); omega⟩
    have lk : k < m := by
      have := Int.emod_lt_of_pos d' m0
      omega
    refine ⟨k, penO ns p' (d' / (m : Int)) (c + 1) f', ?_, lk, ns, p', d' / (m : Int), c + 1, f', rfl, g1, Int.ediv_nonneg g2 (by omega), by omega, by omega, g3, g4⟩
    rw [show fn__law_draw = mkFn 2 5 b__law_draw from rfl]
    unfold mkFn b__law_draw
    simp only [List.length_cons, List.length_nil, List.map_cons, List.map_nil, List.replicate, List.append_eq, List.cons_append, List.nil_append, if_true, if_false, Nat.zero_add, Nat.reduceAdd, Nat.reduceSub, Nat.reduceLT, Nat.reduceEqDiff]
    rw [seq_nx eA, seq_nx eB]
    simp only [sSeq, sSet, sNil, sExp, sRet, sRetN, sCt, sBk, sIf, sAsg, sPar, sAug, sPut, ofG, cC, cNm, cP1, cP2, cP3, cM0, cM1, cNil, cCons, cTup, cLst, cIf, cNot, cAnd, cOr, cCall, cDGet, cDis, cObj, cDis0, cApp, cPopAt, cPop, cSlBo, cLc, tE, tNotT, tAndT, tOrT, tY, aE, aPk, iSeq, ofI, M.bind, M.thn, M.bindN, Fl.thn, Arg.get, R.sl, R.val, stSl, retO, gN, gsN, gsC, gSq, wipeS, mkFn, List.foldr_cons, List.foldr_nil, List.length_cons, List.length_nil, List.map_cons, List.map_nil, List.replicate, List.append_eq, List.cons_append, List.nil_append, List.getElem?_cons_zero, List.getElem?_cons_succ, List.set_cons_zero, List.set_cons_succ, if_true, if_false, Nat.zero_add, Nat.reduceAdd, Nat.reduceSub, Nat.reduceLT, Nat.reduceLeDiff, Nat.reduceEqDiff, Bool.not_true, Bool.not_false, Bool.false_eq_true, Option.map_some, Option.bind_some, and_self, true_and, and_true, reduceCtorEq, penO, dicAt, keyW, pen_digits, put_digits, pen_len, gtF, cmpI, decide_eq_true hd, intF, mod_p _ _ m0, div_p _ _ m0 m1, ek]
  · have nb : (f' + (c + 1) * 8513 + 61).natAbs < 2 ^ 64 := by omega
    obtain ⟨k, ek⟩ : ∃ k : Nat, ((f' + (c + 1) * 8513 + 61) ^ 19 % 2305843009213693951) / 256 % (m : Int) = k := ⟨(((f' + (c + 1) * 8513 + 61) ^ 19 % 2305843009213693951) / 256 % (m : Int)).toNat, by
      have := Int.emod_nonneg (((f' + (c + 1) * 8513 + 61) ^ 19 % 2305843009213693951) / 256) (show (m : Int) ≠ 0 by omega)
      omega⟩
    have lk : k < m := by
      have := Int.emod_lt_of_pos (((f' + (c + 1) * 8513 + 61) ^ 19 % 2305843009213693951) / 256) m0
      omega
    refine ⟨k, penO ns p' d' (c + 1) f', ?_, lk, ns, p', d', c + 1, f', rfl, g1, g2, by omega, by omega, g3, g4⟩
    rw [show fn__law_draw = mkFn 2 5 b__law_draw from rfl]
    unfold mkFn b__law_draw
    simp only [List.length_cons, List.length_nil, List.map_cons, List.map_nil, List.replicate, List.append_eq, List.cons_append, List.nil_append, if_true, if_false, Nat.zero_add, Nat.reduceAdd, Nat.reduceSub, Nat.reduceLT, Nat.reduceEqDiff]
    rw [seq_nx eA, seq_nx eB]
    simp only [sSeq, sSet, sNil, sExp, sRet, sRetN, sCt, sBk, sIf, sAsg, sPar, sAug, sPut, ofG, cC, cNm, cP1, cP2, cP3, cM0, cM1, cNil, cCons, cTup, cLst, cIf, cNot, cAnd, cOr, cCall, cDGet, cDis, cObj, cDis0, cApp, cPopAt, cPop, cSlBo, cLc, tE, tNotT, tAndT, tOrT, tY, aE, aPk, iSeq, ofI, M.bind, M.thn, M.bindN, Fl.thn, Arg.get, R.sl, R.val, stSl, retO, gN, gsN, gsC, gSq, wipeS, mkFn, List.foldr_cons, List.foldr_nil, List.length_cons, List.length_nil, List.map_cons, List.map_nil, List.replicate, List.append_eq, List.cons_append, List.nil_append, List.getElem?_cons_zero, List.getElem?_cons_succ, List.set_cons_zero, List.set_cons_succ, if_true, if_false, Nat.zero_add, Nat.reduceAdd, Nat.reduceSub, Nat.reduceLT, Nat.reduceLeDiff, Nat.reduceEqDiff, Bool.not_true, Bool.not_false, Bool.false_eq_true, Option.map_some, Option.bind_some, and_self, true_and, and_true, reduceCtorEq, penO, dicAt, keyW, pen_digits, pen_fold, pen_count, pen_len, gtF, cmpI, decide_eq_false hd, intF, mod_p _ _ m0, mod_p _ _ (show (0 : Int) < 2305843009213693951 by decide), div_p _ _ (show (0 : Int) < 256 by decide) (show (256 : Int).natAbs < 1073741824 by decide), mul_r _ (8513 : Int) (by decide), add_i, pow19 _ nb, ek]
theorem len_L (ws : List W) : lenF (.lst ws) = some (.w (.int ws.length)) := rfl
theorem len_U (ws : List W) : lenF (.tup ws) = some (.w (.int ws.length)) := rfl
theorem pick_ev (n : Nat) (h : List MO) (xs : List W) (q : Pen n h) (h0 : 0 < xs.length) (h1 : xs.length < 1073741824) (hn : n < 1099511627776) : ∃ (w : W) (h' : List MO), w ∈ xs ∧ fn__law_pick [.obj 0, .lst xs] h = .ok (.w w) h' ∧ Pen (n + 1) h' := by
  obtain ⟨k, h', e, lk, q'⟩ := draw_ev n xs.length h q h0 h1 hn
  refine ⟨xs[k], h', List.getElem_mem lk, ?_, q'⟩
  simp only [fn__law_pick, b__law_pick, N__law_pick, sSeq, sSet, sNil, sExp, sRet, sRetN, sCt, sBk, sIf, sAsg, sPar, sAug, sPut, ofG, cC, cNm, cP1, cP2, cP3, cM0, cM1, cNil, cCons, cTup, cLst, cIf, cNot, cAnd, cOr, cCall, cDGet, cDis, cObj, cDis0, cApp, cPopAt, cPop, cSlBo, cLc, tE, tNotT, tAndT, tOrT, tY, aE, aPk, iSeq, ofI, M.bind, M.thn, M.bindN, Fl.thn, Arg.get, R.sl, R.val, stSl, retO, gN, gsN, gsC, gSq, wipeS, mkFn, List.foldr_cons, List.foldr_nil, List.length_cons, List.length_nil, List.map_cons, List.map_nil, List.replicate, List.append_eq, List.cons_append, List.nil_append, List.getElem?_cons_zero, List.getElem?_cons_succ, List.set_cons_zero, List.set_cons_succ, if_true, if_false, Nat.zero_add, Nat.reduceAdd, Nat.reduceSub, Nat.reduceLT, Nat.reduceLeDiff, Nat.reduceEqDiff, Bool.not_true, Bool.not_false, Bool.false_eq_true, Option.map_some, Option.bind_some, and_self, true_and, and_true, reduceCtorEq, len_L, e, ix_L xs k _ (List.getElem?_eq_getElem lk)]
theorem seqIx (k n : Nat) (h : k < n) : seqIndex? (k : Int) n = some k := by
  have e : ¬ ((k : Int) < 0) := by omega
  simp only [seqIndex?, e, if_false]
  rw [if_pos (by simp; omega)]
  simp
theorem erase_perm : ∀ (xs : List W) (j : Nat) (h : j < xs.length), (xs[j] :: xs.eraseIdx j).Perm xs
  | x :: xs, 0, _ => List.Perm.refl _
  | x :: xs, j + 1, h => by
    have ih := erase_perm xs j (by simpa using h)
    rw [List.getElem_cons_succ, List.eraseIdx_cons_succ]
    exact (List.Perm.swap _ _ _).trans (List.Perm.cons _ ih)
theorem shuffled_ev (n : Nat) (h : List MO) (xs : List W) (q : Pen n h) (h1 : xs.length < 1048576) (hn : n + xs.length < 1099511627776) : ∃ (ys : List W) (h' : List MO), ys.Perm xs ∧ fn__law_shuffled [.obj 0, .lst xs] h = .ok (.w (.lst ys)) h' ∧ Pen (n + xs.length) h' := by
  have loop : ∃ (S' : Sta) (ys : List W) (s4 : Sl), S'.ws = [.val (.obj 0), .val (.lst xs), .own (.lst []), .own (.lst ys), s4] ∧ ys.Perm xs ∧ Pen (n + xs.length) S'.h ∧ sFor (iRng1' (cP1 lenF (aPk 1))) (gN 4) d1__law_shuffled ⟨[.val (.obj 0), .val (.lst xs), .own (.lst xs), .own (.lst []), .un], h⟩ = .nx S' := by
    rw [sFor_rng xs.length (by omega) (cP1 lenF (aPk 1)) ⟨[.val (.obj 0), .val (.lst xs), .own (.lst xs), .own (.lst []), .un], h⟩ ⟨[.val (.obj 0), .val (.lst xs), .own (.lst xs), .own (.lst []), .un], h⟩ (.w (.int xs.length)) (by simp only [sSeq, sSet, sNil, sExp, sRet, sRetN, sCt, sBk, sIf, sAsg, sPar, sAug, sPut, ofG, cC, cNm, cP1, cP2, cP3, cM0, cM1, cNil, cCons, cTup, cLst, cIf, cNot, cAnd, cOr, cCall, cDGet, cDis, cObj, cDis0, cApp, cPopAt, cPop, cSlBo, cLc, tE, tNotT, tAndT, tOrT, tY, aE, aPk, iSeq, ofI, M.bind, M.thn, M.bindN, Fl.thn, Arg.get, R.sl, R.val, stSl, retO, gN, gsN, gsC, gSq, wipeS, mkFn, List.foldr_cons, List.foldr_nil, List.length_cons, List.length_nil, List.map_cons, List.map_nil, List.replicate, List.append_eq, List.cons_append, List.nil_append, List.getElem?_cons_zero, List.getElem?_cons_succ, List.set_cons_zero, List.set_cons_succ, if_true, if_false, Nat.zero_add, Nat.reduceAdd, Nat.reduceSub, Nat.reduceLT, Nat.reduceLeDiff, Nat.reduceEqDiff, Bool.not_true, Bool.not_false, Bool.false_eq_true, Option.map_some, Option.bind_some, and_self, true_and, and_true, reduceCtorEq, len_L]) rfl]
    refine for_rng xs.length (fun k S => ∃ (rs fs : List W) (s4 : Sl) (h' : List MO), S = ⟨[.val (.obj 0), .val (.lst xs), .own (.lst rs), .own (.lst fs), s4], h'⟩ ∧ rs.length = xs.length - k ∧ fs.length = k ∧ (fs ++ rs).Perm xs ∧ Pen (n + k) h')
      (fun o => ∃ (S' : Sta) (ys : List W) (s4 : Sl), S'.ws = [.val (.obj 0), .val (.lst xs), .own (.lst []), .own (.lst ys), s4] ∧ ys.Perm xs ∧ Pen (n + xs.length) S'.h ∧ o = .nx S') ?_ ?_ _ ⟨xs, [], _, h, rfl, rfl, rfl, List.Perm.refl _, q⟩
    · rintro S ⟨rs, fs, s4, h', rfl, e1, e2, e3, q'⟩
      have er : rs = [] := List.length_eq_zero_iff.mp (by omega)
      subst er
      refine ⟨_, fs, s4, rfl, by simpa using e3, q', rfl⟩
    · rintro k S lt ⟨rs, fs, s4, h', rfl, e1, e2, e3, q'⟩
      obtain ⟨j, h2, e, lj, q2⟩ := draw_ev (n + k) rs.length h' q' (by omega) (by omega) (by omega)
      have sm : Sm (j : Int) := by
        show (j : Int).natAbs < 4611686018427387904
        omega
      have ej := List.getElem?_eq_getElem lj
      have fl : fs.length < 16777216 := by omega
      simp only [sSeq, sSet, sNil, sExp, sRet, sRetN, sCt, sBk, sIf, sAsg, sPar, sAug, sPut, ofG, cC, cNm, cP1, cP2, cP3, cM0, cM1, cNil, cCons, cTup, cLst, cIf, cNot, cAnd, cOr, cCall, cDGet, cDis, cObj, cDis0, cApp, cPopAt, cPop, cSlBo, cLc, tE, tNotT, tAndT, tOrT, tY, aE, aPk, iSeq, ofI, M.bind, M.thn, M.bindN, Fl.thn, Arg.get, R.sl, R.val, stSl, retO, gN, gsN, gsC, gSq, wipeS, mkFn, List.foldr_cons, List.foldr_nil, List.length_cons, List.length_nil, List.map_cons, List.map_nil, List.replicate, List.append_eq, List.cons_append, List.nil_append, List.getElem?_cons_zero, List.getElem?_cons_succ, List.set_cons_zero, List.set_cons_succ, if_true, if_false, Nat.zero_add, Nat.reduceAdd, Nat.reduceSub, Nat.reduceLT, Nat.reduceLeDiff, Nat.reduceEqDiff, Bool.not_true, Bool.not_false, Bool.false_eq_true, Option.map_some, Option.bind_some, and_self, true_and, and_true, reduceCtorEq, EvG, d1__law_shuffled, len_L, e, sm, seqIx j _ lj, ej, fl, Turn]
      refine ⟨rs.eraseIdx j, fs ++ [rs[j]], _, h2, rfl, ?_, ?_, ?_, q2⟩
      · rw [List.length_eraseIdx_of_lt lj]
        omega
      · rw [List.length_append, List.length_singleton]
        omega
      · refine List.Perm.trans ?_ e3
        rw [List.append_assoc]
        refine List.Perm.append_left _ ?_
        exact erase_perm rs j lj
  obtain ⟨S', ys, s4, ew, pm, q', e⟩ := loop
  refine ⟨ys, S'.h, pm, ?_, q'⟩
  rw [show fn__law_shuffled = mkFn 2 5 b__law_shuffled from rfl]
  simp only [b__law_shuffled, sSeq, sSet, sNil, sExp, sRet, sRetN, sCt, sBk, sIf, sAsg, sPar, sAug, sPut, ofG, cC, cNm, cP1, cP2, cP3, cM0, cM1, cNil, cCons, cTup, cLst, cIf, cNot, cAnd, cOr, cCall, cDGet, cDis, cObj, cDis0, cApp, cPopAt, cPop, cSlBo, cLc, tE, tNotT, tAndT, tOrT, tY, aE, aPk, iSeq, ofI, M.bind, M.thn, M.bindN, Fl.thn, Arg.get, R.sl, R.val, stSl, retO, gN, gsN, gsC, gSq, wipeS, mkFn, List.foldr_cons, List.foldr_nil, List.length_cons, List.length_nil, List.map_cons, List.map_nil, List.replicate, List.append_eq, List.cons_append, List.nil_append, List.getElem?_cons_zero, List.getElem?_cons_succ, List.set_cons_zero, List.set_cons_succ, if_true, if_false, Nat.zero_add, Nat.reduceAdd, Nat.reduceSub, Nat.reduceLT, Nat.reduceLeDiff, Nat.reduceEqDiff, Bool.not_true, Bool.not_false, Bool.false_eq_true, Option.map_some, Option.bind_some, and_self, true_and, and_true, reduceCtorEq, listF]
  rw [e]
  simp only [sSeq, sSet, sNil, sExp, sRet, sRetN, sCt, sBk, sIf, sAsg, sPar, sAug, sPut, ofG, cC, cNm, cP1, cP2, cP3, cM0, cM1, cNil, cCons, cTup, cLst, cIf, cNot, cAnd, cOr, cCall, cDGet, cDis, cObj, cDis0, cApp, cPopAt, cPop, cSlBo, cLc, tE, tNotT, tAndT, tOrT, tY, aE, aPk, iSeq, ofI, M.bind, M.thn, M.bindN, Fl.thn, Arg.get, R.sl, R.val, stSl, retO, gN, gsN, gsC, gSq, wipeS, mkFn, List.foldr_cons, List.foldr_nil, List.length_cons, List.length_nil, List.map_cons, List.map_nil, List.replicate, List.append_eq, List.cons_append, List.nil_append, List.getElem?_cons_zero, List.getElem?_cons_succ, List.set_cons_zero, List.set_cons_succ, if_true, if_false, Nat.zero_add, Nat.reduceAdd, Nat.reduceSub, Nat.reduceLT, Nat.reduceLeDiff, Nat.reduceEqDiff, Bool.not_true, Bool.not_false, Bool.false_eq_true, Option.map_some, Option.bind_some, and_self, true_and, and_true, reduceCtorEq, ew]
theorem pen_ev (ns : List Int) : ∃ h', fn__law_pen [.rol (ns.map W.int)] [] = .ok (.w (.obj 0)) h' ∧ Pen 0 h' := by
  have loop : ∃ (f : Int) (s2 : Sl), 0 ≤ f ∧ f < 2147483563 ∧ forL (gN 2) d1__law_pen (ns.map W.int) ⟨[.val (.rol (ns.map W.int)), .val (.int 0), .un], []⟩ = .nx ⟨[.val (.rol (ns.map W.int)), .val (.int f), s2], []⟩ := by
    refine for_at (ns.map W.int) (fun k S => ∃ (f : Int) (s2 : Sl), 0 ≤ f ∧ f < 2147483563 ∧ S = ⟨[.val (.rol (ns.map W.int)), .val (.int f), s2], []⟩) (fun o => ∃ (f : Int) (s2 : Sl), 0 ≤ f ∧ f < 2147483563 ∧ o = .nx ⟨[.val (.rol (ns.map W.int)), .val (.int f), s2], []⟩) ?_ ?_ _ ⟨0, _, by omega, by omega, rfl⟩
    · rintro S ⟨f, s2, h1, h2, rfl⟩
      exact ⟨f, s2, h1, h2, rfl⟩
    · rintro k w S ew ⟨f, s2, h1, h2, rfl⟩
      obtain ⟨i, rfl⟩ : ∃ i, w = .int i := by
        have := List.mem_of_getElem? ew
        obtain ⟨i, _, e⟩ := List.mem_map.mp this
        exact ⟨i, e.symm⟩
      simp only [sSeq, sSet, sNil, sExp, sRet, sRetN, sCt, sBk, sIf, sAsg, sPar, sAug, sPut, ofG, cC, cNm, cP1, cP2, cP3, cM0, cM1, cNil, cCons, cTup, cLst, cIf, cNot, cAnd, cOr, cCall, cDGet, cDis, cObj, cDis0, cApp, cPopAt, cPop, cSlBo, cLc, tE, tNotT, tAndT, tOrT, tY, aE, aPk, iSeq, ofI, M.bind, M.thn, M.bindN, Fl.thn, Arg.get, R.sl, R.val, stSl, retO, gN, gsN, gsC, gSq, wipeS, mkFn, List.foldr_cons, List.foldr_nil, List.length_cons, List.length_nil, List.map_cons, List.map_nil, List.replicate, List.append_eq, List.cons_append, List.nil_append, List.getElem?_cons_zero, List.getElem?_cons_succ, List.set_cons_zero, List.set_cons_succ, if_true, if_false, Nat.zero_add, Nat.reduceAdd, Nat.reduceSub, Nat.reduceLT, Nat.reduceLeDiff, Nat.reduceEqDiff, Bool.not_true, Bool.not_false, Bool.false_eq_true, Option.map_some, Option.bind_some, and_self, true_and, and_true, reduceCtorEq, EvG, d1__law_pen, mul_r _ (59 : Int) (by decide), add_i, intF, mod_p _ _ (show (0 : Int) < 1000000009 by decide), Turn]
      exact ⟨_, _, by omega, by omega, rfl⟩
  obtain ⟨f, s2, h1, h2, e⟩ := loop
  refine ⟨penO ns 0 0 0 f, ?_, ns, 0, 0, 0, f, rfl, by omega, by omega, by omega, by omega, h1, h2⟩
  have nd : ([Sum.inr (Str.ofString "cells"), Sum.inr (Str.ofString "at"), Sum.inr (Str.ofString "digits"), Sum.inr (Str.ofString "count"), Sum.inr (Str.ofString "fold")] : List L2.Key).Nodup := by decide +kernel
  simp only [fn__law_pen, b__law_pen, N__law_pen, sFor, sSeq, sSet, sNil, sExp, sRet, sRetN, sCt, sBk, sIf, sAsg, sPar, sAug, sPut, ofG, cC, cNm, cP1, cP2, cP3, cM0, cM1, cNil, cCons, cTup, cLst, cIf, cNot, cAnd, cOr, cCall, cDGet, cDis, cObj, cDis0, cApp, cPopAt, cPop, cSlBo, cLc, tE, tNotT, tAndT, tOrT, tY, aE, aPk, iSeq, ofI, M.bind, M.thn, M.bindN, Fl.thn, Arg.get, R.sl, R.val, stSl, retO, gN, gsN, gsC, gSq, wipeS, mkFn, List.foldr_cons, List.foldr_nil, List.length_cons, List.length_nil, List.map_cons, List.map_nil, List.replicate, List.append_eq, List.cons_append, List.nil_append, List.getElem?_cons_zero, List.getElem?_cons_succ, List.set_cons_zero, List.set_cons_succ, if_true, if_false, Nat.zero_add, Nat.reduceAdd, Nat.reduceSub, Nat.reduceLT, Nat.reduceLeDiff, Nat.reduceEqDiff, Bool.not_true, Bool.not_false, Bool.false_eq_true, Option.map_some, Option.bind_some, and_self, true_and, and_true, reduceCtorEq, seqItems, e, listF, nd]
  rfl
end W44

set_option Elab.async false
set_option linter.all false
set_option maxRecDepth 100000
set_option maxHeartbeats 1000000
namespace W44
open PySem Mi
/-! ### statements as they are drawn -/
def allNames : List Str := ["x", "y", "z", "w2", "fresh", "is", "gone", "over", "same", "none", "root", "looks", "arg", "item", "start", "lent"]
def procNames : List Str := ["f", "g", "far"]
def IsName (w : W) : Prop := ∃ s ∈ allNames, w = .str s
inductive Stm : Nat → W → Prop
  | one {s : Nat} {k : Str} {x : W} : k ∈ (["new", "use", "set", "drop"] : List Str) → IsName x → Stm s (.tup [.str k, x])
  | two {s : Nat} {k : Str} {x y : W} : k ∈ (["look", "only", "move"] : List Str) → IsName x → IsName y → Stm s (.tup [.str k, x, y])
  | call {s : Nat} {x : W} {nm : Str} {args : List W} : (IsName x ∨ x = .str "") → nm ∈ procNames → args.length ≤ 2 → (∀ a ∈ args, IsName a) → Stm s (.tup [.str "call", x, .str nm, .tup args])
  | loop {s : Nat} {xs : List W} : xs.length ≤ 2 → (∀ x ∈ xs, Stm s x) → Stm (s + 1) (.tup [.str "loop", .tup xs])
  | either {s : Nat} {xs ys : List W} : xs.length ≤ 2 → (∀ x ∈ xs, Stm s x) → ys.length ≤ 2 → (∀ x ∈ ys, Stm s x) → Stm (s + 1) (.tup [.str "either", .tup xs, .tup ys])
def Head (w : W) : Prop := ∃ (nm : Str) (m : Nat) (g : Bool), nm ∈ procNames ∧ m ≤ 2 ∧ w = .tup [.str nm, .int m, .bl g]
def Ds : Nat → Nat
  | 0 => 20
  | s + 1 => 30 + 4 * Ds s
theorem cut_two (a b : W) (r : List W) : slHiF (.lst (a :: b :: r)) (.int 2) = some (.fr (.lst [a, b])) := by
  simp only [slHiF, slF, cutW, HT.sIx]
  rw [if_neg (by decide)]
  have e : min (Int.toNat 2) (a :: b :: r).length = 2 := by
    rw [List.length_cons, List.length_cons, show Int.toNat 2 = 2 from rfl]
    omega
  rw [e]
  rfl
theorem heads_py : ∀ {ps : List W}, (∀ p ∈ ps, Head p) → ∃ ds, toPys ps = some ds ∧ PyData.canLayAll0 ds = true ∧ PyData.depthAll ds ≤ 1 ∧ ds.length = ps.length
  | [], _ => ⟨[], rfl, rfl, by simp [PyData.depthAll], rfl⟩
  | p :: ps, h => by
    obtain ⟨ds, e1, e2, e3, e4⟩ := heads_py (ps := ps) fun q hq => h q (List.mem_cons_of_mem _ hq)
    obtain ⟨nm, m, g, hn, hm, rfl⟩ := h p List.mem_cons_self
    have so : PyData.strOk nm = true := by
      have : ∀ x ∈ procNames, PyData.strOk x = true := by decide +kernel
      exact this nm hn
    refine ⟨.tuple [.str nm, .int m, .bool g] :: ds, ?_, ?_, ?_, ?_⟩
    · simp only [toPys, toPy, e1, Option.map_some]
    · simp [PyData.canLayAll0, PyData.canLay0, so, e2]
    · simp [PyData.depthAll, PyData.depth]
      omega
    · simp [e4]
theorem heads_eq (ps : List W) (h : ∀ p ∈ ps, Head p) : eqF (.lst ps) (.lst []) = some (.w (.bl (decide (ps = [])))) := by
  obtain ⟨ds, e1, e2, e3, e4⟩ := heads_py h
  have a : SeqAt.shaped (.list ds) = true := by
    simp [SeqAt.shaped, PyData.canLay0, PyData.depth, e2]
    omega
  have b : SeqAt.shaped (.list []) = true := rfl
  simp only [eqF, eqV', toPy, toPys, e1, Option.map_some, a, b, PyData.eqv]
  cases ps with
  | nil =>
    have : ds = [] := List.length_eq_zero_iff.mp (by simpa using e4)
    subst this
    rfl
  | cons p ps =>
    cases ds with
    | nil => simp at e4
    | cons d ds => simp [PyData.eqvAll]
theorem perm_names {ys xs : List W} (pm : ys.Perm xs) (h : ∀ x ∈ xs, IsName x) : ∀ x ∈ ys, IsName x := fun x hx => h x (pm.mem_iff.mp hx)
theorem body_step (n : Nat) (s many : Nat) (names procs : List W) (c : Nat) (h : List MO) (q : Pen c h) (hm : many ≤ 1048576) (hn : c + many * Ds s < 1000000000000)
    (st : ∀ (c : Nat) (h : List MO), Pen c h → c + Ds s < 1000000000000 → ∃ w h', fn__law_statement_drawn n [.obj 0, .lst names, .lst procs, .int s] h = .ok (.w w) h' ∧ Stm s w ∧ Pen (c + Ds s) h') :
    ∃ xs h', fn__law_body_drawn (n + 1) [.obj 0, .lst names, .lst procs, .int many, .int s] h = .ok (.w (.tup xs)) h' ∧ xs.length = many ∧ (∀ x ∈ xs, Stm s x) ∧ Pen (c + many * Ds s) h' := by
  have loop := lc_rng (own := [5]) (g := gN 5) (elt := l1__law_body_drawn (fn__law_body_drawn n) (fn__law_statement_drawn n)) many (by omega)
    (fun k acc S => S.ws = [.val (.obj 0), .val (.lst names), .val (.lst procs), .val (.int many), .val (.int s), .un] ∧ (∀ x ∈ acc, Stm s x) ∧ Pen (c + k * Ds s) S.h) (by
      rintro k acc S lt ea ⟨ew, ha, qk⟩
      obtain ⟨ws, h0⟩ := S
      dsimp only at ew qk
      subst ew
      have bound : c + k * Ds s + Ds s ≤ c + many * Ds s := by
        have := Nat.mul_le_mul_right (Ds s) (show k + 1 ≤ many by omega)
        rw [Nat.add_mul] at this
        omega
      obtain ⟨w, h', e, sw, q'⟩ := st (c + k * Ds s) h0 qk (by omega)
      simp only [sSeq, sSet, sNil, sExp, sRet, sRetN, sCt, sBk, sIf, sAsg, sPar, sAug, sPut, ofG, cC, cNm, cP1, cP2, cP3, cM0, cM1, cNil, cCons, cTup, cLst, cIf, cNot, cAnd, cOr, cCall, cDGet, cDis, cObj, cDis0, cApp, cPopAt, cPop, cSlBo, cLc, tE, tNotT, tAndT, tOrT, tY, aE, aPk, iSeq, ofI, M.bind, M.thn, M.bindN, Fl.thn, Arg.get, R.sl, R.val, stSl, retO, gN, gsN, gsC, gSq, wipeS, mkFn, List.foldr_cons, List.foldr_nil, List.length_cons, List.length_nil, List.map_cons, List.map_nil, List.replicate, List.append_eq, List.cons_append, List.nil_append, List.getElem?_cons_zero, List.getElem?_cons_succ, List.set_cons_zero, List.set_cons_succ, if_true, if_false, Nat.zero_add, Nat.reduceAdd, Nat.reduceSub, Nat.reduceLT, Nat.reduceLeDiff, Nat.reduceEqDiff, Bool.not_true, Bool.not_false, Bool.false_eq_true, Option.map_some, Option.bind_some, and_self, true_and, and_true, reduceCtorEq, EvG, Ev, l1__law_body_drawn, e]
      refine ⟨fun x hx => ?_, ?_⟩
      · rcases List.mem_append.mp hx with hx | hx
        · exact ha x hx
        · rw [List.mem_singleton.mp hx]
          exact sw
      · rw [Nat.add_mul, Nat.one_mul, ← Nat.add_assoc]
        exact q') ⟨[.val (.obj 0), .val (.lst names), .val (.lst procs), .val (.int many), .val (.int s), .un], h⟩ ⟨rfl, fun x hx => (by cases hx), by simpa using q⟩
  obtain ⟨xs, S', e, l, ew, hx, q'⟩ := loop
  refine ⟨xs, S'.h, ?_, l, hx, q'⟩
  unfold fn__law_body_drawn mkFn b__law_body_drawn
  simp only [List.length_cons, List.length_nil, List.map_cons, List.map_nil, List.replicate, List.append_eq, List.cons_append, List.nil_append, if_true, if_false, Nat.zero_add, Nat.reduceAdd, Nat.reduceSub, Nat.reduceLT, Nat.reduceEqDiff, sRet, cP1, aE]
  rw [cLc_rng many (by omega) (cNm 3) ⟨[.val (.obj 0), .val (.lst names), .val (.lst procs), .val (.int many), .val (.int s), .un], h⟩ ⟨[.val (.obj 0), .val (.lst names), .val (.lst procs), .val (.int many), .val (.int s), .un], h⟩ (.w (.int many)) rfl rfl]
  have w0 : wipeS [5] ⟨[.val (.obj 0), .val (.lst names), .val (.lst procs), .val (.int many), .val (.int s), .un], h⟩ = ⟨[.val (.obj 0), .val (.lst names), .val (.lst procs), .val (.int many), .val (.int s), .un], h⟩ := rfl
  rw [w0, e]
  simp only [sSeq, sSet, sNil, sExp, sRet, sRetN, sCt, sBk, sIf, sAsg, sPar, sAug, sPut, ofG, cC, cNm, cP1, cP2, cP3, cM0, cM1, cNil, cCons, cTup, cLst, cIf, cNot, cAnd, cOr, cCall, cDGet, cDis, cObj, cDis0, cApp, cPopAt, cPop, cSlBo, cLc, tE, tNotT, tAndT, tOrT, tY, aE, aPk, iSeq, ofI, M.bind, M.thn, M.bindN, Fl.thn, Arg.get, R.sl, R.val, stSl, retO, gN, gsN, gsC, gSq, wipeS, mkFn, List.foldr_cons, List.foldr_nil, List.length_cons, List.length_nil, List.map_cons, List.map_nil, List.replicate, List.append_eq, List.cons_append, List.nil_append, List.getElem?_cons_zero, List.getElem?_cons_succ, List.set_cons_zero, List.set_cons_succ, if_true, if_false, Nat.zero_add, Nat.reduceAdd, Nat.reduceSub, Nat.reduceLT, Nat.reduceLeDiff, Nat.reduceEqDiff, Bool.not_true, Bool.not_false, Bool.false_eq_true, Option.map_some, Option.bind_some, and_self, true_and, and_true, reduceCtorEq, tupF]
theorem stm_step (n : Nat) (s : Nat) (names procs : List W) (c : Nat) (h : List MO) (q : Pen c h) (hN : ∀ x ∈ names, IsName x) (h2 : 2 ≤ names.length) (h4 : names.length ≤ 4) (hP : ∀ p ∈ procs, Head p) (hP3 : procs.length ≤ 3) (hn : c + Ds s < 1000000000000)
    (bd : ∀ (t many : Nat) (c : Nat) (h : List MO), s = t + 1 → many ≤ 2 → Pen c h → c + many * Ds t < 1000000000000 → ∃ xs h', fn__law_body_drawn n [.obj 0, .lst names, .lst procs, .int many, .int t] h = .ok (.w (.tup xs)) h' ∧ xs.length = many ∧ (∀ x ∈ xs, Stm t x) ∧ Pen (c + many * Ds t) h') :
    ∃ w h', fn__law_statement_drawn (n + 1) [.obj 0, .lst names, .lst procs, .int s] h = .ok (.w w) h' ∧ Stm s w ∧ Pen (c + Ds s) h' := by
  have d20 : 20 ≤ Ds s := by
    cases s with
    | zero => exact Nat.le_refl _
    | succ t => unfold Ds; omega
  obtain ⟨ys, h1, pm, es, q1⟩ := shuffled_ev c h names q (by omega) (by omega)
  have yn := perm_names pm hN
  have yl := pm.length_eq
  obtain ⟨a, b, r, rfl⟩ : ∃ a b r, ys = a :: b :: r := by
    match ys, yl with
    | [], yl => exact absurd yl (by simp; omega)
    | [a], yl => exact absurd yl (by simp; omega)
    | a :: b :: r, _ => exact ⟨a, b, r, rfl⟩
  have na := yn a (by simp)
  have nb := yn b (by simp)
  -- the way
  have way : ∃ (k : Nat) (h2 : List MO), sSet 6 (cIf (tE (cP2 gtF (aPk 3) (aE (cC (.int 0))))) (cCall fn__law_draw (cCons (cNm 0) (cCons (cC (.int 16)) (cNil)))) (cCall fn__law_draw (cCons (cNm 0) (cCons (cC (.int 13)) (cNil))))) ⟨[.val (.obj 0), .val (.lst names), .val (.lst procs), .val (.int s), .val a, .val b, .un, .un, .un, .un, .un], h1⟩ =
      .nx ⟨[.val (.obj 0), .val (.lst names), .val (.lst procs), .val (.int s), .val a, .val b, .val (.int k), .un, .un, .un, .un], h2⟩ ∧ (13 ≤ k → 0 < s) ∧ Pen (c + names.length + 1) h2 := by
    by_cases hs : 0 < s
    · obtain ⟨k, h2, e, lk, q2⟩ := draw_ev _ 16 h1 q1 (by omega) (by omega) (by omega)
      refine ⟨k, h2, ?_, fun _ => hs, q2⟩
      have hs' : decide ((0 : Int) < (s : Int)) = true := decide_eq_true (by omega)
      have e' : fn__law_draw [.obj 0, .int 16] h1 = .ok (.w (.int k)) h2 := e
      simp only [sSeq, sSet, sNil, sExp, sRet, sRetN, sCt, sBk, sIf, sAsg, sPar, sAug, sPut, ofG, cC, cNm, cP1, cP2, cP3, cM0, cM1, cNil, cCons, cTup, cLst, cIf, cNot, cAnd, cOr, cCall, cDGet, cDis, cObj, cDis0, cApp, cPopAt, cPop, cSlBo, cLc, tE, tNotT, tAndT, tOrT, tY, aE, aPk, iSeq, ofI, M.bind, M.thn, M.bindN, Fl.thn, Arg.get, R.sl, R.val, stSl, retO, gN, gsN, gsC, gSq, wipeS, mkFn, List.foldr_cons, List.foldr_nil, List.length_cons, List.length_nil, List.map_cons, List.map_nil, List.replicate, List.append_eq, List.cons_append, List.nil_append, List.getElem?_cons_zero, List.getElem?_cons_succ, List.set_cons_zero, List.set_cons_succ, if_true, if_false, Nat.zero_add, Nat.reduceAdd, Nat.reduceSub, Nat.reduceLT, Nat.reduceLeDiff, Nat.reduceEqDiff, Bool.not_true, Bool.not_false, Bool.false_eq_true, Option.map_some, Option.bind_some, and_self, true_and, and_true, reduceCtorEq, gtF, cmpI, hs', e']
    · obtain ⟨k, h2, e, lk, q2⟩ := draw_ev _ 13 h1 q1 (by omega) (by omega) (by omega)
      refine ⟨k, h2, ?_, fun z => by omega, q2⟩
      have hs' : decide ((0 : Int) < (s : Int)) = false := decide_eq_false (by omega)
      have e' : fn__law_draw [.obj 0, .int 13] h1 = .ok (.w (.int k)) h2 := e
      simp only [sSeq, sSet, sNil, sExp, sRet, sRetN, sCt, sBk, sIf, sAsg, sPar, sAug, sPut, ofG, cC, cNm, cP1, cP2, cP3, cM0, cM1, cNil, cCons, cTup, cLst, cIf, cNot, cAnd, cOr, cCall, cDGet, cDis, cObj, cDis0, cApp, cPopAt, cPop, cSlBo, cLc, tE, tNotT, tAndT, tOrT, tY, aE, aPk, iSeq, ofI, M.bind, M.thn, M.bindN, Fl.thn, Arg.get, R.sl, R.val, stSl, retO, gN, gsN, gsC, gSq, wipeS, mkFn, List.foldr_cons, List.foldr_nil, List.length_cons, List.length_nil, List.map_cons, List.map_nil, List.replicate, List.append_eq, List.cons_append, List.nil_append, List.getElem?_cons_zero, List.getElem?_cons_succ, List.set_cons_zero, List.set_cons_succ, if_true, if_false, Nat.zero_add, Nat.reduceAdd, Nat.reduceSub, Nat.reduceLT, Nat.reduceLeDiff, Nat.reduceEqDiff, Bool.not_true, Bool.not_false, Bool.false_eq_true, Option.map_some, Option.bind_some, and_self, true_and, and_true, reduceCtorEq, gtF, cmpI, hs', e']
  obtain ⟨k, h2', ew, k13, q2⟩ := way
  by_cases k4 : k < 4
  · have k4' : decide ((k : Int) < 4) = true := decide_eq_true (by omega)
    have lk : k < [W.tup [.str "new", a], .tup [.str "look", a, b], .tup [.str "only", a, b], .tup [.str "move", a, b]].length := k4
    have ix := ix_U _ k _ (List.getElem?_eq_getElem lk)
    have all : ∀ w ∈ [W.tup [.str "new", a], .tup [.str "look", a, b], .tup [.str "only", a, b], .tup [.str "move", a, b]], Stm s w := by
      intro w hw
      simp only [List.mem_cons, List.not_mem_nil, or_false] at hw
      rcases hw with rfl | rfl | rfl | rfl
      · exact .one (by decide +kernel) na
      · exact .two (by decide +kernel) na nb
      · exact .two (by decide +kernel) na nb
      · exact .two (by decide +kernel) na nb
    refine ⟨_, h2', ?_, all _ (List.getElem_mem lk), q2.mono (by omega)⟩
    unfold fn__law_statement_drawn mkFn b__law_statement_drawn
    simp only [List.length_cons, List.length_nil, List.map_cons, List.map_nil, List.replicate, List.append_eq, List.cons_append, List.nil_append, if_true, if_false, Nat.zero_add, Nat.reduceAdd, Nat.reduceSub, Nat.reduceLT, Nat.reduceEqDiff]
    rw [seq_nx (S1 := ⟨[.val (.obj 0), .val (.lst names), .val (.lst procs), .val (.int s), .val a, .val b, .un, .un, .un, .un, .un], h1⟩) (by simp only [sSeq, sSet, sNil, sExp, sRet, sRetN, sCt, sBk, sIf, sAsg, sPar, sAug, sPut, ofG, cC, cNm, cP1, cP2, cP3, cM0, cM1, cNil, cCons, cTup, cLst, cIf, cNot, cAnd, cOr, cCall, cDGet, cDis, cObj, cDis0, cApp, cPopAt, cPop, cSlBo, cLc, tE, tNotT, tAndT, tOrT, tY, aE, aPk, iSeq, ofI, M.bind, M.thn, M.bindN, Fl.thn, Arg.get, R.sl, R.val, stSl, retO, gN, gsN, gsC, gSq, wipeS, mkFn, List.foldr_cons, List.foldr_nil, List.length_cons, List.length_nil, List.map_cons, List.map_nil, List.replicate, List.append_eq, List.cons_append, List.nil_append, List.getElem?_cons_zero, List.getElem?_cons_succ, List.set_cons_zero, List.set_cons_succ, if_true, if_false, Nat.zero_add, Nat.reduceAdd, Nat.reduceSub, Nat.reduceLT, Nat.reduceLeDiff, Nat.reduceEqDiff, Bool.not_true, Bool.not_false, Bool.false_eq_true, Option.map_some, Option.bind_some, and_self, true_and, and_true, reduceCtorEq, es, cut_two]), seq_nx ew]
    simp only [sSeq, sSet, sNil, sExp, sRet, sRetN, sCt, sBk, sIf, sAsg, sPar, sAug, sPut, ofG, cC, cNm, cP1, cP2, cP3, cM0, cM1, cNil, cCons, cTup, cLst, cIf, cNot, cAnd, cOr, cCall, cDGet, cDis, cObj, cDis0, cApp, cPopAt, cPop, cSlBo, cLc, tE, tNotT, tAndT, tOrT, tY, aE, aPk, iSeq, ofI, M.bind, M.thn, M.bindN, Fl.thn, Arg.get, R.sl, R.val, stSl, retO, gN, gsN, gsC, gSq, wipeS, mkFn, List.foldr_cons, List.foldr_nil, List.length_cons, List.length_nil, List.map_cons, List.map_nil, List.replicate, List.append_eq, List.cons_append, List.nil_append, List.getElem?_cons_zero, List.getElem?_cons_succ, List.set_cons_zero, List.set_cons_succ, if_true, if_false, Nat.zero_add, Nat.reduceAdd, Nat.reduceSub, Nat.reduceLT, Nat.reduceLeDiff, Nat.reduceEqDiff, Bool.not_true, Bool.not_false, Bool.false_eq_true, Option.map_some, Option.bind_some, and_self, true_and, and_true, reduceCtorEq, ltF, cmpI, k4', ix]
  have k4' : decide ((k : Int) < 4) = false := decide_eq_false (by omega)
  by_cases k9 : k < 9
  · have k9' : decide ((k : Int) < 9) = true := decide_eq_true (by omega)
    have sb : (k : Int) - 4 = ((k - 4 : Nat) : Int) := by omega
    have lk : k - 4 < [W.tup [.str "use", a], .tup [.str "use", a], .tup [.str "set", a], .tup [.str "drop", a], .tup [.str "new", a]].length := by
      show k - 4 < 5
      omega
    have ix := ix_U _ (k - 4) _ (List.getElem?_eq_getElem lk)
    have all : ∀ w ∈ [W.tup [.str "use", a], .tup [.str "use", a], .tup [.str "set", a], .tup [.str "drop", a], .tup [.str "new", a]], Stm s w := by
      intro w hw
      simp only [List.mem_cons, List.not_mem_nil, or_false] at hw
      rcases hw with rfl | rfl | rfl | rfl | rfl <;> exact .one (by decide +kernel) na
    refine ⟨_, h2', ?_, all _ (List.getElem_mem lk), q2.mono (by omega)⟩
    unfold fn__law_statement_drawn mkFn b__law_statement_drawn
    simp only [List.length_cons, List.length_nil, List.map_cons, List.map_nil, List.replicate, List.append_eq, List.cons_append, List.nil_append, if_true, if_false, Nat.zero_add, Nat.reduceAdd, Nat.reduceSub, Nat.reduceLT, Nat.reduceEqDiff]
    rw [seq_nx (S1 := ⟨[.val (.obj 0), .val (.lst names), .val (.lst procs), .val (.int s), .val a, .val b, .un, .un, .un, .un, .un], h1⟩) (by simp only [sSeq, sSet, sNil, sExp, sRet, sRetN, sCt, sBk, sIf, sAsg, sPar, sAug, sPut, ofG, cC, cNm, cP1, cP2, cP3, cM0, cM1, cNil, cCons, cTup, cLst, cIf, cNot, cAnd, cOr, cCall, cDGet, cDis, cObj, cDis0, cApp, cPopAt, cPop, cSlBo, cLc, tE, tNotT, tAndT, tOrT, tY, aE, aPk, iSeq, ofI, M.bind, M.thn, M.bindN, Fl.thn, Arg.get, R.sl, R.val, stSl, retO, gN, gsN, gsC, gSq, wipeS, mkFn, List.foldr_cons, List.foldr_nil, List.length_cons, List.length_nil, List.map_cons, List.map_nil, List.replicate, List.append_eq, List.cons_append, List.nil_append, List.getElem?_cons_zero, List.getElem?_cons_succ, List.set_cons_zero, List.set_cons_succ, if_true, if_false, Nat.zero_add, Nat.reduceAdd, Nat.reduceSub, Nat.reduceLT, Nat.reduceLeDiff, Nat.reduceEqDiff, Bool.not_true, Bool.not_false, Bool.false_eq_true, Option.map_some, Option.bind_some, and_self, true_and, and_true, reduceCtorEq, es, cut_two]), seq_nx ew]
    simp only [sSeq, sSet, sNil, sExp, sRet, sRetN, sCt, sBk, sIf, sAsg, sPar, sAug, sPut, ofG, cC, cNm, cP1, cP2, cP3, cM0, cM1, cNil, cCons, cTup, cLst, cIf, cNot, cAnd, cOr, cCall, cDGet, cDis, cObj, cDis0, cApp, cPopAt, cPop, cSlBo, cLc, tE, tNotT, tAndT, tOrT, tY, aE, aPk, iSeq, ofI, M.bind, M.thn, M.bindN, Fl.thn, Arg.get, R.sl, R.val, stSl, retO, gN, gsN, gsC, gSq, wipeS, mkFn, List.foldr_cons, List.foldr_nil, List.length_cons, List.length_nil, List.map_cons, List.map_nil, List.replicate, List.append_eq, List.cons_append, List.nil_append, List.getElem?_cons_zero, List.getElem?_cons_succ, List.set_cons_zero, List.set_cons_succ, if_true, if_false, Nat.zero_add, Nat.reduceAdd, Nat.reduceSub, Nat.reduceLT, Nat.reduceLeDiff, Nat.reduceEqDiff, Bool.not_true, Bool.not_false, Bool.false_eq_true, Option.map_some, Option.bind_some, and_self, true_and, and_true, reduceCtorEq, ltF, cmpI, k4', k9', subF, sb, ix]
  have k9' : decide ((k : Int) < 9) = false := decide_eq_false (by omega)
  by_cases k3 : k < 13
  · have k3' : decide ((k : Int) < 13) = true := decide_eq_true (by omega)
    by_cases pe : procs = []
    · have ee : eqF (.lst procs) (.lst []) = some (.w (.bl true)) := by rw [heads_eq procs hP, decide_eq_true pe]
      obtain ⟨w, h3, mw, e3, q3⟩ := pick_ev _ h2' [W.tup [.str "use", b], .tup [.str "look", a, b], .tup [.str "only", a, b]] q2 (by simp) (by simp) (by omega)
      have all : ∀ w ∈ [W.tup [.str "use", b], .tup [.str "look", a, b], .tup [.str "only", a, b]], Stm s w := by
        intro w hw
        simp only [List.mem_cons, List.not_mem_nil, or_false] at hw
        rcases hw with rfl | rfl | rfl
        · exact .one (by decide +kernel) nb
        · exact .two (by decide +kernel) na nb
        · exact .two (by decide +kernel) na nb
      refine ⟨w, h3, ?_, all _ mw, q3.mono (by omega)⟩
      unfold fn__law_statement_drawn mkFn b__law_statement_drawn
      simp only [List.length_cons, List.length_nil, List.map_cons, List.map_nil, List.replicate, List.append_eq, List.cons_append, List.nil_append, if_true, if_false, Nat.zero_add, Nat.reduceAdd, Nat.reduceSub, Nat.reduceLT, Nat.reduceEqDiff]
      rw [seq_nx (S1 := ⟨[.val (.obj 0), .val (.lst names), .val (.lst procs), .val (.int s), .val a, .val b, .un, .un, .un, .un, .un], h1⟩) (by simp only [sSeq, sSet, sNil, sExp, sRet, sRetN, sCt, sBk, sIf, sAsg, sPar, sAug, sPut, ofG, cC, cNm, cP1, cP2, cP3, cM0, cM1, cNil, cCons, cTup, cLst, cIf, cNot, cAnd, cOr, cCall, cDGet, cDis, cObj, cDis0, cApp, cPopAt, cPop, cSlBo, cLc, tE, tNotT, tAndT, tOrT, tY, aE, aPk, iSeq, ofI, M.bind, M.thn, M.bindN, Fl.thn, Arg.get, R.sl, R.val, stSl, retO, gN, gsN, gsC, gSq, wipeS, mkFn, List.foldr_cons, List.foldr_nil, List.length_cons, List.length_nil, List.map_cons, List.map_nil, List.replicate, List.append_eq, List.cons_append, List.nil_append, List.getElem?_cons_zero, List.getElem?_cons_succ, List.set_cons_zero, List.set_cons_succ, if_true, if_false, Nat.zero_add, Nat.reduceAdd, Nat.reduceSub, Nat.reduceLT, Nat.reduceLeDiff, Nat.reduceEqDiff, Bool.not_true, Bool.not_false, Bool.false_eq_true, Option.map_some, Option.bind_some, and_self, true_and, and_true, reduceCtorEq, es, cut_two]), seq_nx ew]
      simp only [sSeq, sSet, sNil, sExp, sRet, sRetN, sCt, sBk, sIf, sAsg, sPar, sAug, sPut, ofG, cC, cNm, cP1, cP2, cP3, cM0, cM1, cNil, cCons, cTup, cLst, cIf, cNot, cAnd, cOr, cCall, cDGet, cDis, cObj, cDis0, cApp, cPopAt, cPop, cSlBo, cLc, tE, tNotT, tAndT, tOrT, tY, aE, aPk, iSeq, ofI, M.bind, M.thn, M.bindN, Fl.thn, Arg.get, R.sl, R.val, stSl, retO, gN, gsN, gsC, gSq, wipeS, mkFn, List.foldr_cons, List.foldr_nil, List.length_cons, List.length_nil, List.map_cons, List.map_nil, List.replicate, List.append_eq, List.cons_append, List.nil_append, List.getElem?_cons_zero, List.getElem?_cons_succ, List.set_cons_zero, List.set_cons_succ, if_true, if_false, Nat.zero_add, Nat.reduceAdd, Nat.reduceSub, Nat.reduceLT, Nat.reduceLeDiff, Nat.reduceEqDiff, Bool.not_true, Bool.not_false, Bool.false_eq_true, Option.map_some, Option.bind_some, and_self, true_and, and_true, reduceCtorEq, ltF, cmpI, k4', k9', k3', ee, e3]
    · have ee : eqF (.lst procs) (.lst []) = some (.w (.bl false)) := by rw [heads_eq procs hP, decide_eq_false pe]
      obtain ⟨w, h3, mw, e3, q3⟩ := pick_ev _ h2' procs q2 (List.length_pos_iff.mpr pe) (by omega) (by omega)
      obtain ⟨nm, m, g, hnm, hm, rfl⟩ := hP w mw
      -- the name that takes what is given
      have give : ∃ (x : W) (h4 : List MO), cIf (tAndT (tE (cNm 9)) (tE (cP2 gtF (aE (cCall fn__law_draw (cCons (cNm 0) (cCons (cC (.int 3)) (cNil))))) (aE (cC (.int 0)))))) (cNm 4) (cC (.str "")) ⟨[.val (.obj 0), .val (.lst names), .val (.lst procs), .val (.int s), .val a, .val b, .val (.int k), .val (.str nm), .val (.int m), .val (.bl g), .un], h3⟩ =
          .ok (.w x, ⟨[.val (.obj 0), .val (.lst names), .val (.lst procs), .val (.int s), .val a, .val b, .val (.int k), .val (.str nm), .val (.int m), .val (.bl g), .un], h4⟩) ∧ (IsName x ∨ x = .str "") ∧ Pen (c + names.length + 1 + 1 + 1) h4 := by
        cases g with
        | false => exact ⟨.str "", h3, by simp only [sSeq, sSet, sNil, sExp, sRet, sRetN, sCt, sBk, sIf, sAsg, sPar, sAug, sPut, ofG, cC, cNm, cP1, cP2, cP3, cM0, cM1, cNil, cCons, cTup, cLst, cIf, cNot, cAnd, cOr, cCall, cDGet, cDis, cObj, cDis0, cApp, cPopAt, cPop, cSlBo, cLc, tE, tNotT, tAndT, tOrT, tY, aE, aPk, iSeq, ofI, M.bind, M.thn, M.bindN, Fl.thn, Arg.get, R.sl, R.val, stSl, retO, gN, gsN, gsC, gSq, wipeS, mkFn, List.foldr_cons, List.foldr_nil, List.length_cons, List.length_nil, List.map_cons, List.map_nil, List.replicate, List.append_eq, List.cons_append, List.nil_append, List.getElem?_cons_zero, List.getElem?_cons_succ, List.set_cons_zero, List.set_cons_succ, if_true, if_false, Nat.zero_add, Nat.reduceAdd, Nat.reduceSub, Nat.reduceLT, Nat.reduceLeDiff, Nat.reduceEqDiff, Bool.not_true, Bool.not_false, Bool.false_eq_true, Option.map_some, Option.bind_some, and_self, true_and, and_true, reduceCtorEq], .inr rfl, q3.mono (Nat.le_succ _)⟩
        | true =>
          obtain ⟨j, h4, e4, lj, q4⟩ := draw_ev _ 3 h3 q3 (by omega) (by omega) (by omega)
          have e4' : fn__law_draw [.obj 0, .int 3] h3 = .ok (.w (.int j)) h4 := e4
          by_cases j0 : (0 : Int) < (j : Int)
          · exact ⟨a, h4, by simp only [sSeq, sSet, sNil, sExp, sRet, sRetN, sCt, sBk, sIf, sAsg, sPar, sAug, sPut, ofG, cC, cNm, cP1, cP2, cP3, cM0, cM1, cNil, cCons, cTup, cLst, cIf, cNot, cAnd, cOr, cCall, cDGet, cDis, cObj, cDis0, cApp, cPopAt, cPop, cSlBo, cLc, tE, tNotT, tAndT, tOrT, tY, aE, aPk, iSeq, ofI, M.bind, M.thn, M.bindN, Fl.thn, Arg.get, R.sl, R.val, stSl, retO, gN, gsN, gsC, gSq, wipeS, mkFn, List.foldr_cons, List.foldr_nil, List.length_cons, List.length_nil, List.map_cons, List.map_nil, List.replicate, List.append_eq, List.cons_append, List.nil_append, List.getElem?_cons_zero, List.getElem?_cons_succ, List.set_cons_zero, List.set_cons_succ, if_true, if_false, Nat.zero_add, Nat.reduceAdd, Nat.reduceSub, Nat.reduceLT, Nat.reduceLeDiff, Nat.reduceEqDiff, Bool.not_true, Bool.not_false, Bool.false_eq_true, Option.map_some, Option.bind_some, and_self, true_and, and_true, reduceCtorEq, e4', gtF, cmpI, decide_eq_true j0], .inl na, q4⟩
          · exact ⟨.str "", h4, by simp only [sSeq, sSet, sNil, sExp, sRet, sRetN, sCt, sBk, sIf, sAsg, sPar, sAug, sPut, ofG, cC, cNm, cP1, cP2, cP3, cM0, cM1, cNil, cCons, cTup, cLst, cIf, cNot, cAnd, cOr, cCall, cDGet, cDis, cObj, cDis0, cApp, cPopAt, cPop, cSlBo, cLc, tE, tNotT, tAndT, tOrT, tY, aE, aPk, iSeq, ofI, M.bind, M.thn, M.bindN, Fl.thn, Arg.get, R.sl, R.val, stSl, retO, gN, gsN, gsC, gSq, wipeS, mkFn, List.foldr_cons, List.foldr_nil, List.length_cons, List.length_nil, List.map_cons, List.map_nil, List.replicate, List.append_eq, List.cons_append, List.nil_append, List.getElem?_cons_zero, List.getElem?_cons_succ, List.set_cons_zero, List.set_cons_succ, if_true, if_false, Nat.zero_add, Nat.reduceAdd, Nat.reduceSub, Nat.reduceLT, Nat.reduceLeDiff, Nat.reduceEqDiff, Bool.not_true, Bool.not_false, Bool.false_eq_true, Option.map_some, Option.bind_some, and_self, true_and, and_true, reduceCtorEq, e4', gtF, cmpI, decide_eq_false j0], .inr rfl, q4⟩
      obtain ⟨x, h4, e4, hx, q4⟩ := give
      have loop := lc_rng (own := [10]) (g := gN 10) (elt := l1__law_statement_drawn (fn__law_body_drawn n) (fn__law_statement_drawn n)) m (by omega)
        (fun i acc S => S.ws = [.val (.obj 0), .val (.lst names), .val (.lst procs), .val (.int s), .val a, .val b, .val (.int k), .val (.str nm), .val (.int m), .val (.bl g), .un] ∧ (∀ x ∈ acc, IsName x) ∧ Pen (c + names.length + 1 + 1 + 1 + i) S.h) (by
          rintro i acc S lt ea ⟨ew, ha, qk⟩
          obtain ⟨ws, h0⟩ := S
          dsimp only at ew qk
          subst ew
          obtain ⟨w, h', mw', e, q'⟩ := pick_ev _ h0 names qk (by omega) (by omega) (by omega)
          simp only [sSeq, sSet, sNil, sExp, sRet, sRetN, sCt, sBk, sIf, sAsg, sPar, sAug, sPut, ofG, cC, cNm, cP1, cP2, cP3, cM0, cM1, cNil, cCons, cTup, cLst, cIf, cNot, cAnd, cOr, cCall, cDGet, cDis, cObj, cDis0, cApp, cPopAt, cPop, cSlBo, cLc, tE, tNotT, tAndT, tOrT, tY, aE, aPk, iSeq, ofI, M.bind, M.thn, M.bindN, Fl.thn, Arg.get, R.sl, R.val, stSl, retO, gN, gsN, gsC, gSq, wipeS, mkFn, List.foldr_cons, List.foldr_nil, List.length_cons, List.length_nil, List.map_cons, List.map_nil, List.replicate, List.append_eq, List.cons_append, List.nil_append, List.getElem?_cons_zero, List.getElem?_cons_succ, List.set_cons_zero, List.set_cons_succ, if_true, if_false, Nat.zero_add, Nat.reduceAdd, Nat.reduceSub, Nat.reduceLT, Nat.reduceLeDiff, Nat.reduceEqDiff, Bool.not_true, Bool.not_false, Bool.false_eq_true, Option.map_some, Option.bind_some, and_self, true_and, and_true, reduceCtorEq, EvG, Ev, l1__law_statement_drawn, e]
          refine ⟨fun x hx => ?_, q'⟩
          rcases List.mem_append.mp hx with hx | hx
          · exact ha x hx
          · rw [List.mem_singleton.mp hx]
            exact hN w mw') ⟨[.val (.obj 0), .val (.lst names), .val (.lst procs), .val (.int s), .val a, .val b, .val (.int k), .val (.str nm), .val (.int m), .val (.bl g), .un], h4⟩ ⟨rfl, fun x hx => (by cases hx), q4⟩
      obtain ⟨xs, S', e5, l5, ew5, hx5, q5⟩ := loop
      have lc : cLc [10] (iRng1' (cNm 8)) (gN 10) tY (l1__law_statement_drawn (fn__law_body_drawn n) (fn__law_statement_drawn n)) ⟨[.val (.obj 0), .val (.lst names), .val (.lst procs), .val (.int s), .val a, .val b, .val (.int k), .val (.str nm), .val (.int m), .val (.bl g), .un], h4⟩ = .ok (.fr (.lst xs), S') := by
        rw [cLc_rng m (by omega) (cNm 8) ⟨[.val (.obj 0), .val (.lst names), .val (.lst procs), .val (.int s), .val a, .val b, .val (.int k), .val (.str nm), .val (.int m), .val (.bl g), .un], h4⟩ ⟨[.val (.obj 0), .val (.lst names), .val (.lst procs), .val (.int s), .val a, .val b, .val (.int k), .val (.str nm), .val (.int m), .val (.bl g), .un], h4⟩ (.w (.int m)) rfl rfl]
        exact e5
      refine ⟨.tup [.str "call", x, .str nm, .tup xs], S'.h, ?_, .call hx hnm (by omega) hx5, q5.mono (by omega)⟩
      unfold fn__law_statement_drawn mkFn b__law_statement_drawn
      simp only [List.length_cons, List.length_nil, List.map_cons, List.map_nil, List.replicate, List.append_eq, List.cons_append, List.nil_append, if_true, if_false, Nat.zero_add, Nat.reduceAdd, Nat.reduceSub, Nat.reduceLT, Nat.reduceEqDiff]
      rw [seq_nx (S1 := ⟨[.val (.obj 0), .val (.lst names), .val (.lst procs), .val (.int s), .val a, .val b, .un, .un, .un, .un, .un], h1⟩) (by simp only [sSeq, sSet, sNil, sExp, sRet, sRetN, sCt, sBk, sIf, sAsg, sPar, sAug, sPut, ofG, cC, cNm, cP1, cP2, cP3, cM0, cM1, cNil, cCons, cTup, cLst, cIf, cNot, cAnd, cOr, cCall, cDGet, cDis, cObj, cDis0, cApp, cPopAt, cPop, cSlBo, cLc, tE, tNotT, tAndT, tOrT, tY, aE, aPk, iSeq, ofI, M.bind, M.thn, M.bindN, Fl.thn, Arg.get, R.sl, R.val, stSl, retO, gN, gsN, gsC, gSq, wipeS, mkFn, List.foldr_cons, List.foldr_nil, List.length_cons, List.length_nil, List.map_cons, List.map_nil, List.replicate, List.append_eq, List.cons_append, List.nil_append, List.getElem?_cons_zero, List.getElem?_cons_succ, List.set_cons_zero, List.set_cons_succ, if_true, if_false, Nat.zero_add, Nat.reduceAdd, Nat.reduceSub, Nat.reduceLT, Nat.reduceLeDiff, Nat.reduceEqDiff, Bool.not_true, Bool.not_false, Bool.false_eq_true, Option.map_some, Option.bind_some, and_self, true_and, and_true, reduceCtorEq, es, cut_two]), seq_nx ew]
      revert e4 lc
      generalize cIf (tAndT (tE (cNm 9)) (tE (cP2 gtF (aE (cCall fn__law_draw (cCons (cNm 0) (cCons (cC (.int 3)) (cNil))))) (aE (cC (.int 0)))))) (cNm 4) (cC (.str "")) = CG
      generalize cLc [10] (iRng1' (cNm 8)) (gN 10) tY (l1__law_statement_drawn (fn__law_body_drawn n) (fn__law_statement_drawn n)) = CL
      intro e4 lc
      simp only [sSeq, sSet, sNil, sExp, sRet, sRetN, sCt, sBk, sIf, sAsg, sPar, sAug, sPut, ofG, cC, cNm, cP1, cP2, cP3, cM0, cM1, cNil, cCons, cTup, cLst, cIf, cNot, cAnd, cOr, cCall, cDGet, cDis, cObj, cDis0, cApp, cPopAt, cPop, cSlBo, cLc, tE, tNotT, tAndT, tOrT, tY, aE, aPk, iSeq, ofI, M.bind, M.thn, M.bindN, Fl.thn, Arg.get, R.sl, R.val, stSl, retO, gN, gsN, gsC, gSq, wipeS, mkFn, List.foldr_cons, List.foldr_nil, List.length_cons, List.length_nil, List.map_cons, List.map_nil, List.replicate, List.append_eq, List.cons_append, List.nil_append, List.getElem?_cons_zero, List.getElem?_cons_succ, List.set_cons_zero, List.set_cons_succ, if_true, if_false, Nat.zero_add, Nat.reduceAdd, Nat.reduceSub, Nat.reduceLT, Nat.reduceLeDiff, Nat.reduceEqDiff, Bool.not_true, Bool.not_false, Bool.false_eq_true, Option.map_some, Option.bind_some, and_self, true_and, and_true, reduceCtorEq, ltF, cmpI, k4', k9', k3', ee, e3, e4, lc, ew5, tupF]
  · have k3' : decide ((k : Int) < 13) = false := decide_eq_false (by omega)
    obtain ⟨t, rfl⟩ : ∃ t, s = t + 1 := ⟨s - 1, by have := k13 (by omega); omega⟩
    have t1 : ((t + 1 : Nat) : Int) - 1 = (t : Int) := by omega
    have dd : Ds (t + 1) = 30 + 4 * Ds t := rfl
    by_cases k15 : k = 15
    · have e15 : eqF (.int k) (.int 15) = some (.w (.bl true)) := by
        simp only [eqF, eq_I]
        rw [decide_eq_true (by omega)]
        rfl
      obtain ⟨j, h3, e3, lj, q3⟩ := draw_ev _ 2 h2' q2 (by omega) (by omega) (by omega)
      have e3' : fn__law_draw [.obj 0, .int 2] h2' = .ok (.w (.int j)) h3 := e3
      have j1 : (1 : Int) + (j : Int) = ((1 + j : Nat) : Int) := by omega
      have jd : (1 + j) * Ds t ≤ 2 * Ds t := Nat.mul_le_mul_right _ (by omega)
      obtain ⟨xs, h4, e4, l4, hx, q4⟩ := bd t (1 + j) _ h3 rfl (by omega) q3 (by omega)
      refine ⟨.tup [.str "loop", .tup xs], h4, ?_, .loop (by omega) hx, q4.mono (by omega)⟩
      unfold fn__law_statement_drawn mkFn b__law_statement_drawn
      simp only [List.length_cons, List.length_nil, List.map_cons, List.map_nil, List.replicate, List.append_eq, List.cons_append, List.nil_append, if_true, if_false, Nat.zero_add, Nat.reduceAdd, Nat.reduceSub, Nat.reduceLT, Nat.reduceEqDiff]
      rw [seq_nx (S1 := ⟨[.val (.obj 0), .val (.lst names), .val (.lst procs), .val (.int ((t + 1 : Nat) : Int)), .val a, .val b, .un, .un, .un, .un, .un], h1⟩) (by simp only [sSeq, sSet, sNil, sExp, sRet, sRetN, sCt, sBk, sIf, sAsg, sPar, sAug, sPut, ofG, cC, cNm, cP1, cP2, cP3, cM0, cM1, cNil, cCons, cTup, cLst, cIf, cNot, cAnd, cOr, cCall, cDGet, cDis, cObj, cDis0, cApp, cPopAt, cPop, cSlBo, cLc, tE, tNotT, tAndT, tOrT, tY, aE, aPk, iSeq, ofI, M.bind, M.thn, M.bindN, Fl.thn, Arg.get, R.sl, R.val, stSl, retO, gN, gsN, gsC, gSq, wipeS, mkFn, List.foldr_cons, List.foldr_nil, List.length_cons, List.length_nil, List.map_cons, List.map_nil, List.replicate, List.append_eq, List.cons_append, List.nil_append, List.getElem?_cons_zero, List.getElem?_cons_succ, List.set_cons_zero, List.set_cons_succ, if_true, if_false, Nat.zero_add, Nat.reduceAdd, Nat.reduceSub, Nat.reduceLT, Nat.reduceLeDiff, Nat.reduceEqDiff, Bool.not_true, Bool.not_false, Bool.false_eq_true, Option.map_some, Option.bind_some, and_self, true_and, and_true, reduceCtorEq, es, cut_two]), seq_nx ew]
      simp only [sSeq, sSet, sNil, sExp, sRet, sRetN, sCt, sBk, sIf, sAsg, sPar, sAug, sPut, ofG, cC, cNm, cP1, cP2, cP3, cM0, cM1, cNil, cCons, cTup, cLst, cIf, cNot, cAnd, cOr, cCall, cDGet, cDis, cObj, cDis0, cApp, cPopAt, cPop, cSlBo, cLc, tE, tNotT, tAndT, tOrT, tY, aE, aPk, iSeq, ofI, M.bind, M.thn, M.bindN, Fl.thn, Arg.get, R.sl, R.val, stSl, retO, gN, gsN, gsC, gSq, wipeS, mkFn, List.foldr_cons, List.foldr_nil, List.length_cons, List.length_nil, List.map_cons, List.map_nil, List.replicate, List.append_eq, List.cons_append, List.nil_append, List.getElem?_cons_zero, List.getElem?_cons_succ, List.set_cons_zero, List.set_cons_succ, if_true, if_false, Nat.zero_add, Nat.reduceAdd, Nat.reduceSub, Nat.reduceLT, Nat.reduceLeDiff, Nat.reduceEqDiff, Bool.not_true, Bool.not_false, Bool.false_eq_true, Option.map_some, Option.bind_some, and_self, true_and, and_true, reduceCtorEq, ltF, cmpI, k4', k9', k3', e15, e3', add_i, j1, subF, t1, e4]
    · have e15 : eqF (.int k) (.int 15) = some (.w (.bl false)) := by
        simp only [eqF, eq_I]
        rw [decide_eq_false (by omega)]
        rfl
      obtain ⟨j, h3, e3, lj, q3⟩ := draw_ev _ 3 h2' q2 (by omega) (by omega) (by omega)
      have e3' : fn__law_draw [.obj 0, .int 3] h2' = .ok (.w (.int j)) h3 := e3
      have jd : j * Ds t ≤ 2 * Ds t := Nat.mul_le_mul_right _ (by omega)
      obtain ⟨xs, h4, e4, l4, hx, q4⟩ := bd t j _ h3 rfl (by omega) q3 (by omega)
      obtain ⟨i, h5, e5, li, q5⟩ := draw_ev _ 2 h4 q4 (by omega) (by omega) (by omega)
      have e5' : fn__law_draw [.obj 0, .int 2] h4 = .ok (.w (.int i)) h5 := e5
      have id' : i * Ds t ≤ 2 * Ds t := Nat.mul_le_mul_right _ (by omega)
      obtain ⟨ys, h6, e6, l6, hy, q6⟩ := bd t i _ h5 rfl (by omega) q5 (by omega)
      refine ⟨.tup [.str "either", .tup xs, .tup ys], h6, ?_, .either (by omega) hx (by omega) hy, q6.mono (by omega)⟩
      unfold fn__law_statement_drawn mkFn b__law_statement_drawn
      simp only [List.length_cons, List.length_nil, List.map_cons, List.map_nil, List.replicate, List.append_eq, List.cons_append, List.nil_append, if_true, if_false, Nat.zero_add, Nat.reduceAdd, Nat.reduceSub, Nat.reduceLT, Nat.reduceEqDiff]
      rw [seq_nx (S1 := ⟨[.val (.obj 0), .val (.lst names), .val (.lst procs), .val (.int ((t + 1 : Nat) : Int)), .val a, .val b, .un, .un, .un, .un, .un], h1⟩) (by simp only [sSeq, sSet, sNil, sExp, sRet, sRetN, sCt, sBk, sIf, sAsg, sPar, sAug, sPut, ofG, cC, cNm, cP1, cP2, cP3, cM0, cM1, cNil, cCons, cTup, cLst, cIf, cNot, cAnd, cOr, cCall, cDGet, cDis, cObj, cDis0, cApp, cPopAt, cPop, cSlBo, cLc, tE, tNotT, tAndT, tOrT, tY, aE, aPk, iSeq, ofI, M.bind, M.thn, M.bindN, Fl.thn, Arg.get, R.sl, R.val, stSl, retO, gN, gsN, gsC, gSq, wipeS, mkFn, List.foldr_cons, List.foldr_nil, List.length_cons, List.length_nil, List.map_cons, List.map_nil, List.replicate, List.append_eq, List.cons_append, List.nil_append, List.getElem?_cons_zero, List.getElem?_cons_succ, List.set_cons_zero, List.set_cons_succ, if_true, if_false, Nat.zero_add, Nat.reduceAdd, Nat.reduceSub, Nat.reduceLT, Nat.reduceLeDiff, Nat.reduceEqDiff, Bool.not_true, Bool.not_false, Bool.false_eq_true, Option.map_some, Option.bind_some, and_self, true_and, and_true, reduceCtorEq, es, cut_two]), seq_nx ew]
      simp only [sSeq, sSet, sNil, sExp, sRet, sRetN, sCt, sBk, sIf, sAsg, sPar, sAug, sPut, ofG, cC, cNm, cP1, cP2, cP3, cM0, cM1, cNil, cCons, cTup, cLst, cIf, cNot, cAnd, cOr, cCall, cDGet, cDis, cObj, cDis0, cApp, cPopAt, cPop, cSlBo, cLc, tE, tNotT, tAndT, tOrT, tY, aE, aPk, iSeq, ofI, M.bind, M.thn, M.bindN, Fl.thn, Arg.get, R.sl, R.val, stSl, retO, gN, gsN, gsC, gSq, wipeS, mkFn, List.foldr_cons, List.foldr_nil, List.length_cons, List.length_nil, List.map_cons, List.map_nil, List.replicate, List.append_eq, List.cons_append, List.nil_append, List.getElem?_cons_zero, List.getElem?_cons_succ, List.set_cons_zero, List.set_cons_succ, if_true, if_false, Nat.zero_add, Nat.reduceAdd, Nat.reduceSub, Nat.reduceLT, Nat.reduceLeDiff, Nat.reduceEqDiff, Bool.not_true, Bool.not_false, Bool.false_eq_true, Option.map_some, Option.bind_some, and_self, true_and, and_true, reduceCtorEq, ltF, cmpI, k4', k9', k3', e15, e3', subF, t1, e4, e5', e6]
theorem drawn_all : ∀ (n s : Nat) (names procs : List W) (c : Nat) (h : List MO), (∀ x ∈ names, IsName x) → 2 ≤ names.length → names.length ≤ 4 → (∀ p ∈ procs, Head p) → procs.length ≤ 3 →
    (2 * s + 2 ≤ n → Pen c h → c + Ds s < 1000000000000 → ∃ w h', fn__law_statement_drawn n [.obj 0, .lst names, .lst procs, .int s] h = .ok (.w w) h' ∧ Stm s w ∧ Pen (c + Ds s) h') ∧
    (∀ many : Nat, 2 * s + 3 ≤ n → many ≤ 1048576 → Pen c h → c + many * Ds s < 1000000000000 → ∃ xs h', fn__law_body_drawn n [.obj 0, .lst names, .lst procs, .int many, .int s] h = .ok (.w (.tup xs)) h' ∧ xs.length = many ∧ (∀ x ∈ xs, Stm s x) ∧ Pen (c + many * Ds s) h') := by
  intro n
  induction n with
  | zero =>
    intro s names procs c h _ _ _ _ _
    exact ⟨fun z => by omega, fun many z => by omega⟩
  | succ n ih =>
    intro s names procs c h hN h2 h4 hP hP3
    refine ⟨fun hn q hc => stm_step n s names procs c h q hN h2 h4 hP hP3 hc fun t many c' h' es hm q' hc' => ?_, fun many hn hm q hc => body_step n s many names procs c h q hm hc fun c' h' q' hc' => ?_⟩
    · subst es
      exact (ih t names procs c' h' hN h2 h4 hP hP3).2 many (by omega) (by omega) q' hc'
    · exact (ih s names procs c' h' hN h2 h4 hP hP3).1 (by omega) q' hc'
end W44

set_option Elab.async false
set_option linter.all false
set_option maxRecDepth 100000
set_option maxHeartbeats 1000000
namespace W44
open PySem Mi
theorem Stm.up {s : Nat} {w : W} (h : Stm s w) : Stm (s + 1) w := by
  induction h with
  | one a b => exact .one a b
  | two a b c => exact .two a b c
  | call a b c d => exact .call a b c d
  | loop a b ih => exact .loop a ih
  | either a b c d ih1 ih2 => exact .either a ih1 c ih2
theorem cut_hi (ws : List W) (k : Nat) : slHiF (.lst ws) (.int k) = some (.fr (.lst (ws.take k))) := by
  simp only [slHiF, slF, cutW, HT.sIx]
  rw [if_neg (by omega)]
  simp only [Int.toNat_natCast, List.drop_zero, Nat.sub_zero]
  by_cases h : k ≤ ws.length
  · rw [Nat.min_eq_left h]
  · rw [Nat.min_eq_right (by omega), List.take_of_length_le (Nat.le_refl _), List.take_of_length_le (by omega)]
theorem begun_ev (names : List W) (c : Nat) (h : List MO) (q : Pen c h) (hN : ∀ x ∈ names, IsName x) (h2 : 2 ≤ names.length) (h4 : names.length ≤ 4) (hn : c + 5 < 1000000000000) :
    ∃ xs h', fn__law_begun [.obj 0, .lst names] h = .ok (.w (.tup xs)) h' ∧ xs.length ≤ 3 ∧ (∀ x ∈ xs, Stm 2 x) ∧ Pen (c + 5) h' := by
  obtain ⟨ys, h1, pm, es, q1⟩ := shuffled_ev c h names q (by omega) (by omega)
  have yn := perm_names pm hN
  have yl := pm.length_eq
  obtain ⟨a, b, z, na, nb, nz, e3⟩ : ∃ a b z, IsName a ∧ IsName b ∧ IsName z ∧ ((List.replicate 2 ys).flatten).take 3 = [a, b, z] := by
    match ys, yl, yn with
    | [], yl, _ => exact absurd yl (by simp; omega)
    | [a], yl, _ => exact absurd yl (by simp; omega)
    | [a, b], _, yn => exact ⟨a, b, a, yn a (by simp), yn b (by simp), yn a (by simp), rfl⟩
    | a :: b :: z :: r, _, yn => exact ⟨a, b, z, yn a (by simp), yn b (by simp), yn z (by simp), rfl⟩
  have mu : mulF (.lst ys) (.int 2) = some (.fr (.lst (List.replicate 2 ys).flatten)) := by
    dsimp only [mulF]
    rw [if_pos ⟨by decide, by rw [show Int.toNat 2 = 2 from rfl]; omega⟩]
    rfl
  have cu : slHiF (.lst (List.replicate 2 ys).flatten) (.int 3) = some (.fr (.lst [a, b, z])) := by
    have := cut_hi (List.replicate 2 ys).flatten 3
    rw [e3] at this
    exact this
  revert mu cu
  generalize (List.replicate 2 ys).flatten = zz
  intro mu cu
  obtain ⟨sa, ma, rfl⟩ := na
  obtain ⟨sb, mb, rfl⟩ := nb
  obtain ⟨sz, mz, rfl⟩ := nz
  have na : IsName (.str sa) := ⟨sa, ma, rfl⟩
  have nb : IsName (.str sb) := ⟨sb, mb, rfl⟩
  have nz : IsName (.str sz) := ⟨sz, mz, rfl⟩
  have first : ∀ w ∈ [W.tup [.tup [.str "new", .str sa]], .tup [.tup [.str "new", .str sa], .tup [.str "look", .str sb, .str sa]], .tup [.tup [.str "new", .str sa], .tup [.str "only", .str sb, .str sa]], .tup [.tup [.str "new", .str sa], .tup [.str "new", .str sb]]], ∃ xs, w = .tup xs ∧ xs.length ≤ 3 ∧ ∀ x ∈ xs, Stm 2 x := by
    intro w hw
    have n1 : Stm 2 (.tup [.str "new", .str sa]) := .one (by decide +kernel) na
    have n2 : Stm 2 (.tup [.str "new", .str sb]) := .one (by decide +kernel) nb
    have n3 : Stm 2 (.tup [.str "look", .str sb, .str sa]) := .two (by decide +kernel) nb na
    have n4 : Stm 2 (.tup [.str "only", .str sb, .str sa]) := .two (by decide +kernel) nb na
    simp only [List.mem_cons, List.not_mem_nil, or_false] at hw
    rcases hw with rfl | rfl | rfl | rfl <;> refine ⟨_, rfl, by simp, fun x hx => ?_⟩ <;> simp only [List.mem_cons, List.not_mem_nil, or_false] at hx
    · rw [hx]; exact n1
    · rcases hx with rfl | rfl <;> assumption
    · rcases hx with rfl | rfl <;> assumption
    · rcases hx with rfl | rfl <;> assumption
  have more : ∀ w ∈ [W.tup [.tup [.str "new", .str sa], .tup [.str "look", .str sb, .str sa], .tup [.str "look", .str sz, .str sa]], .tup [.tup [.str "new", .str sa], .tup [.str "only", .str sb, .str sa], .tup [.str "only", .str sz, .str sb]], .tup [.tup [.str "new", .str sa], .tup [.str "only", .str sb, .str sa], .tup [.str "look", .str sz, .str sb]]], ∃ xs, w = .tup xs ∧ xs.length ≤ 3 ∧ ∀ x ∈ xs, Stm 2 x := by
    intro w hw
    have n1 : Stm 2 (.tup [.str "new", .str sa]) := .one (by decide +kernel) na
    have n3 : Stm 2 (.tup [.str "look", .str sb, .str sa]) := .two (by decide +kernel) nb na
    have n4 : Stm 2 (.tup [.str "only", .str sb, .str sa]) := .two (by decide +kernel) nb na
    have n5 : Stm 2 (.tup [.str "look", .str sz, .str sa]) := .two (by decide +kernel) nz na
    have n6 : Stm 2 (.tup [.str "only", .str sz, .str sb]) := .two (by decide +kernel) nz nb
    have n7 : Stm 2 (.tup [.str "look", .str sz, .str sb]) := .two (by decide +kernel) nz nb
    simp only [List.mem_cons, List.not_mem_nil, or_false] at hw
    rcases hw with rfl | rfl | rfl <;> refine ⟨_, rfl, by simp, fun x hx => ?_⟩ <;> simp only [List.mem_cons, List.not_mem_nil, or_false] at hx
    · rcases hx with rfl | rfl | rfl <;> assumption
    · rcases hx with rfl | rfl | rfl <;> assumption
    · rcases hx with rfl | rfl | rfl <;> assumption
  by_cases iz : sz ∈ [sa, sb]
  · have i1 : inF true (.str sz) (.tup [.str sa, .str sb]) = some (.w (.bl false)) := by
      have := in_strs true sz [sa, sb]
      rw [decide_eq_true iz] at this
      exact this
    obtain ⟨w, h3, mw, e4, q3⟩ := pick_ev _ h1 _ q1 (show 0 < [W.tup [.tup [.str "new", .str sa]], .tup [.tup [.str "new", .str sa], .tup [.str "look", .str sb, .str sa]], .tup [.tup [.str "new", .str sa], .tup [.str "only", .str sb, .str sa]], .tup [.tup [.str "new", .str sa], .tup [.str "new", .str sb]]].length by simp) (by simp) (by omega)
    obtain ⟨xs, rfl, lx, hx⟩ := first w mw
    refine ⟨xs, h3, ?_, lx, hx, q3.mono (by omega)⟩
    simp only [fn__law_begun, b__law_begun, N__law_begun, sSeq, sSet, sNil, sExp, sRet, sRetN, sCt, sBk, sIf, sAsg, sPar, sAug, sPut, ofG, cC, cNm, cP1, cP2, cP3, cM0, cM1, cNil, cCons, cTup, cLst, cIf, cNot, cAnd, cOr, cCall, cDGet, cDis, cObj, cDis0, cApp, cPopAt, cPop, cSlBo, cLc, tE, tNotT, tAndT, tOrT, tY, aE, aPk, iSeq, ofI, M.bind, M.thn, M.bindN, Fl.thn, Arg.get, R.sl, R.val, stSl, retO, gN, gsN, gsC, gSq, wipeS, mkFn, List.foldr_cons, List.foldr_nil, List.length_cons, List.length_nil, List.map_cons, List.map_nil, List.replicate, List.append_eq, List.cons_append, List.nil_append, List.getElem?_cons_zero, List.getElem?_cons_succ, List.set_cons_zero, List.set_cons_succ, if_true, if_false, Nat.zero_add, Nat.reduceAdd, Nat.reduceSub, Nat.reduceLT, Nat.reduceLeDiff, Nat.reduceEqDiff, Bool.not_true, Bool.not_false, Bool.false_eq_true, Option.map_some, Option.bind_some, and_self, true_and, and_true, reduceCtorEq, es, listF, mu, cu, i1, e4]
  · have i1 : inF true (.str sz) (.tup [.str sa, .str sb]) = some (.w (.bl true)) := by
      have := in_strs true sz [sa, sb]
      rw [decide_eq_false iz] at this
      exact this
    obtain ⟨w, h3, mw, e4, q3⟩ := pick_ev _ h1 _ q1 (show 0 < ([W.tup [.tup [.str "new", .str sa]], .tup [.tup [.str "new", .str sa], .tup [.str "look", .str sb, .str sa]], .tup [.tup [.str "new", .str sa], .tup [.str "only", .str sb, .str sa]], .tup [.tup [.str "new", .str sa], .tup [.str "new", .str sb]]] ++
      [W.tup [.tup [.str "new", .str sa], .tup [.str "look", .str sb, .str sa], .tup [.str "look", .str sz, .str sa]], .tup [.tup [.str "new", .str sa], .tup [.str "only", .str sb, .str sa], .tup [.str "only", .str sz, .str sb]], .tup [.tup [.str "new", .str sa], .tup [.str "only", .str sb, .str sa], .tup [.str "look", .str sz, .str sb]]]).length by simp) (by simp) (by omega)
    obtain ⟨xs, rfl, lx, hx⟩ := (List.mem_append.mp mw).elim (first w) (more w)
    refine ⟨xs, h3, ?_, lx, hx, q3.mono (by omega)⟩
    simp only [List.cons_append, List.nil_append] at e4
    simp only [fn__law_begun, b__law_begun, N__law_begun, sSeq, sSet, sNil, sExp, sRet, sRetN, sCt, sBk, sIf, sAsg, sPar, sAug, sPut, ofG, cC, cNm, cP1, cP2, cP3, cM0, cM1, cNil, cCons, cTup, cLst, cIf, cNot, cAnd, cOr, cCall, cDGet, cDis, cObj, cDis0, cApp, cPopAt, cPop, cSlBo, cLc, tE, tNotT, tAndT, tOrT, tY, aE, aPk, iSeq, ofI, M.bind, M.thn, M.bindN, Fl.thn, Arg.get, R.sl, R.val, stSl, retO, gN, gsN, gsC, gSq, wipeS, mkFn, List.foldr_cons, List.foldr_nil, List.length_cons, List.length_nil, List.map_cons, List.map_nil, List.replicate, List.append_eq, List.cons_append, List.nil_append, List.getElem?_cons_zero, List.getElem?_cons_succ, List.set_cons_zero, List.set_cons_succ, if_true, if_false, Nat.zero_add, Nat.reduceAdd, Nat.reduceSub, Nat.reduceLT, Nat.reduceLeDiff, Nat.reduceEqDiff, Bool.not_true, Bool.not_false, Bool.false_eq_true, Option.map_some, Option.bind_some, and_self, true_and, and_true, reduceCtorEq, es, listF, mu, cu, i1, addF, e4]
/-! ### books -/
structure Proc (w : W) : Prop where
  ex : ∃ (nm : Str) (args body : List W) (give : W), w = .tup [.str nm, .tup args, .tup body, give] ∧ nm ∈ ("main" : Str) :: procNames ∧ args.length ≤ 2 ∧ (∀ a ∈ args, IsName a) ∧ body.length ≤ 16 ∧ (∀ x ∈ body, Stm 2 x) ∧ (IsName give ∨ give = .str "")
def Tree (w : W) : Prop := ∃ ps : List W, w = .tup [.tup ps] ∧ ps.length ≤ 4 ∧ ∀ p ∈ ps, Proc p
theorem max_ev (m : Nat) : maxF (.int m) (.int 1) = some (.w (.int ((max m 1 : Nat) : Int))) := by
  simp only [maxF]
  by_cases h : 1 ≤ m
  · rw [if_neg (by omega), Nat.max_eq_left h]
  · rw [if_pos (by omega)]
    have : m = 0 := by omega
    subst this
    rfl
theorem name_of {w : W} {xs : List W} {k : Nat} (h : ∀ x ∈ xs, IsName x) (hw : w ∈ xs.take k) : IsName w := h w (List.mem_of_mem_take hw)
theorem proc_step (k m : Nat) (size : Nat) (hs : 0 < size) (hs6 : size ≤ 6) (names heads ps : List W) (many' : W) (nm : Str) (g : Bool) (s6 s7 s8 s9 s10 : Sl) (c : Nat) (h : List MO) (q : Pen c h) (hN : ∀ x ∈ names, IsName x) (h2 : 2 ≤ names.length) (h4 : names.length ≤ 4) (hP : ∀ p ∈ heads, Head p) (hP3 : heads.length ≤ 3)
    (hnm : nm ∈ procNames) (hm : m ≤ 2) (hps : ps.length ≤ 4) (hn : c + 2000 < 1000000000000) :
    ∃ (p : W) (h' : List MO) (t9 t10 : Sl), Proc p ∧ Pen (c + 2000) h' ∧ d1__law_book_of_sizes ⟨[.val (.obj 0), .val many', .val (.int size), .val (.lst names), .val (.lst heads), .val (.tup ps), .val (.str nm), .val (.int m), .val (.bl g), s9, s10], h⟩ =
      .nx ⟨[.val (.obj 0), .val many', .val (.int size), .val (.lst names), .val (.lst heads), .val (.tup (ps ++ [p])), .val (.str nm), .val (.int m), .val (.bl g), t9, t10], h'⟩ := by
  obtain ⟨ys, h1, pm, e1, q1⟩ := shuffled_ev c h names q (by omega) (by omega)
  have yn := perm_names pm hN
  have yl := pm.length_eq
  obtain ⟨j, h2', e2, lj, q2⟩ := draw_ev _ size h1 q1 hs (by omega) (by omega)
  have d1 : Ds 1 = 110 := rfl
  have jd : j * Ds 1 ≤ 5 * 110 := by
    rw [d1]
    exact Nat.mul_le_mul_right _ (by omega)
  obtain ⟨xs, h3, e3, l3, hx, q3⟩ := (drawn_all fuel__law_body_drawn 1 names heads _ h2' hN h2 h4 hP hP3).2 j (by decide) (by omega) q2 (by omega)
  have e3' : fn__law_body_drawn fuel__law_body_drawn [.obj 0, .lst names, .lst heads, .int j, .int 1] h2' = .ok (.w (.tup xs)) h3 := e3
  have len : ps.length + [W.obj 0].length ≤ 16777216 := by
    rw [List.length_singleton]
    omega
  have len' : ps.length + 1 ≤ 16777216 := by omega
  cases g with
  | false =>
    refine ⟨.tup [.str nm, .tup (ys.take m), .tup xs, .str ""], h3, .val (.lst ys), .val (.tup xs), ⟨nm, ys.take m, xs, _, rfl, List.mem_cons_of_mem _ hnm, ?_, fun a ha => name_of yn ha, by omega, fun x hx' => (hx x hx').up, .inr rfl⟩, q3.mono (by omega), ?_⟩
    · rw [List.length_take]
      omega
    · simp only [sSeq, sSet, sNil, sExp, sRet, sRetN, sCt, sBk, sIf, sAsg, sPar, sAug, sPut, ofG, cC, cNm, cP1, cP2, cP3, cM0, cM1, cNil, cCons, cTup, cLst, cIf, cNot, cAnd, cOr, cCall, cDGet, cDis, cObj, cDis0, cApp, cPopAt, cPop, cSlBo, cLc, tE, tNotT, tAndT, tOrT, tY, aE, aPk, iSeq, ofI, M.bind, M.thn, M.bindN, Fl.thn, Arg.get, R.sl, R.val, stSl, retO, gN, gsN, gsC, gSq, wipeS, mkFn, List.foldr_cons, List.foldr_nil, List.length_cons, List.length_nil, List.map_cons, List.map_nil, List.replicate, List.append_eq, List.cons_append, List.nil_append, List.getElem?_cons_zero, List.getElem?_cons_succ, List.set_cons_zero, List.set_cons_succ, if_true, if_false, Nat.zero_add, Nat.reduceAdd, Nat.reduceSub, Nat.reduceLT, Nat.reduceLeDiff, Nat.reduceEqDiff, Bool.not_true, Bool.not_false, Bool.false_eq_true, Option.map_some, Option.bind_some, and_self, true_and, and_true, reduceCtorEq, d1__law_book_of_sizes, e1, e2, e3', cut_hi, tupF, addF, len']
  | true =>
    have c2 := cut_hi ys 2
    have c2' : slHiF (.lst ys) (.int 2) = some (.fr (.lst (ys.take 2))) := c2
    have lt : 0 < (ys.take (max m 1) ++ ys.take 2).length := by
      rw [List.length_append, List.length_take, List.length_take]
      omega
    have lt2 : (ys.take (max m 1)).length + (ys.take 2).length ≤ 16777216 := by
      rw [List.length_take, List.length_take]
      omega
    have lt3 : (ys.take (max m 1) ++ ys.take 2).length < 1073741824 := by
      rw [List.length_append]
      omega
    obtain ⟨w, h5, mw, e5, q5⟩ := pick_ev _ h3 (ys.take (max m 1) ++ ys.take 2) q3 lt lt3 (by omega)
    refine ⟨.tup [.str nm, .tup (ys.take m), .tup xs, w], h5, .val (.lst ys), .val (.tup xs), ⟨nm, ys.take m, xs, w, rfl, List.mem_cons_of_mem _ hnm, ?_, fun a ha => name_of yn ha, by omega, fun x hx' => (hx x hx').up, .inl ((List.mem_append.mp mw).elim (name_of yn) (name_of yn))⟩, q5.mono (by omega), ?_⟩
    · rw [List.length_take]
      omega
    · simp only [sSeq, sSet, sNil, sExp, sRet, sRetN, sCt, sBk, sIf, sAsg, sPar, sAug, sPut, ofG, cC, cNm, cP1, cP2, cP3, cM0, cM1, cNil, cCons, cTup, cLst, cIf, cNot, cAnd, cOr, cCall, cDGet, cDis, cObj, cDis0, cApp, cPopAt, cPop, cSlBo, cLc, tE, tNotT, tAndT, tOrT, tY, aE, aPk, iSeq, ofI, M.bind, M.thn, M.bindN, Fl.thn, Arg.get, R.sl, R.val, stSl, retO, gN, gsN, gsC, gSq, wipeS, mkFn, List.foldr_cons, List.foldr_nil, List.length_cons, List.length_nil, List.map_cons, List.map_nil, List.replicate, List.append_eq, List.cons_append, List.nil_append, List.getElem?_cons_zero, List.getElem?_cons_succ, List.set_cons_zero, List.set_cons_succ, if_true, if_false, Nat.zero_add, Nat.reduceAdd, Nat.reduceSub, Nat.reduceLT, Nat.reduceLeDiff, Nat.reduceEqDiff, Bool.not_true, Bool.not_false, Bool.false_eq_true, Option.map_some, Option.bind_some, and_self, true_and, and_true, reduceCtorEq, d1__law_book_of_sizes, e1, e2, e3', cut_hi, c2', max_ev, tupF, addF, lt2, len', e5]
theorem eq0_ev (k : Nat) : eqF (.int k) (.int 0) = some (.w (.bl (decide (k = 0)))) := by
  simp only [eqF, eq_I]
  by_cases h : k = 0
  · rw [decide_eq_true h, decide_eq_true (by omega)]
    rfl
  · rw [decide_eq_false h, decide_eq_false (by omega)]
    rfl
theorem heads_ev (many : Nat) (S : Sta) (c : Nat) (p s2 s5 s6 s7 s8 s9 s10 : Sl) (sl3 : Sl) (h : List MO) (q : Pen c h) (hn : c + 4 < 1000000000000) :
    ∃ (hs : List W) (h' : List MO), (∀ x ∈ hs, Head x) ∧ hs.length ≤ 3 ∧ Pen (c + 4) h' ∧ sSet 4 (cP2 slHiF (aE (cLst (cCons (cTup (cCons (cC (.str "f")) (cCons (cP2 addF (aE (cC (.int 1))) (aE (cCall fn__law_draw (cCons (cNm 0) (cCons (cC (.int 2)) (cNil)))))) (cCons (cP2 eqF (aE (cCall fn__law_draw (cCons (cNm 0) (cCons (cC (.int 2)) (cNil))))) (aE (cC (.int 0)))) (cNil))))) (cCons (cTup (cCons (cC (.str "g")) (cCons (cCall fn__law_draw (cCons (cNm 0) (cCons (cC (.int 3)) (cNil)))) (cCons (cP2 eqF (aE (cCall fn__law_draw (cCons (cNm 0) (cCons (cC (.int 2)) (cNil))))) (aE (cC (.int 0)))) (cNil))))) (cCons (cTup (cCons (cC (.str "far")) (cCons (cC (.int 1)) (cCons (cC (.bl true)) (cNil))))) (cNil)))))) (aPk 1))
      ⟨[.val (.obj 0), .val (.int many), s2, sl3, .un, s5, s6, s7, s8, s9, s10], h⟩ = .nx ⟨[.val (.obj 0), .val (.int many), s2, sl3, .own (.lst hs), s5, s6, s7, s8, s9, s10], h'⟩ := by
  obtain ⟨a, h1, e1, la, q1⟩ := draw_ev c 2 h q (by omega) (by omega) (by omega)
  obtain ⟨b, h2, e2, lb, q2⟩ := draw_ev _ 2 h1 q1 (by omega) (by omega) (by omega)
  obtain ⟨d, h3, e3, ld, q3⟩ := draw_ev _ 3 h2 q2 (by omega) (by omega) (by omega)
  obtain ⟨e, h4, e4, le, q4⟩ := draw_ev _ 2 h3 q3 (by omega) (by omega) (by omega)
  have e1' : fn__law_draw [.obj 0, .int 2] h = .ok (.w (.int a)) h1 := e1
  have e2' : fn__law_draw [.obj 0, .int 2] h1 = .ok (.w (.int b)) h2 := e2
  have e3' : fn__law_draw [.obj 0, .int 3] h2 = .ok (.w (.int d)) h3 := e3
  have e4' : fn__law_draw [.obj 0, .int 2] h3 = .ok (.w (.int e)) h4 := e4
  have a1 : (1 : Int) + (a : Int) = ((1 + a : Nat) : Int) := by omega
  refine ⟨[W.tup [.str "f", .int ((1 + a : Nat) : Int), .bl (decide (b = 0))], .tup [.str "g", .int d, .bl (decide (e = 0))], .tup [.str "far", .int 1, .bl true]].take many, h4, fun x hx => ?_, ?_, q4, ?_⟩
  · have hx := List.mem_of_mem_take hx
    simp only [List.mem_cons, List.not_mem_nil, or_false] at hx
    rcases hx with rfl | rfl | rfl
    · exact ⟨"f", 1 + a, _, by decide +kernel, by omega, rfl⟩
    · exact ⟨"g", d, _, by decide +kernel, by omega, rfl⟩
    · exact ⟨"far", 1, _, by decide +kernel, by omega, rfl⟩
  · rw [List.length_take]
    exact Nat.min_le_right _ _
  · simp only [sSeq, sSet, sNil, sExp, sRet, sRetN, sCt, sBk, sIf, sAsg, sPar, sAug, sPut, ofG, cC, cNm, cP1, cP2, cP3, cM0, cM1, cNil, cCons, cTup, cLst, cIf, cNot, cAnd, cOr, cCall, cDGet, cDis, cObj, cDis0, cApp, cPopAt, cPop, cSlBo, cLc, tE, tNotT, tAndT, tOrT, tY, aE, aPk, iSeq, ofI, M.bind, M.thn, M.bindN, Fl.thn, Arg.get, R.sl, R.val, stSl, retO, gN, gsN, gsC, gSq, wipeS, mkFn, List.foldr_cons, List.foldr_nil, List.length_cons, List.length_nil, List.map_cons, List.map_nil, List.replicate, List.append_eq, List.cons_append, List.nil_append, List.getElem?_cons_zero, List.getElem?_cons_succ, List.set_cons_zero, List.set_cons_succ, if_true, if_false, Nat.zero_add, Nat.reduceAdd, Nat.reduceSub, Nat.reduceLT, Nat.reduceLeDiff, Nat.reduceEqDiff, Bool.not_true, Bool.not_false, Bool.false_eq_true, Option.map_some, Option.bind_some, and_self, true_and, and_true, reduceCtorEq, e1', e2', e3', e4', add_i, a1, eq0_ev, cut_hi]
theorem main_ev (size : Nat) (hs0 : 0 < size) (hs6 : size ≤ 6) (names heads : List W) (c : Nat) (s1 s6 s7 s8 s9 s10 sl3 : Sl) (h3 : sl3 = .val (.lst names) ∨ sl3 = .own (.lst names)) (h : List MO) (q : Pen c h) (hN : ∀ x ∈ names, IsName x) (h2 : 2 ≤ names.length) (h4 : names.length ≤ 4) (hP : ∀ p ∈ heads, Head p) (hP3 : heads.length ≤ 3) (hn : c + 4000 < 1000000000000) :
    ∃ (p : W) (h' : List MO), Proc p ∧ Pen (c + 4000) h' ∧ sSet 5 (cTup (cCons (cTup (cCons (cC (.str "main")) (cCons (cTup (cNil)) (cCons (cP2 addF (aE (cCall fn__law_begun (cCons (cNm 0) (cCons (cNm 3) (cNil))))) (aE (cCall (fn__law_body_drawn fuel__law_body_drawn) (cCons (cNm 0) (cCons (cNm 3) (cCons (cNm 4) (cCons (cP2 addF (aE (cC (.int 1))) (aE (cCall fn__law_draw (cCons (cNm 0) (cCons (cNm 2) (cNil)))))) (cCons (cC (.int 2)) (cNil))))))))) (cCons (cCall fn__law_pick (cCons (cNm 0) (cCons (cLst (cCons (cC (.str "")) (cCons (cC (.str "")) (cCons (cC (.str "")) (cCons (cP2 ixF (aPk 3) (aE (cC (.int 0)))) (cNil)))))) (cNil)))) (cNil)))))) (cNil)))
      ⟨[.val (.obj 0), s1, .val (.int size), sl3, .own (.lst heads), .un, s6, s7, s8, s9, s10], h⟩ = .nx ⟨[.val (.obj 0), s1, .val (.int size), .val (.lst names), .val (.lst heads), .val (.tup [p]), s6, s7, s8, s9, s10], h'⟩ := by
  obtain ⟨xs, h1, e1, l1, hx, q1⟩ := begun_ev names c h q hN h2 h4 (by omega)
  obtain ⟨j, h2', e2, lj, q2⟩ := draw_ev _ size h1 q1 hs0 (by omega) (by omega)
  have d2 : Ds 2 = 470 := rfl
  have jd : (1 + j) * Ds 2 ≤ 6 * 470 := by
    rw [d2]
    exact Nat.mul_le_mul_right _ (by omega)
  have j1 : (1 : Int) + (j : Int) = ((1 + j : Nat) : Int) := by omega
  obtain ⟨ys, h5, e3, l3, hy, q3⟩ := (drawn_all fuel__law_body_drawn 2 names heads _ h2' hN h2 h4 hP hP3).2 (1 + j) (by decide) (by omega) q2 (by omega)
  have e3' : fn__law_body_drawn fuel__law_body_drawn [.obj 0, .lst names, .lst heads, .int ((1 + j : Nat) : Int), .int 2] h2' = .ok (.w (.tup ys)) h5 := e3
  have n0 : 0 < names.length := by omega
  have i0 : ixF (.lst names) (.int 0) = some (.w names[0]) := ix_L names 0 _ (List.getElem?_eq_getElem n0)
  obtain ⟨w, h6, mw, e6, q6⟩ := pick_ev _ h5 [.str "", .str "", .str "", names[0]] q3 (by simp) (by simp) (by omega)
  have hw : IsName w ∨ w = .str "" := by
    simp only [List.mem_cons, List.not_mem_nil, or_false] at mw
    rcases mw with rfl | rfl | rfl | rfl
    · exact .inr rfl
    · exact .inr rfl
    · exact .inr rfl
    · exact .inl (hN _ (List.getElem_mem n0))
  have ad : xs.length + ys.length ≤ 16777216 := by omega
  refine ⟨.tup [.str "main", .tup [], .tup (xs ++ ys), w], h6, ⟨"main", [], xs ++ ys, w, rfl, List.mem_cons_self, Nat.zero_le _, fun a ha => (by cases ha), by rw [List.length_append]; omega, fun x hx' => (List.mem_append.mp hx').elim (hx x) (hy x), hw⟩, q6.mono (by omega), ?_⟩
  rcases h3 with rfl | rfl
  · simp only [sSeq, sSet, sNil, sExp, sRet, sRetN, sCt, sBk, sIf, sAsg, sPar, sAug, sPut, ofG, cC, cNm, cP1, cP2, cP3, cM0, cM1, cNil, cCons, cTup, cLst, cIf, cNot, cAnd, cOr, cCall, cDGet, cDis, cObj, cDis0, cApp, cPopAt, cPop, cSlBo, cLc, tE, tNotT, tAndT, tOrT, tY, aE, aPk, iSeq, ofI, M.bind, M.thn, M.bindN, Fl.thn, Arg.get, R.sl, R.val, stSl, retO, gN, gsN, gsC, gSq, wipeS, mkFn, List.foldr_cons, List.foldr_nil, List.length_cons, List.length_nil, List.map_cons, List.map_nil, List.replicate, List.append_eq, List.cons_append, List.nil_append, List.getElem?_cons_zero, List.getElem?_cons_succ, List.set_cons_zero, List.set_cons_succ, if_true, if_false, Nat.zero_add, Nat.reduceAdd, Nat.reduceSub, Nat.reduceLT, Nat.reduceLeDiff, Nat.reduceEqDiff, Bool.not_true, Bool.not_false, Bool.false_eq_true, Option.map_some, Option.bind_some, and_self, true_and, and_true, reduceCtorEq, e1, e2, e3', add_i, j1, addF, ad, i0, e6]
  · simp only [sSeq, sSet, sNil, sExp, sRet, sRetN, sCt, sBk, sIf, sAsg, sPar, sAug, sPut, ofG, cC, cNm, cP1, cP2, cP3, cM0, cM1, cNil, cCons, cTup, cLst, cIf, cNot, cAnd, cOr, cCall, cDGet, cDis, cObj, cDis0, cApp, cPopAt, cPop, cSlBo, cLc, tE, tNotT, tAndT, tOrT, tY, aE, aPk, iSeq, ofI, M.bind, M.thn, M.bindN, Fl.thn, Arg.get, R.sl, R.val, stSl, retO, gN, gsN, gsC, gSq, wipeS, mkFn, List.foldr_cons, List.foldr_nil, List.length_cons, List.length_nil, List.map_cons, List.map_nil, List.replicate, List.append_eq, List.cons_append, List.nil_append, List.getElem?_cons_zero, List.getElem?_cons_succ, List.set_cons_zero, List.set_cons_succ, if_true, if_false, Nat.zero_add, Nat.reduceAdd, Nat.reduceSub, Nat.reduceLT, Nat.reduceLeDiff, Nat.reduceEqDiff, Bool.not_true, Bool.not_false, Bool.false_eq_true, Option.map_some, Option.bind_some, and_self, true_and, and_true, reduceCtorEq, e1, e2, e3', add_i, j1, addF, ad, i0, e6]
end W44

set_option Elab.async false
set_option linter.all false
set_option maxRecDepth 100000
set_option maxHeartbeats 1000000
namespace W44
open PySem Mi
def twelve : List W := [.str "fresh", .str "is", .str "gone", .str "over", .str "same", .str "none", .str "root", .str "looks", .str "arg", .str "item", .str "start", .str "lent"]
theorem twelve_names : ∀ x ∈ twelve, IsName x := by
  intro x hx
  simp only [twelve, List.mem_cons, List.not_mem_nil, or_false] at hx
  rcases hx with rfl | rfl | rfl | rfl | rfl | rfl | rfl | rfl | rfl | rfl | rfl | rfl <;> exact ⟨_, by decide +kernel, rfl⟩
theorem sizes_ev (many size : Nat) (hs0 : 0 < size) (hs6 : size ≤ 6) (hm : many ≤ 1048576) (names0 : List W) (c : Nat) (h : List MO) (q : Pen c h) (hN : ∀ x ∈ names0, IsName x) (h2 : 2 ≤ names0.length) (h4 : names0.length ≤ 4) (hn : c + 20000 < 1000000000000) :
    ∃ (t : W) (h' : List MO), fn__law_book_of_sizes [.obj 0, .int many, .int size, .lst names0] h = .ok (.w t) h' ∧ Tree t ∧ Pen (c + 20000) h' := by
  -- the names
  have one : ∃ (names : List W) (sl3 : Sl) (h1 : List MO), (∀ x ∈ names, IsName x) ∧ 2 ≤ names.length ∧ names.length ≤ 4 ∧ (sl3 = .val (.lst names) ∨ sl3 = .own (.lst names)) ∧ Pen (c + 20) h1 ∧
      sSet 3 (cIf (tE (cP2 gtF (aE (cCall fn__law_draw (cCons (cNm 0) (cCons (cC (.int 4)) (cNil))))) (aE (cC (.int 0))))) (cNm 3) (cP2 slHiF (aE (cCall fn__law_shuffled (cCons (cNm 0) (cCons (cLst (cCons (cC (.str "fresh")) (cCons (cC (.str "is")) (cCons (cC (.str "gone")) (cCons (cC (.str "over")) (cCons (cC (.str "same")) (cCons (cC (.str "none")) (cCons (cC (.str "root")) (cCons (cC (.str "looks")) (cCons (cC (.str "arg")) (cCons (cC (.str "item")) (cCons (cC (.str "start")) (cCons (cC (.str "lent")) (cNil)))))))))))))) (cNil))))) (aE (cP1 lenF (aPk 3)))))
        ⟨[.val (.obj 0), .val (.int many), .val (.int size), .val (.lst names0), .un, .un, .un, .un, .un, .un, .un], h⟩ = .nx ⟨[.val (.obj 0), .val (.int many), .val (.int size), sl3, .un, .un, .un, .un, .un, .un, .un], h1⟩ := by
    obtain ⟨k, h1, e1, lk, q1⟩ := draw_ev c 4 h q (by omega) (by omega) (by omega)
    have e1' : fn__law_draw [.obj 0, .int 4] h = .ok (.w (.int k)) h1 := e1
    by_cases k0 : (0 : Int) < (k : Int)
    · refine ⟨names0, .val (.lst names0), h1, hN, h2, h4, .inl rfl, q1.mono (by omega), ?_⟩
      simp only [sSeq, sSet, sNil, sExp, sRet, sRetN, sCt, sBk, sIf, sAsg, sPar, sAug, sPut, ofG, cC, cNm, cP1, cP2, cP3, cM0, cM1, cNil, cCons, cTup, cLst, cIf, cNot, cAnd, cOr, cCall, cDGet, cDis, cObj, cDis0, cApp, cPopAt, cPop, cSlBo, cLc, tE, tNotT, tAndT, tOrT, tY, aE, aPk, iSeq, ofI, M.bind, M.thn, M.bindN, Fl.thn, Arg.get, R.sl, R.val, stSl, retO, gN, gsN, gsC, gSq, wipeS, mkFn, List.foldr_cons, List.foldr_nil, List.length_cons, List.length_nil, List.map_cons, List.map_nil, List.replicate, List.append_eq, List.cons_append, List.nil_append, List.getElem?_cons_zero, List.getElem?_cons_succ, List.set_cons_zero, List.set_cons_succ, if_true, if_false, Nat.zero_add, Nat.reduceAdd, Nat.reduceSub, Nat.reduceLT, Nat.reduceLeDiff, Nat.reduceEqDiff, Bool.not_true, Bool.not_false, Bool.false_eq_true, Option.map_some, Option.bind_some, and_self, true_and, and_true, reduceCtorEq, e1', gtF, cmpI, decide_eq_true k0]
    · obtain ⟨ys, h2', pm, e2, q2⟩ := shuffled_ev _ h1 twelve q1 (by decide) (by show c + 1 + 12 < _; omega)
      have yl := pm.length_eq
      have yl' : ys.length = 12 := yl
      have yn := perm_names pm twelve_names
      refine ⟨ys.take names0.length, .own (.lst (ys.take names0.length)), h2', fun x hx => name_of yn hx, by rw [List.length_take]; omega, by rw [List.length_take]; omega, .inr rfl, q2.mono (by show c + 1 + 12 ≤ _; omega), ?_⟩
      unfold twelve at e2
      simp only [sSeq, sSet, sNil, sExp, sRet, sRetN, sCt, sBk, sIf, sAsg, sPar, sAug, sPut, ofG, cC, cNm, cP1, cP2, cP3, cM0, cM1, cNil, cCons, cTup, cLst, cIf, cNot, cAnd, cOr, cCall, cDGet, cDis, cObj, cDis0, cApp, cPopAt, cPop, cSlBo, cLc, tE, tNotT, tAndT, tOrT, tY, aE, aPk, iSeq, ofI, M.bind, M.thn, M.bindN, Fl.thn, Arg.get, R.sl, R.val, stSl, retO, gN, gsN, gsC, gSq, wipeS, mkFn, List.foldr_cons, List.foldr_nil, List.length_cons, List.length_nil, List.map_cons, List.map_nil, List.replicate, List.append_eq, List.cons_append, List.nil_append, List.getElem?_cons_zero, List.getElem?_cons_succ, List.set_cons_zero, List.set_cons_succ, if_true, if_false, Nat.zero_add, Nat.reduceAdd, Nat.reduceSub, Nat.reduceLT, Nat.reduceLeDiff, Nat.reduceEqDiff, Bool.not_true, Bool.not_false, Bool.false_eq_true, Option.map_some, Option.bind_some, and_self, true_and, and_true, reduceCtorEq, e1', gtF, cmpI, decide_eq_false k0, e2, len_L, cut_hi]
  obtain ⟨names, sl3, h1, nn, n2, n4, hsl, q1, e1⟩ := one
  obtain ⟨hs, h2', hh, hl, q2, e2⟩ := heads_ev many ⟨[], []⟩ (c + 20) (.val (.obj 0)) (.val (.int size)) .un .un .un .un .un .un sl3 h1 q1 (by omega)
  obtain ⟨p, h3, hp, q3, e3⟩ := main_ev size hs0 hs6 names hs _ (.val (.int many)) .un .un .un .un .un sl3 hsl h2' q2 nn n2 n4 hh hl (by omega)
  have loop : ∃ (S' : Sta) (ps : List W) (s6 s7 s8 s9 s10 : Sl), S'.ws = [.val (.obj 0), .val (.int many), .val (.int size), .val (.lst names), .val (.lst hs), .val (.tup ps), s6, s7, s8, s9, s10] ∧ ps.length ≤ 4 ∧ (∀ p ∈ ps, Proc p) ∧ Pen (c + 20 + 4 + 4000 + 3 * 2000) S'.h ∧
      forL (gSq 3 (gsC (gN 6) (gsC (gN 7) (gsC (gN 8) (gsN))))) d1__law_book_of_sizes hs ⟨[.val (.obj 0), .val (.int many), .val (.int size), .val (.lst names), .val (.lst hs), .val (.tup [p]), .un, .un, .un, .un, .un], h3⟩ = .nx S' := by
    refine for_at hs (fun k S => ∃ (ps : List W) (s6 s7 s8 s9 s10 : Sl) (h' : List MO), S = ⟨[.val (.obj 0), .val (.int many), .val (.int size), .val (.lst names), .val (.lst hs), .val (.tup ps), s6, s7, s8, s9, s10], h'⟩ ∧ ps.length = k + 1 ∧ k ≤ 3 ∧ (∀ p ∈ ps, Proc p) ∧ Pen (c + 20 + 4 + 4000 + k * 2000) h')
      (fun o => ∃ (S' : Sta) (ps : List W) (s6 s7 s8 s9 s10 : Sl), S'.ws = [.val (.obj 0), .val (.int many), .val (.int size), .val (.lst names), .val (.lst hs), .val (.tup ps), s6, s7, s8, s9, s10] ∧ ps.length ≤ 4 ∧ (∀ p ∈ ps, Proc p) ∧ Pen (c + 20 + 4 + 4000 + 3 * 2000) S'.h ∧ o = .nx S') ?_ ?_ _
      ⟨[p], _, _, _, _, _, h3, rfl, rfl, by omega, fun x hx => by rw [List.mem_singleton.mp hx]; exact hp, by simpa using q3⟩
    · rintro S ⟨ps, s6, s7, s8, s9, s10, h', rfl, l, k3, hps, q'⟩
      exact ⟨_, ps, s6, s7, s8, s9, s10, rfl, by omega, hps, q'.mono (by omega), rfl⟩
    · rintro k w S ew ⟨ps, s6, s7, s8, s9, s10, h', rfl, l, k3, hps, q'⟩
      have lk := (List.getElem?_eq_some_iff.mp ew).1
      obtain ⟨nm, m, g, hnm, hm2, rfl⟩ := hh w (List.mem_of_getElem? ew)
      obtain ⟨p', h4', t9, t10, hp', q4, e4⟩ := proc_step k m size hs0 hs6 names hs ps (.int many) nm g s6 s7 s8 s9 s10 _ h' q' nn n2 n4 hh hl hnm hm2 (by omega) (by omega)
      simp only [sSeq, sSet, sNil, sExp, sRet, sRetN, sCt, sBk, sIf, sAsg, sPar, sAug, sPut, ofG, cC, cNm, cP1, cP2, cP3, cM0, cM1, cNil, cCons, cTup, cLst, cIf, cNot, cAnd, cOr, cCall, cDGet, cDis, cObj, cDis0, cApp, cPopAt, cPop, cSlBo, cLc, tE, tNotT, tAndT, tOrT, tY, aE, aPk, iSeq, ofI, M.bind, M.thn, M.bindN, Fl.thn, Arg.get, R.sl, R.val, stSl, retO, gN, gsN, gsC, gSq, wipeS, mkFn, List.foldr_cons, List.foldr_nil, List.length_cons, List.length_nil, List.map_cons, List.map_nil, List.replicate, List.append_eq, List.cons_append, List.nil_append, List.getElem?_cons_zero, List.getElem?_cons_succ, List.set_cons_zero, List.set_cons_succ, if_true, if_false, Nat.zero_add, Nat.reduceAdd, Nat.reduceSub, Nat.reduceLT, Nat.reduceLeDiff, Nat.reduceEqDiff, Bool.not_true, Bool.not_false, Bool.false_eq_true, Option.map_some, Option.bind_some, and_self, true_and, and_true, reduceCtorEq, EvG, e4, Turn]
      refine ⟨ps ++ [p'], _, _, _, _, _, h4', rfl, by rw [List.length_append, l] <;> rfl, by omega, fun x hx => ?_, q4.mono (by omega)⟩
      rcases List.mem_append.mp hx with hx | hx
      · exact hps x hx
      · rw [List.mem_singleton.mp hx]
        exact hp'
  obtain ⟨S', ps, s6, s7, s8, s9, s10, ew, pl, hps, q4, e4⟩ := loop
  obtain ⟨ys, h5, pm, e5, q5⟩ := shuffled_ev _ S'.h ps q4 (by omega) (by omega)
  refine ⟨.tup [.tup ys], h5, ?_, ⟨ys, rfl, by rw [pm.length_eq]; exact pl, fun x hx => hps x (pm.mem_iff.mp hx)⟩, q5.mono (by omega)⟩
  unfold fn__law_book_of_sizes mkFn b__law_book_of_sizes
  simp only [List.length_cons, List.length_nil, List.map_cons, List.map_nil, List.replicate, List.append_eq, List.cons_append, List.nil_append, if_true, if_false, Nat.zero_add, Nat.reduceAdd, Nat.reduceSub, Nat.reduceLT, Nat.reduceEqDiff]
  rw [seq_nx e1, seq_nx e2, seq_nx e3]
  obtain ⟨ws', h'⟩ := S'
  dsimp only at ew e5
  subst ew
  have fr : sFor (iSeq (cNm 4)) (gSq 3 (gsC (gN 6) (gsC (gN 7) (gsC (gN 8) (gsN))))) d1__law_book_of_sizes ⟨[.val (.obj 0), .val (.int many), .val (.int size), .val (.lst names), .val (.lst hs), .val (.tup [p]), .un, .un, .un, .un, .un], h3⟩ = .nx ⟨[.val (.obj 0), .val (.int many), .val (.int size), .val (.lst names), .val (.lst hs), .val (.tup ps), s6, s7, s8, s9, s10], h'⟩ := e4
  rw [seq_nx fr]
  simp only [sSeq, sSet, sNil, sExp, sRet, sRetN, sCt, sBk, sIf, sAsg, sPar, sAug, sPut, ofG, cC, cNm, cP1, cP2, cP3, cM0, cM1, cNil, cCons, cTup, cLst, cIf, cNot, cAnd, cOr, cCall, cDGet, cDis, cObj, cDis0, cApp, cPopAt, cPop, cSlBo, cLc, tE, tNotT, tAndT, tOrT, tY, aE, aPk, iSeq, ofI, M.bind, M.thn, M.bindN, Fl.thn, Arg.get, R.sl, R.val, stSl, retO, gN, gsN, gsC, gSq, wipeS, mkFn, List.foldr_cons, List.foldr_nil, List.length_cons, List.length_nil, List.map_cons, List.map_nil, List.replicate, List.append_eq, List.cons_append, List.nil_append, List.getElem?_cons_zero, List.getElem?_cons_succ, List.set_cons_zero, List.set_cons_succ, if_true, if_false, Nat.zero_add, Nat.reduceAdd, Nat.reduceSub, Nat.reduceLT, Nat.reduceLeDiff, Nat.reduceEqDiff, Bool.not_true, Bool.not_false, Bool.false_eq_true, Option.map_some, Option.bind_some, and_self, true_and, and_true, reduceCtorEq, listF, e5, tupF]
theorem stm_cases {s : Nat} {w : W} (h : Stm s w) : (∃ (k : Str) (ws : List W), w = .tup (.str k :: ws) ∧ k ∉ (["either", "loop"] : List Str)) ∨
    ∃ (t : Nat) (k : Str) (bs : List W), s = t + 1 ∧ w = .tup (.str k :: bs) ∧ k ∈ (["either", "loop"] : List Str) ∧ bs.length ≤ 2 ∧ ∀ b ∈ bs, ∃ xs, b = .tup xs ∧ xs.length ≤ 2 ∧ ∀ x ∈ xs, Stm t x := by
  cases h with
  | one a b =>
    refine .inl ⟨_, _, rfl, ?_⟩
    have : ∀ k ∈ (["new", "use", "set", "drop"] : List Str), k ∉ (["either", "loop"] : List Str) := by decide +kernel
    exact this _ a
  | two a b c =>
    refine .inl ⟨_, _, rfl, ?_⟩
    have : ∀ k ∈ (["look", "only", "move"] : List Str), k ∉ (["either", "loop"] : List Str) := by decide +kernel
    exact this _ a
  | call a b c d => exact .inl ⟨_, _, rfl, by decide +kernel⟩
  | loop a b => exact .inr ⟨_, _, _, rfl, rfl, by decide +kernel, by simp, fun x hx => by
      rw [List.mem_singleton.mp hx]
      exact ⟨_, rfl, a, b⟩⟩
  | either a b c d => exact .inr ⟨_, _, _, rfl, rfl, by decide +kernel, by simp, fun x hx => by
      simp only [List.mem_cons, List.not_mem_nil, or_false] at hx
      rcases hx with rfl | rfl
      · exact ⟨_, rfl, a, b⟩
      · exact ⟨_, rfl, c, d⟩⟩
theorem ix_U0 (w : W) (ws : List W) : ixF (.tup (w :: ws)) (.int 0) = some (.w w) := ix_U (w :: ws) 0 w rfl
theorem cut_lo1 (w : W) (ws : List W) : slLoF (.tup (w :: ws)) (.int 1) = some (.w (.tup ws)) := by
  simp only [slLoF, slF, cutW, HT.sIx]
  rw [if_neg (by decide)]
  have e : min (Int.toNat 1) (w :: ws).length = 1 := by
    rw [List.length_cons, show Int.toNat 1 = 1 from rfl]
    omega
  rw [e, List.length_cons, Nat.add_sub_cancel, List.drop_one, List.tail_cons, List.take_length]
def As : Nat → Nat
  | 0 => 1
  | s + 1 => 1 + 4 * As s
theorem all_ev : ∀ (n s : Nat) (xs : List W) (h : List MO), s + 1 ≤ n → (∀ x ∈ xs, Stm s x) → xs.length * As s ≤ 1000000 → ∃ zs, fn__law_all_statements n [.tup xs] h = .ok (.w (.lst zs)) h ∧ zs.length ≤ xs.length * As s := by
  intro n
  induction n with
  | zero => intro s xs h hn; omega
  | succ n ih =>
    intro s xs h hn hx hb
    have loop : ∃ (zs : List W) (s2 s3 : Sl), zs.length ≤ xs.length * As s ∧ forL (gN 2) (d2__law_all_statements (fn__law_all_statements n)) xs ⟨[.val (.tup xs), .own (.lst []), .un, .un], h⟩ = .nx ⟨[.val (.tup xs), .own (.lst zs), s2, s3], h⟩ := by
      refine for_at xs (fun k S => ∃ (zs : List W) (s2 s3 : Sl), k ≤ xs.length ∧ zs.length ≤ k * As s ∧ S = ⟨[.val (.tup xs), .own (.lst zs), s2, s3], h⟩)
        (fun o => ∃ (zs : List W) (s2 s3 : Sl), zs.length ≤ xs.length * As s ∧ o = .nx ⟨[.val (.tup xs), .own (.lst zs), s2, s3], h⟩) ?_ ?_ _ ⟨[], _, _, Nat.zero_le _, Nat.zero_le _, rfl⟩
      · rintro S ⟨zs, s2, s3, _, l, rfl⟩
        exact ⟨zs, s2, s3, l, rfl⟩
      · rintro k w S ew ⟨zs, s2, s3, hk, l, rfl⟩
        have lk := (List.getElem?_eq_some_iff.mp ew).1
        have kb : (k + 1) * As s ≤ xs.length * As s := Nat.mul_le_mul_right _ lk
        rw [Nat.add_mul, Nat.one_mul] at kb
        have zl : zs.length < 16777216 := by omega
        rcases stm_cases (hx w (List.mem_of_getElem? ew)) with ⟨k', ws, rfl, nk⟩ | ⟨t, k', bs, rfl, rfl, mk, lb, hbs⟩
        · have i1 : inF false (.str k') (.tup [.str "either", .str "loop"]) = some (.w (.bl false)) := by
            have := in_strs false k' ["either", "loop"]
            rw [decide_eq_false nk] at this
            exact this
          have a1 : 1 ≤ As s := by cases s <;> simp [As]
          simp only [sSeq, sSet, sNil, sExp, sRet, sRetN, sCt, sBk, sIf, sAsg, sPar, sAug, sPut, ofG, cC, cNm, cP1, cP2, cP3, cM0, cM1, cNil, cCons, cTup, cLst, cIf, cNot, cAnd, cOr, cCall, cDGet, cDis, cObj, cDis0, cApp, cPopAt, cPop, cSlBo, cLc, tE, tNotT, tAndT, tOrT, tY, aE, aPk, iSeq, ofI, M.bind, M.thn, M.bindN, Fl.thn, Arg.get, R.sl, R.val, stSl, retO, gN, gsN, gsC, gSq, wipeS, mkFn, List.foldr_cons, List.foldr_nil, List.length_cons, List.length_nil, List.map_cons, List.map_nil, List.replicate, List.append_eq, List.cons_append, List.nil_append, List.getElem?_cons_zero, List.getElem?_cons_succ, List.set_cons_zero, List.set_cons_succ, if_true, if_false, Nat.zero_add, Nat.reduceAdd, Nat.reduceSub, Nat.reduceLT, Nat.reduceLeDiff, Nat.reduceEqDiff, Bool.not_true, Bool.not_false, Bool.false_eq_true, Option.map_some, Option.bind_some, and_self, true_and, and_true, reduceCtorEq, EvG, d2__law_all_statements, zl, ix_U0, i1, Turn]
          refine ⟨zs ++ [.tup (.str k' :: ws)], _, _, lk, ?_, rfl⟩
          rw [List.length_append, List.length_singleton, Nat.add_mul, Nat.one_mul]
          omega
        · have i1 : inF false (.str k') (.tup [.str "either", .str "loop"]) = some (.w (.bl true)) := by
            have := in_strs false k' ["either", "loop"]
            rw [decide_eq_true mk] at this
            exact this
          have at1 : As (t + 1) = 1 + 4 * As t := rfl
          have inner : ∃ (ys : List W) (s3' : Sl), ys.length ≤ zs.length + 1 + bs.length * (2 * As t) ∧ forL (gN 3) (d1__law_all_statements (fn__law_all_statements n)) bs ⟨[.val (.tup xs), .own (.lst (zs ++ [.tup (.str k' :: bs)])), .val (.tup (.str k' :: bs)), s3], h⟩ =
              .nx ⟨[.val (.tup xs), .own (.lst ys), .val (.tup (.str k' :: bs)), s3'], h⟩ := by
            refine for_at bs (fun j S => ∃ (ys : List W) (s3' : Sl), j ≤ bs.length ∧ ys.length ≤ zs.length + 1 + j * (2 * As t) ∧ S = ⟨[.val (.tup xs), .own (.lst ys), .val (.tup (.str k' :: bs)), s3'], h⟩)
              (fun o => ∃ (ys : List W) (s3' : Sl), ys.length ≤ zs.length + 1 + bs.length * (2 * As t) ∧ o = .nx ⟨[.val (.tup xs), .own (.lst ys), .val (.tup (.str k' :: bs)), s3'], h⟩) ?_ ?_ _ ⟨zs ++ [.tup (.str k' :: bs)], _, Nat.zero_le _, by rw [List.length_append, List.length_singleton]; omega, rfl⟩
            · rintro S ⟨ys, s3', _, l', rfl⟩
              exact ⟨ys, s3', l', rfl⟩
            · rintro j b S eb ⟨ys, s3', hj, l', rfl⟩
              have lj := (List.getElem?_eq_some_iff.mp eb).1
              obtain ⟨us, rfl, lu, hu⟩ := hbs b (List.mem_of_getElem? eb)
              have ub : us.length * As t ≤ 2 * As t := Nat.mul_le_mul_right _ lu
              obtain ⟨vs, ev, lv⟩ := ih t us h (by omega) hu (by omega)
              have jb : (j + 1) * (2 * As t) ≤ 2 * (2 * As t) := Nat.mul_le_mul_right _ (by omega)
              rw [Nat.add_mul, Nat.one_mul] at jb
              have ad : ys.length + vs.length ≤ 16777216 := by omega
              simp only [sSeq, sSet, sNil, sExp, sRet, sRetN, sCt, sBk, sIf, sAsg, sPar, sAug, sPut, ofG, cC, cNm, cP1, cP2, cP3, cM0, cM1, cNil, cCons, cTup, cLst, cIf, cNot, cAnd, cOr, cCall, cDGet, cDis, cObj, cDis0, cApp, cPopAt, cPop, cSlBo, cLc, tE, tNotT, tAndT, tOrT, tY, aE, aPk, iSeq, ofI, M.bind, M.thn, M.bindN, Fl.thn, Arg.get, R.sl, R.val, stSl, retO, gN, gsN, gsC, gSq, wipeS, mkFn, List.foldr_cons, List.foldr_nil, List.length_cons, List.length_nil, List.map_cons, List.map_nil, List.replicate, List.append_eq, List.cons_append, List.nil_append, List.getElem?_cons_zero, List.getElem?_cons_succ, List.set_cons_zero, List.set_cons_succ, if_true, if_false, Nat.zero_add, Nat.reduceAdd, Nat.reduceSub, Nat.reduceLT, Nat.reduceLeDiff, Nat.reduceEqDiff, Bool.not_true, Bool.not_false, Bool.false_eq_true, Option.map_some, Option.bind_some, and_self, true_and, and_true, reduceCtorEq, EvG, d1__law_all_statements, ev, addF, ad, Turn]
              refine ⟨ys ++ vs, _, lj, ?_, rfl⟩
              rw [List.length_append, Nat.add_mul, Nat.one_mul]
              omega
          obtain ⟨ys, s3', l', e'⟩ := inner
          have bb : bs.length * (2 * As t) ≤ 2 * (2 * As t) := Nat.mul_le_mul_right _ lb
          simp only [sSeq, sSet, sNil, sExp, sRet, sRetN, sCt, sBk, sIf, sAsg, sPar, sAug, sPut, ofG, cC, cNm, cP1, cP2, cP3, cM0, cM1, cNil, cCons, cTup, cLst, cIf, cNot, cAnd, cOr, cCall, cDGet, cDis, cObj, cDis0, cApp, cPopAt, cPop, cSlBo, cLc, tE, tNotT, tAndT, tOrT, tY, aE, aPk, iSeq, ofI, M.bind, M.thn, M.bindN, Fl.thn, Arg.get, R.sl, R.val, stSl, retO, gN, gsN, gsC, gSq, wipeS, mkFn, List.foldr_cons, List.foldr_nil, List.length_cons, List.length_nil, List.map_cons, List.map_nil, List.replicate, List.append_eq, List.cons_append, List.nil_append, List.getElem?_cons_zero, List.getElem?_cons_succ, List.set_cons_zero, List.set_cons_succ, if_true, if_false, Nat.zero_add, Nat.reduceAdd, Nat.reduceSub, Nat.reduceLT, Nat.reduceLeDiff, Nat.reduceEqDiff, Bool.not_true, Bool.not_false, Bool.false_eq_true, Option.map_some, Option.bind_some, and_self, true_and, and_true, reduceCtorEq, EvG, d2__law_all_statements, zl, ix_U0, i1, cut_lo1, sFor, seqItems, e', Turn]
          refine ⟨ys, _, _, lk, ?_, rfl⟩
          rw [Nat.add_mul, Nat.one_mul]
          omega
    obtain ⟨zs, s2, s3, l, e⟩ := loop
    refine ⟨zs, ?_, l⟩
    unfold fn__law_all_statements mkFn b__law_all_statements
    simp only [sSeq, sSet, sNil, sExp, sRet, sRetN, sCt, sBk, sIf, sAsg, sPar, sAug, sPut, ofG, cC, cNm, cP1, cP2, cP3, cM0, cM1, cNil, cCons, cTup, cLst, cIf, cNot, cAnd, cOr, cCall, cDGet, cDis, cObj, cDis0, cApp, cPopAt, cPop, cSlBo, cLc, tE, tNotT, tAndT, tOrT, tY, aE, aPk, iSeq, ofI, M.bind, M.thn, M.bindN, Fl.thn, Arg.get, R.sl, R.val, stSl, retO, gN, gsN, gsC, gSq, wipeS, mkFn, List.foldr_cons, List.foldr_nil, List.length_cons, List.length_nil, List.map_cons, List.map_nil, List.replicate, List.append_eq, List.cons_append, List.nil_append, List.getElem?_cons_zero, List.getElem?_cons_succ, List.set_cons_zero, List.set_cons_succ, if_true, if_false, Nat.zero_add, Nat.reduceAdd, Nat.reduceSub, Nat.reduceLT, Nat.reduceLeDiff, Nat.reduceEqDiff, Bool.not_true, Bool.not_false, Bool.false_eq_true, Option.map_some, Option.bind_some, and_self, true_and, and_true, reduceCtorEq, sFor, seqItems, e]
theorem allF_bools (bs : List Bool) : allF (.lst (bs.map W.bl)) = some (.w (.bl (bs.all id))) := by
  have e : ∀ bs : List Bool, boolsW (bs.map W.bl) = some bs := fun bs => by
    induction bs with
    | nil => rfl
    | cons b bs ih => simp [boolsW, ih]
  simp [allF, e]
theorem pick_int (n : Nat) (h : List MO) (ks : List Nat) (q : Pen n h) (h0 : 0 < ks.length) (h1 : ks.length < 1073741824) (hn : n < 1099511627776) : ∃ (k : Nat) (h' : List MO), k ∈ ks ∧ fn__law_pick [.obj 0, .lst (ks.map fun k => W.int (k : Nat))] h = .ok (.w (.int k)) h' ∧ Pen (n + 1) h' := by
  obtain ⟨w, h', mw, e, q'⟩ := pick_ev n h (ks.map fun k => W.int (k : Nat)) q (by simpa using h0) (by simpa using h1) hn
  obtain ⟨k, mk, rfl⟩ := List.mem_map.mp mw
  exact ⟨k, h', mk, e, q'⟩
def fourW : List W := [.str "x", .str "y", .str "z", .str "w2"]
theorem four_names : ∀ x ∈ fourW, IsName x := by
  intro x hx
  simp only [fourW, List.mem_cons, List.not_mem_nil, or_false] at hx
  rcases hx with rfl | rfl | rfl | rfl <;> exact ⟨_, by decide +kernel, rfl⟩
theorem tree_test (t : W) (lap : Nat) (h : List MO) (s3 : Sl) (ht : Tree t) : ∃ b : Bool, tE (cP1 allF (aE (cLc [3] (iSeq (cP2 ixF (aPk 2) (aE (cC (.int 0))))) (gN 3) (tY) (l1__law_book)))) ⟨[.val (.obj 0), .val (.int lap), .val t, s3], h⟩ = .ok (b, ⟨[.val (.obj 0), .val (.int lap), .val t, .un], h⟩) := by
  obtain ⟨ps, rfl, lp, hp⟩ := ht
  have loop := lc_at' (own := [3]) (g := gN 3) (elt := l1__law_book) ps (by omega)
    (fun k acc S => S = ⟨[.val (.obj 0), .val (.int lap), .val (.tup [.tup ps]), .un], h⟩ ∧ ∃ bs : List Bool, acc = bs.map W.bl) (by
      rintro k w acc S ew ea ⟨rfl, bs, rfl⟩
      obtain ⟨⟨nm, args, body, give, rfl, _, _, _, lb, hb, _⟩⟩ := hp w (List.mem_of_getElem? ew)
      have a2 : As 2 = 21 := rfl
      have bl : body.length * As 2 ≤ 16 * 21 := by
        rw [a2]
        exact Nat.mul_le_mul_right _ lb
      obtain ⟨zs, ez, lz⟩ := all_ev fuel__law_all_statements 2 body h (by decide) hb (by omega)
      have i2 : ixF (.tup [.str nm, .tup args, .tup body, give]) (.int 2) = some (.w (.tup body)) := ix_U _ 2 _ rfl
      simp only [sSeq, sSet, sNil, sExp, sRet, sRetN, sCt, sBk, sIf, sAsg, sPar, sAug, sPut, ofG, cC, cNm, cP1, cP2, cP3, cM0, cM1, cNil, cCons, cTup, cLst, cIf, cNot, cAnd, cOr, cCall, cDGet, cDis, cObj, cDis0, cApp, cPopAt, cPop, cSlBo, cLc, tE, tNotT, tAndT, tOrT, tY, aE, aPk, iSeq, ofI, M.bind, M.thn, M.bindN, Fl.thn, Arg.get, R.sl, R.val, stSl, retO, gN, gsN, gsC, gSq, wipeS, mkFn, List.foldr_cons, List.foldr_nil, List.length_cons, List.length_nil, List.map_cons, List.map_nil, List.replicate, List.append_eq, List.cons_append, List.nil_append, List.getElem?_cons_zero, List.getElem?_cons_succ, List.set_cons_zero, List.set_cons_succ, if_true, if_false, Nat.zero_add, Nat.reduceAdd, Nat.reduceSub, Nat.reduceLT, Nat.reduceLeDiff, Nat.reduceEqDiff, Bool.not_true, Bool.not_false, Bool.false_eq_true, Option.map_some, Option.bind_some, and_self, true_and, and_true, reduceCtorEq, EvG, Ev, l1__law_book, i2, ez, len_L, ltF, cmpI]
      exact ⟨bs ++ [_], by rw [List.map_append] <;> rfl⟩) ⟨[.val (.obj 0), .val (.int lap), .val (.tup [.tup ps]), .un], h⟩ ⟨rfl, [], rfl⟩
  obtain ⟨xs, S', e, l, rfl, bs, rfl⟩ := loop
  refine ⟨bs.all id, ?_⟩
  simp only [sSeq, sSet, sNil, sExp, sRet, sRetN, sCt, sBk, sIf, sAsg, sPar, sAug, sPut, ofG, cC, cNm, cP1, cP2, cP3, cM0, cM1, cNil, cCons, cTup, cLst, cIf, cNot, cAnd, cOr, cCall, cDGet, cDis, cObj, cDis0, cApp, cPopAt, cPop, cSlBo, cLc, tE, tNotT, tAndT, tOrT, tY, aE, aPk, iSeq, ofI, M.bind, M.thn, M.bindN, Fl.thn, Arg.get, R.sl, R.val, stSl, retO, gN, gsN, gsC, gSq, wipeS, mkFn, List.foldr_cons, List.foldr_nil, List.length_cons, List.length_nil, List.map_cons, List.map_nil, List.replicate, List.append_eq, List.cons_append, List.nil_append, List.getElem?_cons_zero, List.getElem?_cons_succ, List.set_cons_zero, List.set_cons_succ, if_true, if_false, Nat.zero_add, Nat.reduceAdd, Nat.reduceSub, Nat.reduceLT, Nat.reduceLeDiff, Nat.reduceEqDiff, Bool.not_true, Bool.not_false, Bool.false_eq_true, Option.map_some, Option.bind_some, and_self, true_and, and_true, reduceCtorEq, ix_U0, seqItems, e, allF_bools]
theorem book_ev (c : Nat) (h : List MO) (q : Pen c h) (hn : c + 300000 < 1000000000000) : ∃ (t : W) (h' : List MO), fn__law_book [.obj 0] h = .ok (.w t) h' ∧ Tree t ∧ Pen (c + 300000) h' := by
  have loop : (∃ (t : W) (S' : Sta), sFor (iRng1' (cC (.int 12))) (gN 1) d2__law_book ⟨[.val (.obj 0), .un, .un, .un], h⟩ = .rt (.w t) S' ∧ Tree t ∧ Pen (c + 12 * 20003) S'.h) ∨
      ∃ (s1 s2 s3 : Sl) (h' : List MO), sFor (iRng1' (cC (.int 12))) (gN 1) d2__law_book ⟨[.val (.obj 0), .un, .un, .un], h⟩ = .nx ⟨[.val (.obj 0), s1, s2, s3], h'⟩ ∧ Pen (c + 12 * 20003) h' := by
    rw [sFor_rng 12 (by omega) (cC (.int 12)) ⟨[.val (.obj 0), .un, .un, .un], h⟩ ⟨[.val (.obj 0), .un, .un, .un], h⟩ (.w (.int 12)) rfl rfl]
    refine for_rng 12 (fun k S => ∃ (s1 s2 s3 : Sl) (h' : List MO), S = ⟨[.val (.obj 0), s1, s2, s3], h'⟩ ∧ Pen (c + k * 20003) h')
      (fun o => (∃ (t : W) (S' : Sta), o = .rt (.w t) S' ∧ Tree t ∧ Pen (c + 12 * 20003) S'.h) ∨ ∃ (s1 s2 s3 : Sl) (h' : List MO), o = .nx ⟨[.val (.obj 0), s1, s2, s3], h'⟩ ∧ Pen (c + 12 * 20003) h') ?_ ?_ _ ⟨_, _, _, h, rfl, by simpa using q⟩
    · rintro S ⟨s1, s2, s3, h', rfl, q'⟩
      exact .inr ⟨s1, s2, s3, h', rfl, q'⟩
    · rintro k S lt ⟨s1, s2, s3, h', rfl, q'⟩
      obtain ⟨m, h1, mm, e1, q1⟩ := pick_int _ h' [0, 1, 1, 2, 3] q' (by decide) (by decide) (by omega)
      obtain ⟨z, h2, mz, e2, q2⟩ := pick_int _ h1 [2, 4, 6] q1 (by decide) (by decide) (by omega)
      obtain ⟨j, h3, mj, e3, q3⟩ := pick_int _ h2 [2, 3, 3, 4] q2 (by decide) (by decide) (by omega)
      have e1' : fn__law_pick [.obj 0, .lst [.int 0, .int 1, .int 1, .int 2, .int 3]] h' = .ok (.w (.int m)) h1 := e1
      have e2' : fn__law_pick [.obj 0, .lst [.int 2, .int 4, .int 6]] h1 = .ok (.w (.int z)) h2 := e2
      have e3' : fn__law_pick [.obj 0, .lst [.int 2, .int 3, .int 3, .int 4]] h2 = .ok (.w (.int j)) h3 := e3
      have zb : 0 < z ∧ z ≤ 6 := by
        simp only [List.mem_cons, List.not_mem_nil, or_false] at mz
        omega
      have jb : 2 ≤ j ∧ j ≤ 4 := by
        simp only [List.mem_cons, List.not_mem_nil, or_false] at mj
        omega
      have mb : m ≤ 3 := by
        simp only [List.mem_cons, List.not_mem_nil, or_false] at mm
        omega
      have fl : (fourW.take j).length = j := by
        rw [List.length_take]
        show min j 4 = j
        omega
      have fc : slHiF (.lst [.str "x", .str "y", .str "z", .str "w2"]) (.int j) = some (.fr (.lst (fourW.take j))) := cut_hi fourW j
      obtain ⟨t, h4, e4, ht, q4⟩ := sizes_ev m z zb.1 zb.2 (by omega) (fourW.take j) _ h3 q3 (fun x hx => four_names x (List.mem_of_mem_take hx)) (by omega) (by omega) (by omega)
      obtain ⟨b, eb⟩ := tree_test t k h4 s3 ht
      have st : sSet 2 (cCall fn__law_book_of_sizes (cCons (cNm 0) (cCons (cCall fn__law_pick (cCons (cNm 0) (cCons (cLst (cCons (cC (.int 0)) (cCons (cC (.int 1)) (cCons (cC (.int 1)) (cCons (cC (.int 2)) (cCons (cC (.int 3)) (cNil))))))) (cNil)))) (cCons (cCall fn__law_pick (cCons (cNm 0) (cCons (cLst (cCons (cC (.int 2)) (cCons (cC (.int 4)) (cCons (cC (.int 6)) (cNil))))) (cNil)))) (cCons (cP2 slHiF (aE (cLst (cCons (cC (.str "x")) (cCons (cC (.str "y")) (cCons (cC (.str "z")) (cCons (cC (.str "w2")) (cNil))))))) (aE (cCall fn__law_pick (cCons (cNm 0) (cCons (cLst (cCons (cC (.int 2)) (cCons (cC (.int 3)) (cCons (cC (.int 3)) (cCons (cC (.int 4)) (cNil)))))) (cNil)))))) (cNil)))))) ⟨[.val (.obj 0), .val (.int k), s2, s3], h'⟩ = .nx ⟨[.val (.obj 0), .val (.int k), .val t, s3], h4⟩ := by
        simp only [sSeq, sSet, sNil, sExp, sRet, sRetN, sCt, sBk, sIf, sAsg, sPar, sAug, sPut, ofG, cC, cNm, cP1, cP2, cP3, cM0, cM1, cNil, cCons, cTup, cLst, cIf, cNot, cAnd, cOr, cCall, cDGet, cDis, cObj, cDis0, cApp, cPopAt, cPop, cSlBo, cLc, tE, tNotT, tAndT, tOrT, tY, aE, aPk, iSeq, ofI, M.bind, M.thn, M.bindN, Fl.thn, Arg.get, R.sl, R.val, stSl, retO, gN, gsN, gsC, gSq, wipeS, mkFn, List.foldr_cons, List.foldr_nil, List.length_cons, List.length_nil, List.map_cons, List.map_nil, List.replicate, List.append_eq, List.cons_append, List.nil_append, List.getElem?_cons_zero, List.getElem?_cons_succ, List.set_cons_zero, List.set_cons_succ, if_true, if_false, Nat.zero_add, Nat.reduceAdd, Nat.reduceSub, Nat.reduceLT, Nat.reduceLeDiff, Nat.reduceEqDiff, Bool.not_true, Bool.not_false, Bool.false_eq_true, Option.map_some, Option.bind_some, and_self, true_and, and_true, reduceCtorEq, e1', e2', e3', fc, e4]
      have q5 : Pen (c + (k + 1) * 20003) h4 := q4.mono (by omega)
      have gn : gN 1 (.int k) ⟨[.val (.obj 0), s1, s2, s3], h'⟩ = some ⟨[.val (.obj 0), .val (.int k), s2, s3], h'⟩ := by
        simp only [sSeq, sSet, sNil, sExp, sRet, sRetN, sCt, sBk, sIf, sAsg, sPar, sAug, sPut, ofG, cC, cNm, cP1, cP2, cP3, cM0, cM1, cNil, cCons, cTup, cLst, cIf, cNot, cAnd, cOr, cCall, cDGet, cDis, cObj, cDis0, cApp, cPopAt, cPop, cSlBo, cLc, tE, tNotT, tAndT, tOrT, tY, aE, aPk, iSeq, ofI, M.bind, M.thn, M.bindN, Fl.thn, Arg.get, R.sl, R.val, stSl, retO, gN, gsN, gsC, gSq, wipeS, mkFn, List.foldr_cons, List.foldr_nil, List.length_cons, List.length_nil, List.map_cons, List.map_nil, List.replicate, List.append_eq, List.cons_append, List.nil_append, List.getElem?_cons_zero, List.getElem?_cons_succ, List.set_cons_zero, List.set_cons_succ, if_true, if_false, Nat.zero_add, Nat.reduceAdd, Nat.reduceSub, Nat.reduceLT, Nat.reduceLeDiff, Nat.reduceEqDiff, Bool.not_true, Bool.not_false, Bool.false_eq_true, Option.map_some, Option.bind_some, and_self, true_and, and_true, reduceCtorEq]
      rw [gn]
      dsimp only [EvG]
      unfold d2__law_book
      rw [seq_nx st]
      unfold sIf
      rw [eb]
      cases b with
      | true =>
        simp only [sSeq, sSet, sNil, sExp, sRet, sRetN, sCt, sBk, sIf, sAsg, sPar, sAug, sPut, ofG, cC, cNm, cP1, cP2, cP3, cM0, cM1, cNil, cCons, cTup, cLst, cIf, cNot, cAnd, cOr, cCall, cDGet, cDis, cObj, cDis0, cApp, cPopAt, cPop, cSlBo, cLc, tE, tNotT, tAndT, tOrT, tY, aE, aPk, iSeq, ofI, M.bind, M.thn, M.bindN, Fl.thn, Arg.get, R.sl, R.val, stSl, retO, gN, gsN, gsC, gSq, wipeS, mkFn, List.foldr_cons, List.foldr_nil, List.length_cons, List.length_nil, List.map_cons, List.map_nil, List.replicate, List.append_eq, List.cons_append, List.nil_append, List.getElem?_cons_zero, List.getElem?_cons_succ, List.set_cons_zero, List.set_cons_succ, if_true, if_false, Nat.zero_add, Nat.reduceAdd, Nat.reduceSub, Nat.reduceLT, Nat.reduceLeDiff, Nat.reduceEqDiff, Bool.not_true, Bool.not_false, Bool.false_eq_true, Option.map_some, Option.bind_some, and_self, true_and, and_true, reduceCtorEq, Turn]
        exact .inl ⟨t, _, rfl, ht, q5.mono (by omega)⟩
      | false =>
        simp only [sSeq, sSet, sNil, sExp, sRet, sRetN, sCt, sBk, sIf, sAsg, sPar, sAug, sPut, ofG, cC, cNm, cP1, cP2, cP3, cM0, cM1, cNil, cCons, cTup, cLst, cIf, cNot, cAnd, cOr, cCall, cDGet, cDis, cObj, cDis0, cApp, cPopAt, cPop, cSlBo, cLc, tE, tNotT, tAndT, tOrT, tY, aE, aPk, iSeq, ofI, M.bind, M.thn, M.bindN, Fl.thn, Arg.get, R.sl, R.val, stSl, retO, gN, gsN, gsC, gSq, wipeS, mkFn, List.foldr_cons, List.foldr_nil, List.length_cons, List.length_nil, List.map_cons, List.map_nil, List.replicate, List.append_eq, List.cons_append, List.nil_append, List.getElem?_cons_zero, List.getElem?_cons_succ, List.set_cons_zero, List.set_cons_succ, if_true, if_false, Nat.zero_add, Nat.reduceAdd, Nat.reduceSub, Nat.reduceLT, Nat.reduceLeDiff, Nat.reduceEqDiff, Bool.not_true, Bool.not_false, Bool.false_eq_true, Option.map_some, Option.bind_some, and_self, true_and, and_true, reduceCtorEq, Turn]
        exact ⟨_, _, _, h4, rfl, q5⟩
  rw [show fn__law_book = mkFn 1 4 b__law_book from rfl]
  unfold mkFn b__law_book
  simp only [List.length_cons, List.length_nil, List.map_cons, List.map_nil, List.replicate, List.append_eq, List.cons_append, List.nil_append, if_true, if_false, Nat.zero_add, Nat.reduceAdd, Nat.reduceSub, Nat.reduceLT, Nat.reduceEqDiff]
  rcases loop with ⟨t, S', e, ht, q'⟩ | ⟨s1, s2, s3, h', e, q'⟩
  · refine ⟨t, S'.h, ?_, ht, q'.mono (by omega)⟩
    unfold sSeq
    rw [e]
  · have two : ∀ x ∈ [W.str "x", .str "y"], IsName x := by
      intro x hx
      simp only [List.mem_cons, List.not_mem_nil, or_false] at hx
      rcases hx with rfl | rfl <;> exact ⟨_, by decide +kernel, rfl⟩
    obtain ⟨t, h4, e4, ht, q4⟩ := sizes_ev 0 1 (by omega) (by omega) (by omega) [.str "x", .str "y"] _ h' q' two (by simp) (by simp) (by omega)
    have e4' : fn__law_book_of_sizes [.obj 0, .int 0, .int 1, .lst [.str "x", .str "y"]] h' = .ok (.w t) h4 := e4
    refine ⟨t, h4, ?_, ht, q4.mono (by omega)⟩
    rw [seq_nx e]
    simp only [sSeq, sSet, sNil, sExp, sRet, sRetN, sCt, sBk, sIf, sAsg, sPar, sAug, sPut, ofG, cC, cNm, cP1, cP2, cP3, cM0, cM1, cNil, cCons, cTup, cLst, cIf, cNot, cAnd, cOr, cCall, cDGet, cDis, cObj, cDis0, cApp, cPopAt, cPop, cSlBo, cLc, tE, tNotT, tAndT, tOrT, tY, aE, aPk, iSeq, ofI, M.bind, M.thn, M.bindN, Fl.thn, Arg.get, R.sl, R.val, stSl, retO, gN, gsN, gsC, gSq, wipeS, mkFn, List.foldr_cons, List.foldr_nil, List.length_cons, List.length_nil, List.map_cons, List.map_nil, List.replicate, List.append_eq, List.cons_append, List.nil_append, List.getElem?_cons_zero, List.getElem?_cons_succ, List.set_cons_zero, List.set_cons_succ, if_true, if_false, Nat.zero_add, Nat.reduceAdd, Nat.reduceSub, Nat.reduceLT, Nat.reduceLeDiff, Nat.reduceEqDiff, Bool.not_true, Bool.not_false, Bool.false_eq_true, Option.map_some, Option.bind_some, and_self, true_and, and_true, reduceCtorEq, e4']
end W44

set_option Elab.async false
set_option linter.all false
set_option maxRecDepth 100000
set_option maxHeartbeats 1000000
namespace W44
open PySem Mi
/-! ### texts that make words -/
def dstep (k c : Nat) : Option Nat := if c = 32 ∨ c = 10 ∨ c ∈ onesL then some 0 else if c ∈ wordsL ∧ (0 < k ∨ c ∈ lettersL) ∧ k < 12 then some (k + 1) else none
def dfa (k : Nat) : List Nat → Option Nat
  | [] => some k
  | c :: l => (dstep k c).bind fun k' => dfa k' l
theorem dfa_app : ∀ (a b : List Nat) (k : Nat), dfa k (a ++ b) = (dfa k a).bind fun k' => dfa k' b
  | [], b, k => rfl
  | c :: a, b, k => by
    show (dstep k c).bind (fun k' => dfa k' (a ++ b)) = ((dstep k c).bind fun k' => dfa k' a).bind fun k' => dfa k' b
    cases dstep k c with
    | none => rfl
    | some k' => exact dfa_app a b k'
def sl (s : Str) : List Nat := s.cps.toList
theorem sl_app (a b : Str) : sl (a ++ b) = sl a ++ sl b := by
  show (a.cps ++ b.cps).toList = a.cps.toList ++ b.cps.toList
  simp
theorem len_sl (s : Str) : s.length = (sl s).length := by
  show s.cps.size = s.cps.toList.length
  simp
theorem len_app (a b : Str) : (a ++ b).length = a.length + b.length := by
  rw [len_sl, len_sl, len_sl, sl_app, List.length_append]
/-- from any state it leads to j -/
def To (s : Str) (j : Nat) : Prop := ∀ k, dfa k (sl s) = some j
/-- from the start it leads somewhere -/
def Wd (s : Str) : Prop := ∃ j, dfa 0 (sl s) = some j
abbrev Gd (s : Str) : Prop := dfa 0 (sl s) = some 0
theorem to_lit (s : Str) (j : Nat) (h : (match sl s with | c :: _ => decide (c = 32 ∨ c = 10 ∨ c ∈ onesL) | [] => false) = true) (h2 : dfa 0 (sl s) = some j) : To s j := by
  intro k
  cases e : sl s with
  | nil => rw [e] at h; cases h
  | cons c r =>
    rw [e] at h h2
    have hc : c = 32 ∨ c = 10 ∨ c ∈ onesL := of_decide_eq_true h
    unfold dfa dstep at h2 ⊢
    rw [if_pos hc] at h2 ⊢
    exact h2
theorem Wd.to {a b : Str} {j : Nat} (h : Wd a) (t : To b j) : dfa 0 (sl (a ++ b)) = some j := by
  obtain ⟨k, e⟩ := h
  rw [sl_app, dfa_app, e]
  exact t k
theorem Gd.app {a b : Str} (h : Gd a) (g : Gd b) : Gd (a ++ b) := by
  show dfa 0 (sl (a ++ b)) = some 0
  rw [sl_app, dfa_app, h]
  exact g
theorem Gd.wd {a b : Str} (h : Gd a) (g : Wd b) : Wd (a ++ b) := by
  obtain ⟨k, e⟩ := g
  exact ⟨k, by rw [sl_app, dfa_app, h]; exact e⟩
theorem name_wd {s : Str} (h : s ∈ allNames) : Wd s ∧ s.length ≤ 5 ∧ s ≠ "" := by
  have all : ∀ s ∈ allNames, (dfa 0 (sl s)).isSome = true ∧ s.length ≤ 5 ∧ s ≠ "" := by decide +kernel
  obtain ⟨a, b, c⟩ := all s h
  exact ⟨Option.isSome_iff_exists.mp a, b, c⟩
theorem proc_wd {s : Str} (h : s ∈ ("main" : Str) :: procNames) : Wd s ∧ s.length ≤ 5 := by
  have all : ∀ s ∈ ("main" : Str) :: procNames, (dfa 0 (sl s)).isSome = true ∧ s.length ≤ 5 := by decide +kernel
  obtain ⟨a, b⟩ := all s h
  exact ⟨Option.isSome_iff_exists.mp a, b⟩
theorem name_ok {s : Str} (h : s ∈ allNames) : PyData.strOk s = true := by
  have all : ∀ s ∈ allNames, PyData.strOk s = true := by decide +kernel
  exact all s h
theorem add_S (a b : Str) (h : a.length + b.length ≤ 16777216) : addF (.str a) (.str b) = some (.w (.str (a ++ b))) := by
  dsimp only [addF]
  rw [if_pos h]
theorem sl_join (z : Str) : ∀ ss : List Str, sl (Str.join z ss) = glueL (sl z) (ss.map sl)
  | [] => rfl
  | [x] => rfl
  | x :: y :: r => by
    show sl (x ++ z ++ Str.join z (y :: r)) = _
    rw [sl_app, sl_app, sl_join z (y :: r)]
    rfl
theorem strs_ev : ∀ ss : List Str, strsW (ss.map W.str) = some ss
  | [] => rfl
  | x :: r => by simp [strsW, strs_ev r]
theorem join_evL (z : Str) (ss : List Str) (h : (ss.map (·.length)).sum + ss.length * z.length ≤ 16777216) : joinF (.str z) (.lst (ss.map W.str)) = some (.w (.str (Str.join z ss))) := by
  dsimp only [joinF]
  rw [strs_ev]
  dsimp only
  rw [if_pos h, show Txt.join z ss = Str.join z ss from PySem.StrLaws.glued_eq_join z ss]
theorem join_evU (z : Str) (ss : List Str) (h : (ss.map (·.length)).sum + ss.length * z.length ≤ 16777216) : joinF (.str z) (.tup (ss.map W.str)) = some (.w (.str (Str.join z ss))) := by
  dsimp only [joinF]
  rw [strs_ev]
  dsimp only
  rw [if_pos h, show Txt.join z ss = Str.join z ss from PySem.StrLaws.glued_eq_join z ss]
theorem gd_join {z : Str} (hz : Gd z) : ∀ {ss : List Str}, (∀ s ∈ ss, Gd s) → Gd (Str.join z ss)
  | [], _ => rfl
  | [x], h => h x (by simp)
  | x :: y :: r, h => ((h x (by simp)).app hz).app (gd_join hz fun s hs => h s (List.mem_cons_of_mem _ hs))
theorem wd_join {z : Str} (hz : To z 0) : ∀ {ss : List Str}, (∀ s ∈ ss, Wd s) → Wd (Str.join z ss)
  | [], _ => ⟨0, rfl⟩
  | [x], h => h x (by simp)
  | x :: y :: r, h => by
    have g : Gd (x ++ z) := (h x (by simp)).to hz
    exact g.wd (wd_join hz fun s hs => h s (List.mem_cons_of_mem _ hs))
theorem join_le (z : Str) (ss : List Str) (b : Nat) (h : ∀ s ∈ ss, s.length ≤ b) : (Str.join z ss).length ≤ ss.length * (b + z.length) ∧ (ss.map (·.length)).sum ≤ ss.length * b := by
  have l := PySem.StrLaws.join_length_le z ss
  have s : (ss.map (·.length)).sum ≤ ss.length * b := by
    induction ss with
    | nil => simp
    | cons x r ih =>
      have h1 := h x (by simp)
      have h2 := ih (fun s hs => h s (List.mem_cons_of_mem _ hs)) (PySem.StrLaws.join_length_le z r)
      rw [List.map_cons, List.sum_cons, List.length_cons, Nat.add_mul, Nat.one_mul]
      omega
  rw [Nat.mul_add]
  exact ⟨by omega, s⟩
/-- bounds of a statement's text -/
def Ls : Nat → Nat
  | 0 => 40
  | s + 1 => 40 + 4 * (Ls s + 1)
theorem names_strs : ∀ {ws : List W}, (∀ a ∈ ws, IsName a) → ∃ ss : List Str, ws = ss.map W.str ∧ ∀ s ∈ ss, s ∈ allNames
  | [], _ => ⟨[], rfl, fun s hs => by cases hs⟩
  | a :: ws, h => by
    obtain ⟨ss, rfl, hs⟩ := names_strs (ws := ws) fun b hb => h b (List.mem_cons_of_mem _ hb)
    obtain ⟨s, ms, rfl⟩ := h a List.mem_cons_self
    refine ⟨s :: ss, rfl, fun x hx => ?_⟩
    rcases List.mem_cons.mp hx with rfl | hx
    · exact ms
    · exact hs x hx
/-- what a statement's text is -/
def StT (s : Nat) (t : Str) : Prop := Gd t ∧ t.length ≤ Ls s
theorem body_text_step (n s : Nat) (xs : List W) (h : List MO) (hl : xs.length ≤ 16) (lb : Ls s ≤ 100000) (st : ∀ x ∈ xs, ∃ t, fn__law_statement_text n [x] h = .ok (.w (.str t)) h ∧ StT s t) :
    ∃ t : Str, fn__law_body_text (n + 1) [.tup xs] h = .ok (.w (.str (t ++ "}"))) h ∧ Gd t ∧ t.length ≤ 2 + xs.length * (Ls s + 1) := by
  have loop := lc_at' (own := [1]) (g := gN 1) (elt := l1__law_body_text (fn__law_body_text n) (fn__law_statement_text n)) xs (by omega)
    (fun k acc S => S = ⟨[.val (.tup xs), .un], h⟩ ∧ ∃ ts : List Str, acc = ts.map W.str ∧ ∀ t ∈ ts, Gd t ∧ t.length ≤ Ls s + 1) (by
      rintro k w acc S ew ea ⟨rfl, ts, rfl, ht⟩
      obtain ⟨t, e, g, l⟩ := st w (List.mem_of_getElem? ew)
      have one : (" " : Str).length = 1 := by decide +kernel
      have ad : t.length + (" " : Str).length ≤ 16777216 := by omega
      simp only [sSeq, sSet, sNil, sExp, sRet, sRetN, sCt, sBk, sIf, sAsg, sPar, sAug, sPut, ofG, cC, cNm, cP1, cP2, cP3, cM0, cM1, cNil, cCons, cTup, cLst, cIf, cNot, cAnd, cOr, cCall, cDGet, cDis, cObj, cDis0, cApp, cPopAt, cPop, cSlBo, cLc, tE, tNotT, tAndT, tOrT, tY, aE, aPk, iSeq, ofI, M.bind, M.thn, M.bindN, Fl.thn, Arg.get, R.sl, R.val, stSl, retO, gN, gsN, gsC, gSq, wipeS, mkFn, List.foldr_cons, List.foldr_nil, List.length_cons, List.length_nil, List.map_cons, List.map_nil, List.replicate, List.append_eq, List.cons_append, List.nil_append, List.getElem?_cons_zero, List.getElem?_cons_succ, List.set_cons_zero, List.set_cons_succ, if_true, if_false, Nat.zero_add, Nat.reduceAdd, Nat.reduceSub, Nat.reduceLT, Nat.reduceLeDiff, Nat.reduceEqDiff, Bool.not_true, Bool.not_false, Bool.false_eq_true, Option.map_some, Option.bind_some, and_self, true_and, and_true, reduceCtorEq, EvG, Ev, l1__law_body_text, e, add_S t " " ad]
      refine ⟨ts ++ [t ++ " "], by rw [List.map_append] <;> rfl, fun x hx => ?_⟩
      rcases List.mem_append.mp hx with hx | hx
      · exact ht x hx
      · rw [List.mem_singleton.mp hx, len_app]
        exact ⟨g.app (by decide +kernel : Gd " "), by omega⟩) ⟨[.val (.tup xs), .un], h⟩ ⟨rfl, [], rfl, fun t ht => by cases ht⟩
  obtain ⟨ys, S', e, l, rfl, ts, rfl, ht⟩ := loop
  have l' : ts.length = xs.length := by simpa using l
  obtain ⟨j1, j2⟩ := join_le "" ts (Ls s + 1) fun t hx => (ht t hx).2
  have z0 : ("" : Str).length = 0 := by decide +kernel
  have b2 : ("{ " : Str).length = 2 := by decide +kernel
  have b1 : ("}" : Str).length = 1 := by decide +kernel
  rw [z0, Nat.add_zero] at j1
  have xb : xs.length * (Ls s + 1) ≤ 16 * 100001 := Nat.mul_le_mul hl (by omega)
  rw [l'] at j1 j2
  have gj : Gd (Str.join "" ts) := gd_join (by decide +kernel : Gd "") fun t hx => (ht t hx).1
  refine ⟨"{ " ++ Str.join "" ts, ?_, (by decide +kernel : Gd "{ ").app gj, by rw [len_app, b2]; omega⟩
  have jo := join_evL "" ts (by rw [z0]; omega)
  have a1 := add_S "{ " (Str.join "" ts) (by omega)
  have a2 := add_S ("{ " ++ Str.join "" ts) "}" (by rw [len_app]; omega)
  unfold fn__law_body_text mkFn b__law_body_text
  simp only [sSeq, sSet, sNil, sExp, sRet, sRetN, sCt, sBk, sIf, sAsg, sPar, sAug, sPut, ofG, cC, cNm, cP1, cP2, cP3, cM0, cM1, cNil, cCons, cTup, cLst, cIf, cNot, cAnd, cOr, cCall, cDGet, cDis, cObj, cDis0, cApp, cPopAt, cPop, cSlBo, cLc, tE, tNotT, tAndT, tOrT, tY, aE, aPk, iSeq, ofI, M.bind, M.thn, M.bindN, Fl.thn, Arg.get, R.sl, R.val, stSl, retO, gN, gsN, gsC, gSq, wipeS, mkFn, List.foldr_cons, List.foldr_nil, List.length_cons, List.length_nil, List.map_cons, List.map_nil, List.replicate, List.append_eq, List.cons_append, List.nil_append, List.getElem?_cons_zero, List.getElem?_cons_succ, List.set_cons_zero, List.set_cons_succ, if_true, if_false, Nat.zero_add, Nat.reduceAdd, Nat.reduceSub, Nat.reduceLT, Nat.reduceLeDiff, Nat.reduceEqDiff, Bool.not_true, Bool.not_false, Bool.false_eq_true, Option.map_some, Option.bind_some, and_self, true_and, and_true, reduceCtorEq, seqItems, e, jo, a1, a2]
theorem cut_lo2 (v w : W) (ws : List W) : slLoF (.tup (v :: w :: ws)) (.int 2) = some (.w (.tup ws)) := by
  simp only [slLoF, slF, cutW, HT.sIx]
  rw [if_neg (by decide)]
  have e : min (Int.toNat 2) (v :: w :: ws).length = 2 := by
    rw [List.length_cons, List.length_cons, show Int.toNat 2 = 2 from rfl]
    omega
  rw [e]
  show some (R.w (.tup (ws.take _))) = _
  rw [List.take_of_length_le (by simp)]
theorem ix_U1 (v w : W) (ws : List W) : ixF (.tup (v :: w :: ws)) (.int 1) = some (.w w) := ix_U (v :: w :: ws) 1 w rfl
theorem ix_U2 (u v w : W) (ws : List W) : ixF (.tup (u :: v :: w :: ws)) (.int 2) = some (.w w) := ix_U (u :: v :: w :: ws) 2 w rfl
theorem ix_U3 (t u v w : W) (ws : List W) : ixF (.tup (t :: u :: v :: w :: ws)) (.int 3) = some (.w w) := ix_U (t :: u :: v :: w :: ws) 3 w rfl
theorem in3 (k : Str) : inF false (.str k) (.tup [.str "use", .str "set", .str "drop"]) = some (.w (.bl (decide (k ∈ (["use", "set", "drop"] : List Str))))) := in_strs false k ["use", "set", "drop"]
theorem in2 (k : Str) : inF false (.str k) (.tup [.str "either", .str "loop"]) = some (.w (.bl (decide (k ∈ (["either", "loop"] : List Str))))) := in_strs false k ["either", "loop"]
theorem lit_len : (" " : Str).length = 1 ∧ (";" : Str).length = 1 ∧ (" = " : Str).length = 3 ∧ ("new" : Str).length = 3 ∧ ("look " : Str).length = 5 ∧ ("only " : Str).length = 5 ∧ ("" : Str).length = 0 ∧ ("(" : Str).length = 1 ∧ (");" : Str).length = 2 ∧ (", " : Str).length = 2 ∧ (" or " : Str).length = 4 ∧ ("}" : Str).length = 1 := by decide +kernel
theorem nd4 : ([Sum.inr (Str.ofString "new"), Sum.inr (Str.ofString "look"), Sum.inr (Str.ofString "only"), Sum.inr (Str.ofString "move")] : List L2.Key).Nodup := by decide +kernel
theorem val_new (a b c d : W) : valW [.inr "new", .inr "look", .inr "only", .inr "move"] [a, b, c, d] (.inr "new") = some a := rfl
theorem val_look (a b c d : W) : valW [.inr "new", .inr "look", .inr "only", .inr "move"] [a, b, c, d] (.inr "look") = some b := rfl
theorem val_only (a b c d : W) : valW [.inr "new", .inr "look", .inr "only", .inr "move"] [a, b, c, d] (.inr "only") = some c := rfl
theorem val_move (a b c d : W) : valW [.inr "new", .inr "look", .inr "only", .inr "move"] [a, b, c, d] (.inr "move") = some d := rfl
theorem join0 : joinF (.str "") (.tup []) = some (.w (.str "")) := join_evU "" [] (by decide +kernel)
theorem join1 (s : Str) (h : s.length ≤ 1000) : joinF (.str "") (.tup [.str s]) = some (.w (.str s)) := join_evU "" [s] (by
  simp only [List.map_cons, List.map_nil, List.sum_cons, List.sum_nil, List.length_cons, List.length_nil, lit_len.2.2.2.2.2.2.1]
  omega)
theorem tail_gd {x J D : Str} (hx : x ∈ allNames) (hD : Gd (D ++ J ++ ";")) : Gd (x ++ " = " ++ D ++ J ++ ";") := by
  have g : Gd (x ++ " = ") := (name_wd hx).1.to (to_lit " = " 0 (by decide +kernel) (by decide +kernel))
  have e : x ++ " = " ++ D ++ J ++ ";" = (x ++ " = ") ++ (D ++ J ++ ";") := by
    apply congrArg Str.mk
    show ((x.cps ++ _) ++ D.cps ++ J.cps) ++ _ = (x.cps ++ _) ++ (D.cps ++ J.cps ++ _)
    simp [Array.append_assoc]
  rw [e]
  exact g.app hD
theorem semi (J : Str) (h : Wd J) : Gd (J ++ ";") := h.to (to_lit ";" 0 (by decide +kernel) (by decide +kernel))
theorem app_assoc (a b c : Str) : a ++ b ++ c = a ++ (b ++ c) := by
  apply congrArg Str.mk
  show (a.cps ++ b.cps) ++ c.cps = a.cps ++ (b.cps ++ c.cps)
  exact Array.append_assoc
theorem empty_app (a : Str) : ("" : Str) ++ a = a := by
  apply congrArg Str.mk
  show (("" : Str).cps ++ a.cps) = a.cps
  rw [show ("" : Str).cps = #[] by decide +kernel]
  simp
theorem app_empty (a : Str) : a ++ ("" : Str) = a := by
  apply congrArg Str.mk
  show (a.cps ++ ("" : Str).cps) = a.cps
  rw [show ("" : Str).cps = #[] by decide +kernel]
  simp
theorem text_plain (n s : Nat) (w : W) (h : List MO) (hw : Stm s w) (flat : ∀ bs k, w = .tup (.str k :: bs) → k ∉ (["either", "loop"] : List Str)) : ∃ t, fn__law_statement_text (n + 1) [w] h = .ok (.w (.str t)) h ∧ StT s t := by
  obtain ⟨l1, l2, l3, l4, l5, l6, l7, l8, l9, l10, l11, l12⟩ := lit_len
  have L40 : 40 ≤ Ls s := by cases s <;> simp [Ls] <;> omega
  have okc : PyData.strOk "call" = true := by decide +kernel
  cases hw with
  | @one s k x a b =>
    obtain ⟨sx, mx, rfl⟩ := b
    obtain ⟨wx, lx, nx⟩ := name_wd mx
    simp only [List.mem_cons, List.not_mem_nil, or_false] at a
    have spl : k = "new" ∨ (k ∈ (["use", "set", "drop"] : List Str) ∧ PyData.strOk k = true ∧ k ≠ "call" ∧ k ∉ (["either", "loop"] : List Str) ∧ k.length ≤ 4 ∧ Gd (k ++ " ")) := by
      rcases a with rfl | rfl | rfl | rfl
      · exact .inl rfl
      · exact .inr (by decide +kernel)
      · exact .inr (by decide +kernel)
      · exact .inr (by decide +kernel)
    rcases spl with rfl | ⟨m3, ok, nc, n2, lk, gk⟩
    · have f2 : decide (("new" : Str) ∈ (["either", "loop"] : List Str)) = false := by decide +kernel
      have fc : decide (("new" : Str) = "call") = false := by decide +kernel
      have f3 : decide (("new" : Str) ∈ (["use", "set", "drop"] : List Str)) = false := by decide +kernel
      have ok : PyData.strOk "new" = true := by decide +kernel
      refine ⟨sx ++ " = " ++ "new" ++ "" ++ ";", ?_, tail_gd mx (by decide +kernel), by simp only [len_app, l2, l3, l4, l7]; omega⟩
      unfold fn__law_statement_text mkFn b__law_statement_text
      simp only [sSeq, sSet, sNil, sExp, sRet, sRetN, sCt, sBk, sIf, sAsg, sPar, sAug, sPut, ofG, cC, cNm, cP1, cP2, cP3, cM0, cM1, cNil, cCons, cTup, cLst, cIf, cNot, cAnd, cOr, cCall, cDGet, cDis, cObj, cDis0, cApp, cPopAt, cPop, cSlBo, cLc, tE, tNotT, tAndT, tOrT, tY, aE, aPk, iSeq, ofI, M.bind, M.thn, M.bindN, Fl.thn, Arg.get, R.sl, R.val, stSl, retO, gN, gsN, gsC, gSq, wipeS, mkFn, List.foldr_cons, List.foldr_nil, List.length_cons, List.length_nil, List.map_cons, List.map_nil, List.replicate, List.append_eq, List.cons_append, List.nil_append, List.getElem?_cons_zero, List.getElem?_cons_succ, List.set_cons_zero, List.set_cons_succ, if_true, if_false, Nat.zero_add, Nat.reduceAdd, Nat.reduceSub, Nat.reduceLT, Nat.reduceLeDiff, Nat.reduceEqDiff, Bool.not_true, Bool.not_false, Bool.false_eq_true, Option.map_some, Option.bind_some, and_self, true_and, and_true, reduceCtorEq, ix_U0, ix_U1, in2, f2, eqF, eq_S _ _ _ ok okc, fc, in3, f3, add_S sx " = " (by omega), nd4, dicAt, keyW, val_new, add_S (sx ++ " = ") "new" (by simp only [len_app]; omega), cut_lo2, join0, add_S (sx ++ " = " ++ "new") "" (by simp only [len_app]; omega), add_S (sx ++ " = " ++ "new" ++ "") ";" (by simp only [len_app]; omega)]
    · refine ⟨k ++ " " ++ sx ++ ";", ?_, ?_, by simp only [len_app, l1, l2]; omega⟩
      · unfold fn__law_statement_text mkFn b__law_statement_text
        simp only [sSeq, sSet, sNil, sExp, sRet, sRetN, sCt, sBk, sIf, sAsg, sPar, sAug, sPut, ofG, cC, cNm, cP1, cP2, cP3, cM0, cM1, cNil, cCons, cTup, cLst, cIf, cNot, cAnd, cOr, cCall, cDGet, cDis, cObj, cDis0, cApp, cPopAt, cPop, cSlBo, cLc, tE, tNotT, tAndT, tOrT, tY, aE, aPk, iSeq, ofI, M.bind, M.thn, M.bindN, Fl.thn, Arg.get, R.sl, R.val, stSl, retO, gN, gsN, gsC, gSq, wipeS, mkFn, List.foldr_cons, List.foldr_nil, List.length_cons, List.length_nil, List.map_cons, List.map_nil, List.replicate, List.append_eq, List.cons_append, List.nil_append, List.getElem?_cons_zero, List.getElem?_cons_succ, List.set_cons_zero, List.set_cons_succ, if_true, if_false, Nat.zero_add, Nat.reduceAdd, Nat.reduceSub, Nat.reduceLT, Nat.reduceLeDiff, Nat.reduceEqDiff, Bool.not_true, Bool.not_false, Bool.false_eq_true, Option.map_some, Option.bind_some, and_self, true_and, and_true, reduceCtorEq, ix_U0, ix_U1, in2, decide_eq_false n2, eqF, eq_S _ _ _ ok okc, decide_eq_false nc, in3, decide_eq_true m3, add_S k " " (by omega), add_S (k ++ " ") sx (by simp only [len_app]; omega), add_S (k ++ " " ++ sx) ";" (by simp only [len_app]; omega)]
      · rw [app_assoc]
        exact gk.app (semi sx wx)
  | @two s k x y a b c =>
    obtain ⟨sx, mx, rfl⟩ := b
    obtain ⟨sy, my, rfl⟩ := c
    obtain ⟨wx, lx, nx⟩ := name_wd mx
    obtain ⟨wy, ly, ny⟩ := name_wd my
    simp only [List.mem_cons, List.not_mem_nil, or_false] at a
    rcases a with rfl | rfl | rfl
    · have f2 : decide (("look" : Str) ∈ (["either", "loop"] : List Str)) = false := by decide +kernel
      have fc : decide (("look" : Str) = "call") = false := by decide +kernel
      have f3 : decide (("look" : Str) ∈ (["use", "set", "drop"] : List Str)) = false := by decide +kernel
      have ok : PyData.strOk "look" = true := by decide +kernel
      refine ⟨sx ++ " = " ++ "look " ++ sy ++ ";", ?_, tail_gd mx ?_, by simp only [len_app, l2, l3, l5]; omega⟩
      · unfold fn__law_statement_text mkFn b__law_statement_text
        simp only [sSeq, sSet, sNil, sExp, sRet, sRetN, sCt, sBk, sIf, sAsg, sPar, sAug, sPut, ofG, cC, cNm, cP1, cP2, cP3, cM0, cM1, cNil, cCons, cTup, cLst, cIf, cNot, cAnd, cOr, cCall, cDGet, cDis, cObj, cDis0, cApp, cPopAt, cPop, cSlBo, cLc, tE, tNotT, tAndT, tOrT, tY, aE, aPk, iSeq, ofI, M.bind, M.thn, M.bindN, Fl.thn, Arg.get, R.sl, R.val, stSl, retO, gN, gsN, gsC, gSq, wipeS, mkFn, List.foldr_cons, List.foldr_nil, List.length_cons, List.length_nil, List.map_cons, List.map_nil, List.replicate, List.append_eq, List.cons_append, List.nil_append, List.getElem?_cons_zero, List.getElem?_cons_succ, List.set_cons_zero, List.set_cons_succ, if_true, if_false, Nat.zero_add, Nat.reduceAdd, Nat.reduceSub, Nat.reduceLT, Nat.reduceLeDiff, Nat.reduceEqDiff, Bool.not_true, Bool.not_false, Bool.false_eq_true, Option.map_some, Option.bind_some, and_self, true_and, and_true, reduceCtorEq, ix_U0, ix_U1, in2, f2, eqF, eq_S _ _ _ ok okc, fc, in3, f3, add_S sx " = " (by omega), nd4, dicAt, keyW, val_look, add_S (sx ++ " = ") "look " (by simp only [len_app]; omega), cut_lo2, join1 sy (by omega), add_S (sx ++ " = " ++ "look ") sy (by simp only [len_app]; omega), add_S (sx ++ " = " ++ "look " ++ sy) ";" (by simp only [len_app]; omega)]
      · rw [app_assoc]
        exact Gd.app (by decide +kernel) (semi sy wy)
    · have f2 : decide (("only" : Str) ∈ (["either", "loop"] : List Str)) = false := by decide +kernel
      have fc : decide (("only" : Str) = "call") = false := by decide +kernel
      have f3 : decide (("only" : Str) ∈ (["use", "set", "drop"] : List Str)) = false := by decide +kernel
      have ok : PyData.strOk "only" = true := by decide +kernel
      refine ⟨sx ++ " = " ++ "only " ++ sy ++ ";", ?_, tail_gd mx ?_, by simp only [len_app, l2, l3, l6]; omega⟩
      · unfold fn__law_statement_text mkFn b__law_statement_text
        simp only [sSeq, sSet, sNil, sExp, sRet, sRetN, sCt, sBk, sIf, sAsg, sPar, sAug, sPut, ofG, cC, cNm, cP1, cP2, cP3, cM0, cM1, cNil, cCons, cTup, cLst, cIf, cNot, cAnd, cOr, cCall, cDGet, cDis, cObj, cDis0, cApp, cPopAt, cPop, cSlBo, cLc, tE, tNotT, tAndT, tOrT, tY, aE, aPk, iSeq, ofI, M.bind, M.thn, M.bindN, Fl.thn, Arg.get, R.sl, R.val, stSl, retO, gN, gsN, gsC, gSq, wipeS, mkFn, List.foldr_cons, List.foldr_nil, List.length_cons, List.length_nil, List.map_cons, List.map_nil, List.replicate, List.append_eq, List.cons_append, List.nil_append, List.getElem?_cons_zero, List.getElem?_cons_succ, List.set_cons_zero, List.set_cons_succ, if_true, if_false, Nat.zero_add, Nat.reduceAdd, Nat.reduceSub, Nat.reduceLT, Nat.reduceLeDiff, Nat.reduceEqDiff, Bool.not_true, Bool.not_false, Bool.false_eq_true, Option.map_some, Option.bind_some, and_self, true_and, and_true, reduceCtorEq, ix_U0, ix_U1, in2, f2, eqF, eq_S _ _ _ ok okc, fc, in3, f3, add_S sx " = " (by omega), nd4, dicAt, keyW, val_only, add_S (sx ++ " = ") "only " (by simp only [len_app]; omega), cut_lo2, join1 sy (by omega), add_S (sx ++ " = " ++ "only ") sy (by simp only [len_app]; omega), add_S (sx ++ " = " ++ "only " ++ sy) ";" (by simp only [len_app]; omega)]
      · rw [app_assoc]
        exact Gd.app (by decide +kernel) (semi sy wy)
    · have f2 : decide (("move" : Str) ∈ (["either", "loop"] : List Str)) = false := by decide +kernel
      have fc : decide (("move" : Str) = "call") = false := by decide +kernel
      have f3 : decide (("move" : Str) ∈ (["use", "set", "drop"] : List Str)) = false := by decide +kernel
      have ok : PyData.strOk "move" = true := by decide +kernel
      refine ⟨sx ++ " = " ++ "" ++ sy ++ ";", ?_, tail_gd mx ?_, by simp only [len_app, l2, l3, l7]; omega⟩
      · unfold fn__law_statement_text mkFn b__law_statement_text
        simp only [sSeq, sSet, sNil, sExp, sRet, sRetN, sCt, sBk, sIf, sAsg, sPar, sAug, sPut, ofG, cC, cNm, cP1, cP2, cP3, cM0, cM1, cNil, cCons, cTup, cLst, cIf, cNot, cAnd, cOr, cCall, cDGet, cDis, cObj, cDis0, cApp, cPopAt, cPop, cSlBo, cLc, tE, tNotT, tAndT, tOrT, tY, aE, aPk, iSeq, ofI, M.bind, M.thn, M.bindN, Fl.thn, Arg.get, R.sl, R.val, stSl, retO, gN, gsN, gsC, gSq, wipeS, mkFn, List.foldr_cons, List.foldr_nil, List.length_cons, List.length_nil, List.map_cons, List.map_nil, List.replicate, List.append_eq, List.cons_append, List.nil_append, List.getElem?_cons_zero, List.getElem?_cons_succ, List.set_cons_zero, List.set_cons_succ, if_true, if_false, Nat.zero_add, Nat.reduceAdd, Nat.reduceSub, Nat.reduceLT, Nat.reduceLeDiff, Nat.reduceEqDiff, Bool.not_true, Bool.not_false, Bool.false_eq_true, Option.map_some, Option.bind_some, and_self, true_and, and_true, reduceCtorEq, ix_U0, ix_U1, in2, f2, eqF, eq_S _ _ _ ok okc, fc, in3, f3, add_S sx " = " (by omega), nd4, dicAt, keyW, val_move, add_S (sx ++ " = ") "" (by simp only [len_app]; omega), cut_lo2, join1 sy (by omega), add_S (sx ++ " = " ++ "") sy (by simp only [len_app]; omega), add_S (sx ++ " = " ++ "" ++ sy) ";" (by simp only [len_app]; omega)]
      · rw [app_assoc]
        exact Gd.app (by decide +kernel) (semi sy wy)
  | @call s x nm args a b c d =>
    obtain ⟨ss, rfl, hss⟩ := names_strs d
    rw [List.length_map] at c
    obtain ⟨wn, ln⟩ := proc_wd (List.mem_cons_of_mem ("main" : Str) b)
    obtain ⟨j1, j2⟩ := join_le ", " ss 5 fun t ht => (name_wd (hss t ht)).2.1
    rw [l10] at j1
    have sb : ss.length * (5 + 2) ≤ 2 * 7 := Nat.mul_le_mul_right _ c
    have sb2 : ss.length * 5 ≤ 2 * 5 := Nat.mul_le_mul_right _ c
    have jo := join_evU ", " ss (by rw [l10]; omega)
    have wj : Wd (Str.join ", " ss) := wd_join (to_lit ", " 0 (by decide +kernel) (by decide +kernel)) fun t ht => (name_wd (hss t ht)).1
    have gj : Gd (Str.join ", " ss ++ ");") := wj.to (to_lit ");" 0 (by decide +kernel) (by decide +kernel))
    have gn : Gd (nm ++ "(") := wn.to (to_lit "(" 0 (by decide +kernel) (by decide +kernel))
    have f2 : decide (("call" : Str) ∈ (["either", "loop"] : List Str)) = false := by decide +kernel
    have fc : decide (("call" : Str) = "call") = true := by decide +kernel
    have ok0 : PyData.strOk "" = true := by decide +kernel
    rcases a with ⟨sx, mx, rfl⟩ | rfl
    · obtain ⟨wx, lx, nx⟩ := name_wd mx
      refine ⟨sx ++ " = " ++ nm ++ "(" ++ Str.join ", " ss ++ ");", ?_, ?_, by simp only [len_app, l3, l8, l9]; omega⟩
      · unfold fn__law_statement_text mkFn b__law_statement_text
        simp only [sSeq, sSet, sNil, sExp, sRet, sRetN, sCt, sBk, sIf, sAsg, sPar, sAug, sPut, ofG, cC, cNm, cP1, cP2, cP3, cM0, cM1, cNil, cCons, cTup, cLst, cIf, cNot, cAnd, cOr, cCall, cDGet, cDis, cObj, cDis0, cApp, cPopAt, cPop, cSlBo, cLc, tE, tNotT, tAndT, tOrT, tY, aE, aPk, iSeq, ofI, M.bind, M.thn, M.bindN, Fl.thn, Arg.get, R.sl, R.val, stSl, retO, gN, gsN, gsC, gSq, wipeS, mkFn, List.foldr_cons, List.foldr_nil, List.length_cons, List.length_nil, List.map_cons, List.map_nil, List.replicate, List.append_eq, List.cons_append, List.nil_append, List.getElem?_cons_zero, List.getElem?_cons_succ, List.set_cons_zero, List.set_cons_succ, if_true, if_false, Nat.zero_add, Nat.reduceAdd, Nat.reduceSub, Nat.reduceLT, Nat.reduceLeDiff, Nat.reduceEqDiff, Bool.not_true, Bool.not_false, Bool.false_eq_true, Option.map_some, Option.bind_some, and_self, true_and, and_true, reduceCtorEq, ix_U0, ix_U1, ix_U2, ix_U3, in2, f2, decide_true, eqF, neF, eq_S _ _ _ okc okc, fc, eq_S _ _ _ (name_ok mx) ok0, decide_eq_false nx, add_S sx " = " (by omega), add_S (sx ++ " = ") nm (by simp only [len_app]; omega), add_S (sx ++ " = " ++ nm) "(" (by simp only [len_app]; omega), jo,
          add_S (sx ++ " = " ++ nm ++ "(") (Str.join ", " ss) (by simp only [len_app]; omega), add_S (sx ++ " = " ++ nm ++ "(" ++ Str.join ", " ss) ");" (by simp only [len_app]; omega)]
      · have g : Gd (sx ++ " = ") := wx.to (to_lit " = " 0 (by decide +kernel) (by decide +kernel))
        have := g.app (gn.app gj)
        rw [← app_assoc, ← app_assoc, ← app_assoc] at this
        exact this
    · have e0 : decide (("" : Str) = "") = true := by decide +kernel
      refine ⟨"" ++ nm ++ "(" ++ Str.join ", " ss ++ ");", ?_, ?_, by simp only [len_app, l7, l8, l9]; omega⟩
      · unfold fn__law_statement_text mkFn b__law_statement_text
        simp only [sSeq, sSet, sNil, sExp, sRet, sRetN, sCt, sBk, sIf, sAsg, sPar, sAug, sPut, ofG, cC, cNm, cP1, cP2, cP3, cM0, cM1, cNil, cCons, cTup, cLst, cIf, cNot, cAnd, cOr, cCall, cDGet, cDis, cObj, cDis0, cApp, cPopAt, cPop, cSlBo, cLc, tE, tNotT, tAndT, tOrT, tY, aE, aPk, iSeq, ofI, M.bind, M.thn, M.bindN, Fl.thn, Arg.get, R.sl, R.val, stSl, retO, gN, gsN, gsC, gSq, wipeS, mkFn, List.foldr_cons, List.foldr_nil, List.length_cons, List.length_nil, List.map_cons, List.map_nil, List.replicate, List.append_eq, List.cons_append, List.nil_append, List.getElem?_cons_zero, List.getElem?_cons_succ, List.set_cons_zero, List.set_cons_succ, if_true, if_false, Nat.zero_add, Nat.reduceAdd, Nat.reduceSub, Nat.reduceLT, Nat.reduceLeDiff, Nat.reduceEqDiff, Bool.not_true, Bool.not_false, Bool.false_eq_true, Option.map_some, Option.bind_some, and_self, true_and, and_true, reduceCtorEq, ix_U0, ix_U1, ix_U2, ix_U3, in2, f2, decide_true, eqF, neF, eq_S _ _ _ okc okc, fc, eq_S _ _ _ ok0 ok0, e0, add_S "" nm (by omega), add_S ("" ++ nm) "(" (by simp only [len_app]; omega), jo,
          add_S ("" ++ nm ++ "(") (Str.join ", " ss) (by simp only [len_app]; omega), add_S ("" ++ nm ++ "(" ++ Str.join ", " ss) ");" (by simp only [len_app]; omega)]
      · have := gn.app gj
        rw [← app_assoc] at this
        rw [empty_app]
        exact this
  | loop a b => exact absurd (by decide +kernel : ("loop" : Str) ∈ (["either", "loop"] : List Str)) (flat _ _ rfl)
  | either a b c d => exact absurd (by decide +kernel : ("either" : Str) ∈ (["either", "loop"] : List Str)) (flat _ _ rfl)
theorem text_node (n t : Nat) (k : Str) (bs : List W) (h : List MO) (mk : k ∈ (["either", "loop"] : List Str)) (lb : bs.length ≤ 2) (lt : Ls t ≤ 100000)
    (hb : ∀ b ∈ bs, ∃ u : Str, fn__law_body_text n [b] h = .ok (.w (.str (u ++ "}"))) h ∧ Gd u ∧ u.length ≤ 2 + 2 * (Ls t + 1)) : ∃ u, fn__law_statement_text (n + 1) [.tup (.str k :: bs)] h = .ok (.w (.str u)) h ∧ StT (t + 1) u := by
  obtain ⟨l1, l2, l3, l4, l5, l6, l7, l8, l9, l10, l11, l12⟩ := lit_len
  have kk : k.length ≤ 6 ∧ Gd (k ++ " ") := by
    have all : ∀ k ∈ (["either", "loop"] : List Str), k.length ≤ 6 ∧ Gd (k ++ " ") := by decide +kernel
    exact all k mk
  have loop := lc_at' (own := [1]) (g := gN 1) (elt := l1__law_statement_text (fn__law_body_text n) (fn__law_statement_text n)) bs (by omega)
    (fun i acc S => S = ⟨[.val (.tup (.str k :: bs)), .un], h⟩ ∧ ∃ ts : List Str, acc = ts.map W.str ∧ ∀ u ∈ ts, Gd u ∧ u.length ≤ 3 + 2 * (Ls t + 1)) (by
      rintro i w acc S ew ea ⟨rfl, ts, rfl, ht⟩
      obtain ⟨u, e, g, l⟩ := hb w (List.mem_of_getElem? ew)
      simp only [sSeq, sSet, sNil, sExp, sRet, sRetN, sCt, sBk, sIf, sAsg, sPar, sAug, sPut, ofG, cC, cNm, cP1, cP2, cP3, cM0, cM1, cNil, cCons, cTup, cLst, cIf, cNot, cAnd, cOr, cCall, cDGet, cDis, cObj, cDis0, cApp, cPopAt, cPop, cSlBo, cLc, tE, tNotT, tAndT, tOrT, tY, aE, aPk, iSeq, ofI, M.bind, M.thn, M.bindN, Fl.thn, Arg.get, R.sl, R.val, stSl, retO, gN, gsN, gsC, gSq, wipeS, mkFn, List.foldr_cons, List.foldr_nil, List.length_cons, List.length_nil, List.map_cons, List.map_nil, List.replicate, List.append_eq, List.cons_append, List.nil_append, List.getElem?_cons_zero, List.getElem?_cons_succ, List.set_cons_zero, List.set_cons_succ, if_true, if_false, Nat.zero_add, Nat.reduceAdd, Nat.reduceSub, Nat.reduceLT, Nat.reduceLeDiff, Nat.reduceEqDiff, Bool.not_true, Bool.not_false, Bool.false_eq_true, Option.map_some, Option.bind_some, and_self, true_and, and_true, reduceCtorEq, EvG, Ev, l1__law_statement_text, e]
      refine ⟨ts ++ [u ++ "}"], by rw [List.map_append] <;> rfl, fun x hx => ?_⟩
      rcases List.mem_append.mp hx with hx | hx
      · exact ht x hx
      · rw [List.mem_singleton.mp hx, len_app]
        exact ⟨g.app (by decide +kernel : Gd "}"), by omega⟩) ⟨[.val (.tup (.str k :: bs)), .un], h⟩ ⟨rfl, [], rfl, fun t ht => by cases ht⟩
  obtain ⟨ys, S', e, l, rfl, ts, rfl, ht⟩ := loop
  have l' : ts.length = bs.length := by simpa using l
  obtain ⟨j1, j2⟩ := join_le " or " ts (3 + 2 * (Ls t + 1)) fun u hx => (ht u hx).2
  rw [l11, l'] at j1
  rw [l'] at j2
  have m1 : bs.length * (3 + 2 * (Ls t + 1) + 4) ≤ 2 * (3 + 2 * (Ls t + 1) + 4) := Nat.mul_le_mul_right _ lb
  have m2 : bs.length * (3 + 2 * (Ls t + 1)) ≤ 2 * (3 + 2 * (Ls t + 1)) := Nat.mul_le_mul_right _ lb
  have jo := join_evL " or " ts (by rw [l11, l']; omega)
  have gj : Gd (Str.join " or " ts) := gd_join (by decide +kernel : Gd " or ") fun u hx => (ht u hx).1
  have dl : Ls (t + 1) = 40 + 4 * (Ls t + 1) := rfl
  refine ⟨k ++ " " ++ Str.join " or " ts, ?_, kk.2.app gj, by simp only [len_app, l1]; omega⟩
  have f2 : decide (k ∈ (["either", "loop"] : List Str)) = true := decide_eq_true mk
  unfold fn__law_statement_text mkFn b__law_statement_text
  simp only [sSeq, sSet, sNil, sExp, sRet, sRetN, sCt, sBk, sIf, sAsg, sPar, sAug, sPut, ofG, cC, cNm, cP1, cP2, cP3, cM0, cM1, cNil, cCons, cTup, cLst, cIf, cNot, cAnd, cOr, cCall, cDGet, cDis, cObj, cDis0, cApp, cPopAt, cPop, cSlBo, cLc, tE, tNotT, tAndT, tOrT, tY, aE, aPk, iSeq, ofI, M.bind, M.thn, M.bindN, Fl.thn, Arg.get, R.sl, R.val, stSl, retO, gN, gsN, gsC, gSq, wipeS, mkFn, List.foldr_cons, List.foldr_nil, List.length_cons, List.length_nil, List.map_cons, List.map_nil, List.replicate, List.append_eq, List.cons_append, List.nil_append, List.getElem?_cons_zero, List.getElem?_cons_succ, List.set_cons_zero, List.set_cons_succ, if_true, if_false, Nat.zero_add, Nat.reduceAdd, Nat.reduceSub, Nat.reduceLT, Nat.reduceLeDiff, Nat.reduceEqDiff, Bool.not_true, Bool.not_false, Bool.false_eq_true, Option.map_some, Option.bind_some, and_self, true_and, and_true, reduceCtorEq, ix_U0, in2, f2, cut_lo1, seqItems, e, jo, add_S k " " (by omega), add_S (k ++ " ") (Str.join " or " ts) (by simp only [len_app]; omega)]
theorem texts_all : ∀ (n s : Nat) (h : List MO), s ≤ 2 →
    (2 * s + 1 ≤ n → ∀ w, Stm s w → ∃ t, fn__law_statement_text n [w] h = .ok (.w (.str t)) h ∧ StT s t) ∧
    (2 * s + 2 ≤ n → ∀ xs : List W, xs.length ≤ 16 → (∀ x ∈ xs, Stm s x) → ∃ t : Str, fn__law_body_text n [.tup xs] h = .ok (.w (.str (t ++ "}"))) h ∧ Gd t ∧ t.length ≤ 2 + xs.length * (Ls s + 1)) := by
  intro n
  have lb : ∀ s, s ≤ 2 → Ls s ≤ 100000 := by
    intro s hs
    match s, hs with
    | 0, _ => decide
    | 1, _ => decide
    | 2, _ => decide
  induction n with
  | zero => exact fun s h _ => ⟨fun z => by omega, fun z => by omega⟩
  | succ n ih =>
    intro s h hs
    refine ⟨fun hn w hw => ?_, fun hn xs hl hx => body_text_step n s xs h hl (lb s hs) fun x hx' => (ih s h hs).1 (by omega) x (hx x hx')⟩
    rcases stm_cases hw with ⟨k, ws, rfl, nk⟩ | ⟨t, k, bs, rfl, rfl, mk, l2, hbs⟩
    · exact text_plain n s _ h hw fun bs k' e => by
        cases e
        exact nk
    · refine text_node n t k bs h mk l2 (lb t (by omega)) fun b hb => ?_
      obtain ⟨us, rfl, lu, hu⟩ := hbs b hb
      obtain ⟨u, e, g, l⟩ := (ih t h (by omega)).2 (by omega) us (by omega) hu
      have m : us.length * (Ls t + 1) ≤ 2 * (Ls t + 1) := Nat.mul_le_mul_right _ lu
      exact ⟨u, e, g, by omega⟩
end W44

set_option Elab.async false
set_option linter.all false
set_option maxRecDepth 100000
set_option maxHeartbeats 1000000
namespace W44
open PySem Mi
theorem cut_last (s : Str) (h : s.length + 1 ≤ 16777216) : slHiF (.str (s ++ "}")) (.int (-1)) = some (.w (.str s)) := by
  have l : (s ++ "}").length = s.length + 1 := by rw [len_app, lit_len.2.2.2.2.2.2.2.2.2.2.2]
  dsimp only [slHiF, slF]
  rw [if_pos (by omega)]
  congr 3
  show (⟨((((s ++ "}").cps.toList).drop _).take _).toArray⟩ : Str) = s
  simp only [HT.sIx]
  rw [if_pos (by decide), List.drop_zero, Nat.sub_zero, show (-1 + ((s ++ "}").length : Int)).toNat = s.length by omega]
  have e : (s ++ "}").cps.toList = s.cps.toList ++ ("}" : Str).cps.toList := sl_app s "}"
  rw [e, List.take_append_of_le_length (by show s.cps.size ≤ _; simp), List.take_of_length_le (by show _ ≤ s.cps.size; simp)]
theorem proc_text_ev (w : W) (h : List MO) (hw : Proc w) : ∃ t, fn__law_proc_text [w] h = .ok (.w (.str t)) h ∧ Gd t ∧ t.length ≤ 14000 := by
  obtain ⟨⟨nm, args, body, give, rfl, hnm, la, ha, lb, hb, hg⟩⟩ := hw
  obtain ⟨l1, l2, l3, l4, l5, l6, l7, l8, l9, l10, l11, l12⟩ := lit_len
  obtain ⟨wn, ln⟩ := proc_wd hnm
  obtain ⟨ss, rfl, hss⟩ := names_strs ha
  rw [List.length_map] at la
  obtain ⟨j1, j2⟩ := join_le ", " ss 5 fun t ht => (name_wd (hss t ht)).2.1
  rw [l10] at j1
  have sb : ss.length * (5 + 2) ≤ 2 * 7 := Nat.mul_le_mul_right _ la
  have sb2 : ss.length * 5 ≤ 2 * 5 := Nat.mul_le_mul_right _ la
  have jo := join_evU ", " ss (by rw [l10]; omega)
  have wj : Wd (Str.join ", " ss) := wd_join (to_lit ", " 0 (by decide +kernel) (by decide +kernel)) fun t ht => (name_wd (hss t ht)).1
  obtain ⟨bt, eb, gb, lbt⟩ := (texts_all fuel__law_body_text 2 h (by omega)).2 (by decide) body lb hb
  have L2 : Ls 2 = 860 := rfl
  have bb : body.length * (Ls 2 + 1) ≤ 16 * 861 := by
    rw [L2]
    exact Nat.mul_le_mul_right _ lb
  have ok0 : PyData.strOk "" = true := by decide +kernel
  have p5 : ("proc " : Str).length = 5 ∧ (") " : Str).length = 2 ∧ ("give " : Str).length = 5 ∧ ("; " : Str).length = 2 := by decide +kernel
  obtain ⟨p5, p2, g5, s2⟩ := p5
  have gv : ∃ g : Str, Gd g ∧ g.length ≤ 12 ∧ cIf (tE (cP2 neF (aE (cP2 ixF (aPk 0) (aE (cC (.int 3))))) (aE (cC (.str ""))))) (cP2 addF (aE (cP2 addF (aE (cC (.str "give "))) (aE (cP2 ixF (aPk 0) (aE (cC (.int 3))))))) (aE (cC (.str "; ")))) (cC (.str "")) ⟨[.val (.tup [.str nm, .tup (ss.map W.str), .tup body, give]), .un], h⟩ =
      .ok (.w (.str g), ⟨[.val (.tup [.str nm, .tup (ss.map W.str), .tup body, give]), .un], h⟩) := by
    rcases hg with ⟨sg, mg, rfl⟩ | rfl
    · obtain ⟨wg, lg, ng⟩ := name_wd mg
      refine ⟨"give " ++ sg ++ "; ", ?_, by simp only [len_app]; omega, ?_⟩
      · rw [app_assoc]
        exact Gd.app (by decide +kernel) (wg.to (to_lit "; " 0 (by decide +kernel) (by decide +kernel)))
      · simp only [sSeq, sSet, sNil, sExp, sRet, sRetN, sCt, sBk, sIf, sAsg, sPar, sAug, sPut, ofG, cC, cNm, cP1, cP2, cP3, cM0, cM1, cNil, cCons, cTup, cLst, cIf, cNot, cAnd, cOr, cCall, cDGet, cDis, cObj, cDis0, cApp, cPopAt, cPop, cSlBo, cLc, tE, tNotT, tAndT, tOrT, tY, aE, aPk, iSeq, ofI, M.bind, M.thn, M.bindN, Fl.thn, Arg.get, R.sl, R.val, stSl, retO, gN, gsN, gsC, gSq, wipeS, mkFn, List.foldr_cons, List.foldr_nil, List.length_cons, List.length_nil, List.map_cons, List.map_nil, List.replicate, List.append_eq, List.cons_append, List.nil_append, List.getElem?_cons_zero, List.getElem?_cons_succ, List.set_cons_zero, List.set_cons_succ, if_true, if_false, Nat.zero_add, Nat.reduceAdd, Nat.reduceSub, Nat.reduceLT, Nat.reduceLeDiff, Nat.reduceEqDiff, Bool.not_true, Bool.not_false, Bool.false_eq_true, Option.map_some, Option.bind_some, and_self, true_and, and_true, reduceCtorEq, ix_U3, neF, eq_S _ _ _ (name_ok mg) ok0, decide_eq_false ng, add_S "give " sg (by omega), add_S ("give " ++ sg) "; " (by simp only [len_app]; omega)]
    · refine ⟨"", by decide +kernel, by omega, ?_⟩
      simp only [sSeq, sSet, sNil, sExp, sRet, sRetN, sCt, sBk, sIf, sAsg, sPar, sAug, sPut, ofG, cC, cNm, cP1, cP2, cP3, cM0, cM1, cNil, cCons, cTup, cLst, cIf, cNot, cAnd, cOr, cCall, cDGet, cDis, cObj, cDis0, cApp, cPopAt, cPop, cSlBo, cLc, tE, tNotT, tAndT, tOrT, tY, aE, aPk, iSeq, ofI, M.bind, M.thn, M.bindN, Fl.thn, Arg.get, R.sl, R.val, stSl, retO, gN, gsN, gsC, gSq, wipeS, mkFn, List.foldr_cons, List.foldr_nil, List.length_cons, List.length_nil, List.map_cons, List.map_nil, List.replicate, List.append_eq, List.cons_append, List.nil_append, List.getElem?_cons_zero, List.getElem?_cons_succ, List.set_cons_zero, List.set_cons_succ, if_true, if_false, Nat.zero_add, Nat.reduceAdd, Nat.reduceSub, Nat.reduceLT, Nat.reduceLeDiff, Nat.reduceEqDiff, Bool.not_true, Bool.not_false, Bool.false_eq_true, Option.map_some, Option.bind_some, and_self, true_and, and_true, reduceCtorEq, ix_U3, neF, eq_S _ _ _ ok0 ok0, decide_true]
  obtain ⟨g, gg, lg, eg⟩ := gv
  have a : Gd ("proc " ++ nm ++ "(" ++ Str.join ", " ss ++ ") " ++ bt ++ g ++ "}") := by
    have g1 : Gd (nm ++ "(") := wn.to (to_lit "(" 0 (by decide +kernel) (by decide +kernel))
    have g2 : Gd (Str.join ", " ss ++ ") ") := wj.to (to_lit ") " 0 (by decide +kernel) (by decide +kernel))
    have g3 : Gd ("proc " : Str) := by decide +kernel
    have g4 : Gd ("}" : Str) := by decide +kernel
    have := g3.app (g1.app (g2.app (gb.app (gg.app g4))))
    simp only [app_assoc] at this ⊢
    exact this
  refine ⟨_, ?_, a, by simp only [len_app]; omega⟩
  unfold fn__law_proc_text mkFn b__law_proc_text
  simp only [List.length_cons, List.length_nil, List.map_cons, List.map_nil, List.replicate, List.append_eq, List.cons_append, List.nil_append, if_true, if_false, Nat.zero_add, Nat.reduceAdd, Nat.reduceSub, Nat.reduceLT, Nat.reduceEqDiff]
  revert eg
  generalize cIf (tE (cP2 neF (aE (cP2 ixF (aPk 0) (aE (cC (.int 3))))) (aE (cC (.str ""))))) (cP2 addF (aE (cP2 addF (aE (cC (.str "give "))) (aE (cP2 ixF (aPk 0) (aE (cC (.int 3))))))) (aE (cC (.str "; ")))) (cC (.str "")) = CG
  intro eg
  simp only [sSeq, sSet, sNil, sExp, sRet, sRetN, sCt, sBk, sIf, sAsg, sPar, sAug, sPut, ofG, cC, cNm, cP1, cP2, cP3, cM0, cM1, cNil, cCons, cTup, cLst, cIf, cNot, cAnd, cOr, cCall, cDGet, cDis, cObj, cDis0, cApp, cPopAt, cPop, cSlBo, cLc, tE, tNotT, tAndT, tOrT, tY, aE, aPk, iSeq, ofI, M.bind, M.thn, M.bindN, Fl.thn, Arg.get, R.sl, R.val, stSl, retO, gN, gsN, gsC, gSq, wipeS, mkFn, List.foldr_cons, List.foldr_nil, List.length_cons, List.length_nil, List.map_cons, List.map_nil, List.replicate, List.append_eq, List.cons_append, List.nil_append, List.getElem?_cons_zero, List.getElem?_cons_succ, List.set_cons_zero, List.set_cons_succ, if_true, if_false, Nat.zero_add, Nat.reduceAdd, Nat.reduceSub, Nat.reduceLT, Nat.reduceLeDiff, Nat.reduceEqDiff, Bool.not_true, Bool.not_false, Bool.false_eq_true, Option.map_some, Option.bind_some, and_self, true_and, and_true, reduceCtorEq, eg, ix_U0, ix_U1, ix_U2, add_S "proc " nm (by omega), add_S ("proc " ++ nm) "(" (by simp only [len_app]; omega), jo, add_S ("proc " ++ nm ++ "(") (Str.join ", " ss) (by simp only [len_app]; omega),
    add_S ("proc " ++ nm ++ "(" ++ Str.join ", " ss) ") " (by simp only [len_app]; omega), eb, negF, cut_last bt (by omega), add_S ("proc " ++ nm ++ "(" ++ Str.join ", " ss ++ ") ") bt (by simp only [len_app]; omega),
    add_S ("proc " ++ nm ++ "(" ++ Str.join ", " ss ++ ") " ++ bt) g (by simp only [len_app]; omega), add_S ("proc " ++ nm ++ "(" ++ Str.join ", " ss ++ ") " ++ bt ++ g) "}" (by simp only [len_app]; omega)]
theorem printed_ev (t : W) (h : List MO) (ht : Tree t) : ∃ s, fn__law_printed [t] h = .ok (.w (.str s)) h ∧ Gd s ∧ s.length ≤ 60000 := by
  obtain ⟨ps, rfl, lp, hp⟩ := ht
  have n1 : ("\n" : Str).length = 1 := by decide +kernel
  have loop := lc_at' (own := [1]) (g := gN 1) (elt := l1__law_printed) ps (by omega)
    (fun i acc S => S = ⟨[.val (.tup [.tup ps]), .un], h⟩ ∧ ∃ ts : List Str, acc = ts.map W.str ∧ ∀ u ∈ ts, Gd u ∧ u.length ≤ 14000) (by
      rintro i w acc S ew ea ⟨rfl, ts, rfl, ht⟩
      obtain ⟨u, e, g, l⟩ := proc_text_ev w h (hp w (List.mem_of_getElem? ew))
      simp only [sSeq, sSet, sNil, sExp, sRet, sRetN, sCt, sBk, sIf, sAsg, sPar, sAug, sPut, ofG, cC, cNm, cP1, cP2, cP3, cM0, cM1, cNil, cCons, cTup, cLst, cIf, cNot, cAnd, cOr, cCall, cDGet, cDis, cObj, cDis0, cApp, cPopAt, cPop, cSlBo, cLc, tE, tNotT, tAndT, tOrT, tY, aE, aPk, iSeq, ofI, M.bind, M.thn, M.bindN, Fl.thn, Arg.get, R.sl, R.val, stSl, retO, gN, gsN, gsC, gSq, wipeS, mkFn, List.foldr_cons, List.foldr_nil, List.length_cons, List.length_nil, List.map_cons, List.map_nil, List.replicate, List.append_eq, List.cons_append, List.nil_append, List.getElem?_cons_zero, List.getElem?_cons_succ, List.set_cons_zero, List.set_cons_succ, if_true, if_false, Nat.zero_add, Nat.reduceAdd, Nat.reduceSub, Nat.reduceLT, Nat.reduceLeDiff, Nat.reduceEqDiff, Bool.not_true, Bool.not_false, Bool.false_eq_true, Option.map_some, Option.bind_some, and_self, true_and, and_true, reduceCtorEq, EvG, Ev, l1__law_printed, e]
      refine ⟨ts ++ [u], by rw [List.map_append] <;> rfl, fun x hx => ?_⟩
      rcases List.mem_append.mp hx with hx | hx
      · exact ht x hx
      · rw [List.mem_singleton.mp hx]
        exact ⟨g, l⟩) ⟨[.val (.tup [.tup ps]), .un], h⟩ ⟨rfl, [], rfl, fun t ht => by cases ht⟩
  obtain ⟨ys, S', e, l, rfl, ts, rfl, ht⟩ := loop
  have l' : ts.length = ps.length := by simpa using l
  obtain ⟨j1, j2⟩ := join_le "\n" ts 14000 fun u hx => (ht u hx).2
  rw [n1, l'] at j1
  rw [l'] at j2
  have m1 : ps.length * (14000 + 1) ≤ 4 * 14001 := Nat.mul_le_mul_right _ lp
  have m2 : ps.length * 14000 ≤ 4 * 14000 := Nat.mul_le_mul_right _ lp
  have jo := join_evL "\n" ts (by rw [n1, l']; omega)
  refine ⟨Str.join "\n" ts, ?_, gd_join (by decide +kernel) fun u hx => (ht u hx).1, by omega⟩
  unfold fn__law_printed mkFn b__law_printed
  simp only [sSeq, sSet, sNil, sExp, sRet, sRetN, sCt, sBk, sIf, sAsg, sPar, sAug, sPut, ofG, cC, cNm, cP1, cP2, cP3, cM0, cM1, cNil, cCons, cTup, cLst, cIf, cNot, cAnd, cOr, cCall, cDGet, cDis, cObj, cDis0, cApp, cPopAt, cPop, cSlBo, cLc, tE, tNotT, tAndT, tOrT, tY, aE, aPk, iSeq, ofI, M.bind, M.thn, M.bindN, Fl.thn, Arg.get, R.sl, R.val, stSl, retO, gN, gsN, gsC, gSq, wipeS, mkFn, List.foldr_cons, List.foldr_nil, List.length_cons, List.length_nil, List.map_cons, List.map_nil, List.replicate, List.append_eq, List.cons_append, List.nil_append, List.getElem?_cons_zero, List.getElem?_cons_succ, List.set_cons_zero, List.set_cons_succ, if_true, if_false, Nat.zero_add, Nat.reduceAdd, Nat.reduceSub, Nat.reduceLT, Nat.reduceLeDiff, Nat.reduceEqDiff, Bool.not_true, Bool.not_false, Bool.false_eq_true, Option.map_some, Option.bind_some, and_self, true_and, and_true, reduceCtorEq, ix_U0, seqItems, e, jo]
/-! ### parted -/
/-- signs with a blank at either side -/
def spc (l : List Nat) : List Nat := l.flatMap fun c => if c ∈ onesL then [32, c, 32] else [c]
/-- a good word: one sign, or a name -/
def GW (l : List Nat) : Prop := (∃ c ∈ onesL, l = [c]) ∨ (∃ k, 0 < k ∧ dfa 0 l = some k ∧ k = l.length ∧ ∀ c ∈ l, c ∈ wordsL)
theorem onesL_eq : onesL = [61, 59, 44, 40, 41, 123, 125] := by decide +kernel
/-- with the signs of S done -/
def spcS (S : List Nat) (l : List Nat) : List Nat := l.flatMap fun c => if c ∈ S then [32, c, 32] else [c]
theorem spcS_step (S : List Nat) (c : Nat) (h32 : c ≠ 32) (hc : c ∉ S) (l : List Nat) : replL c [32, c, 32] (spcS S l) = spcS (S ++ [c]) l := by
  induction l with
  | nil => rfl
  | cons d l ih =>
    have e1 : spcS S (d :: l) = (if d ∈ S then [32, d, 32] else [d]) ++ spcS S l := by unfold spcS; rw [List.flatMap_cons]
    have e2 : spcS (S ++ [c]) (d :: l) = (if d ∈ S ++ [c] then [32, d, 32] else [d]) ++ spcS (S ++ [c]) l := by unfold spcS; rw [List.flatMap_cons]
    have app : ∀ (z a b : List Nat), replL c z (a ++ b) = replL c z a ++ replL c z b := fun z a b => by
      unfold replL
      rw [List.flatMap_append]
    rw [e1, e2, app, ih]
    congr 1
    by_cases hd : d ∈ S
    · have dc : d ≠ c := fun z => hc (z ▸ hd)
      rw [if_pos hd, if_pos (List.mem_append_left _ hd)]
      simp [replL, dc, Ne.symm h32]
    · rw [if_neg hd]
      by_cases dc : d = c
      · rw [if_pos (by simp [dc])]
        simp [replL, dc]
      · rw [if_neg (by simp [hd, dc])]
        simp [replL, dc]
theorem spcS_len (S l : List Nat) : (spcS S l).length ≤ 3 * l.length := by
  induction l with
  | nil => exact Nat.le_refl _
  | cons d l ih =>
    have e1 : spcS S (d :: l) = (if d ∈ S then [32, d, 32] else [d]) ++ spcS S l := by unfold spcS; rw [List.flatMap_cons]
    rw [e1, List.length_append, List.length_cons]
    split <;> simp <;> omega
theorem spcS_nil (l : List Nat) : spcS [] l = l := by
  unfold spcS
  simp
theorem blank_T : (" " : Str) = T [32] := by decide +kernel
theorem partL_ev : ∀ (cs dn l : List Nat) (s1 s2 : Sl) (h : List MO), l.length ≤ 1000000 → (∀ c ∈ cs, c ≠ 32 ∧ c ∉ dn) → cs.Nodup →
    ∃ s1' : Sl, partL 0 1 " " " " cs ⟨[.val (.str (T (spcS dn l))), s1, s2], h⟩ = .nx ⟨[.val (.str (T (spcS (dn ++ cs) l))), s1', s2], h⟩
  | [], dn, l, s1, s2, h, _, _, _ => ⟨s1, by rw [List.append_nil] <;> rfl⟩
  | c :: cs, dn, l, s1, s2, h, hl, hc, nd => by
    obtain ⟨h32, hn⟩ := hc c List.mem_cons_self
    obtain ⟨n1, n2⟩ := List.nodup_cons.mp nd
    obtain ⟨s1', e⟩ := partL_ev cs (dn ++ [c]) l (.val (.str ⟨#[c]⟩)) s2 h hl (fun d hd => ⟨(hc d (List.mem_cons_of_mem _ hd)).1, fun z => by
      rcases List.mem_append.mp z with z | z
      · exact (hc d (List.mem_cons_of_mem _ hd)).2 z
      · rw [List.mem_singleton.mp z] at hd
        exact n1 hd⟩) n2
    refine ⟨s1', ?_⟩
    have ez : (" " : Str) ++ (⟨#[c]⟩ : Str) ++ " " = T [32, c, 32] := by
      rw [blank_T]
      rfl
    have ll := spcS_len dn l
    have ne : ((⟨#[c]⟩ : Str) == T [32, c, 32]) = false := by
      have : (⟨#[c]⟩ : Str) ≠ T [32, c, 32] := fun z => by
        have := congrArg (fun s : Str => s.cps.size) z
        simp at this
      simp [this]
    have one : partOne " " " " c (T (spcS dn l)) = some (T (spcS (dn ++ [c]) l)) := by
      dsimp only [partOne]
      rw [ez, if_pos ⟨by rw [T_len, T_len]; show _ + _ * 3 ≤ _; omega, ne, by rw [blank_T]; show (T [32, c]).length ≤ _; rw [T_len]; simp⟩]
      rw [show (⟨#[c]⟩ : Str) = T [c] from rfl, replace_T, spcS_step dn c h32 hn]
    unfold partL
    simp only [List.getElem?_cons_zero, one, List.length_cons, List.length_nil, Nat.zero_add, Nat.reduceAdd, Nat.reduceLT, if_true, List.set_cons_zero, List.set_cons_succ]
    rw [e, List.append_assoc]
    rfl
/-- what is split at the blanks -/
def mids (l : List Nat) : List Nat := replL 10 [32] (spcS onesL l)
theorem mids_cons (c : Nat) (l : List Nat) : mids (c :: l) = (if c = 32 ∨ c = 10 then [32] else if c ∈ onesL then [32, c, 32] else [c]) ++ mids l := by
  have e1 : spcS onesL (c :: l) = (if c ∈ onesL then [32, c, 32] else [c]) ++ spcS onesL l := by unfold spcS; rw [List.flatMap_cons]
  unfold mids
  rw [e1]
  unfold replL
  rw [List.flatMap_append]
  congr 1
  by_cases h : c ∈ onesL
  · have n : ¬ (c = 32 ∨ c = 10) := by
      rw [onesL_eq] at h
      simp only [List.mem_cons, List.not_mem_nil, or_false] at h
      omega
    have n10 : c ≠ 10 := fun z => n (.inr z)
    rw [if_pos h, if_neg n]
    simp [n10]
  · rw [if_neg h]
    by_cases h2 : c = 32 ∨ c = 10
    · rw [if_pos h2]
      rcases h2 with rfl | rfl <;> decide
    · rw [if_neg h2]
      have : c ≠ 10 := fun z => h2 (.inr z)
      simp [this]
theorem w32 : 32 ∉ wordsL ∧ 32 ∉ onesL := by decide +kernel
theorem good_parts : ∀ (l cur : List Nat) (k j : Nat), dfa k l = some j → dfa 0 cur = some k → k = cur.length → (∀ c ∈ cur, c ∈ wordsL) → ∀ p ∈ splitL 32 (cur ++ mids l), p = [] ∨ GW p := by
  intro l
  have fin : ∀ (cur : List Nat) (k : Nat), dfa 0 cur = some k → k = cur.length → (∀ c ∈ cur, c ∈ wordsL) → (cur = [] ∨ GW cur) ∧ 32 ∉ cur := fun cur k hk e hc => by
    refine ⟨?_, fun z => w32.1 (hc 32 z)⟩
    cases cur with
    | nil => exact .inl rfl
    | cons a r =>
      have : 0 < k := by rw [e, List.length_cons]; omega
      exact .inr (.inr ⟨k, this, hk, e, hc⟩)
  induction l with
  | nil =>
    intro cur k j _ hk e hc p hp
    obtain ⟨g, n⟩ := fin cur k hk e hc
    rw [show mids [] = [] from rfl, List.append_nil, splitL_free n, List.mem_singleton] at hp
    rw [hp]
    exact g
  | cons c l ih =>
    intro cur k j hj hk e hc p hp
    obtain ⟨g, n⟩ := fin cur k hk e hc
    unfold dfa dstep at hj
    rw [mids_cons] at hp
    by_cases h1 : c = 32 ∨ c = 10
    · rw [if_pos (by rcases h1 with h | h <;> simp [h])] at hj
      rw [if_pos h1, List.singleton_append, splitL_app n] at hp
      rcases List.mem_cons.mp hp with rfl | hp
      · exact g
      · exact ih [] 0 j hj rfl rfl (fun c z => by cases z) p hp
    · rw [if_neg h1] at hp
      by_cases h2 : c ∈ onesL
      · rw [if_pos (.inr (.inr h2))] at hj
        have nc : 32 ∉ [c] := fun z => by
          rw [List.mem_singleton.mp z] at h1
          exact h1 (.inl rfl)
        rw [if_pos h2, show cur ++ ([32, c, 32] ++ mids l) = cur ++ 32 :: ([c] ++ 32 :: mids l) from rfl, splitL_app n, splitL_app nc] at hp
        rcases List.mem_cons.mp hp with rfl | hp
        · exact g
        rcases List.mem_cons.mp hp with rfl | hp
        · exact .inr (.inl ⟨c, h2, rfl⟩)
        · exact ih [] 0 j hj rfl rfl (fun c z => by cases z) p hp
      · rw [if_neg h2] at hp
        rw [if_neg (by simp only [not_or] at h1 ⊢; exact ⟨h1.1, h1.2, h2⟩)] at hj
        by_cases h3 : c ∈ wordsL ∧ (0 < k ∨ c ∈ lettersL) ∧ k < 12
        · rw [if_pos h3] at hj
          rw [show cur ++ ([c] ++ mids l) = (cur ++ [c]) ++ mids l by rw [List.append_assoc]] at hp
          refine ih (cur ++ [c]) (k + 1) j hj ?_ (by rw [List.length_append, ← e] <;> rfl) (fun d hd => ?_) p hp
          · rw [dfa_app, hk]
            show (dstep k c).bind _ = _
            unfold dstep
            rw [if_neg (by simp only [not_or] at h1 ⊢; exact ⟨h1.1, h1.2, h2⟩), if_pos h3]
            rfl
          · rcases List.mem_append.mp hd with hd | hd
            · exact hc d hd
            · rw [List.mem_singleton.mp hd]
              exact h3.1
        · rw [if_neg h3] at hj
          cases hj
theorem dfa_pl : ∀ (l : List Nat) (k j : Nat), dfa k l = some j → ∀ c ∈ l, c < 128
  | c :: l, k, j, h, d, hd => by
    unfold dfa at h
    cases e : dstep k c with
    | none => rw [e] at h; cases h
    | some k' =>
      rw [e] at h
      rcases List.mem_cons.mp hd with rfl | hd
      · unfold dstep at e
        split at e
        · rename_i hr
          have : ∀ c ∈ onesL, c < 128 := by decide +kernel
          rcases hr with rfl | rfl | hr
          · decide
          · decide
          · exact this _ hr
        · split at e
          · rename_i hr
            have : ∀ c ∈ wordsL, c < 128 := by decide +kernel
            exact this _ hr.1
          · cases e
      · exact dfa_pl l k' j h d hd
def prt (l : List Nat) : List (List Nat) := (splitL 32 (mids l)).filter fun p => decide (p ≠ [])
theorem prt_good {l : List Nat} {j : Nat} (h : dfa 0 l = some j) : ∀ p ∈ prt l, GW p := by
  intro p hp
  obtain ⟨m, ne⟩ := List.mem_filter.mp hp
  have ne : p ≠ [] := by simpa using ne
  exact (good_parts l [] 0 j h rfl rfl (fun c z => by cases z) p m).resolve_left ne
theorem gw_pl {p : List Nat} (h : GW p) : (∀ c ∈ p, c < 128) ∧ p.length ≤ 12 ∧ p ≠ [] := by
  rcases h with ⟨c, hc, rfl⟩ | ⟨k, k0, hk, e, hw⟩
  · have : ∀ c ∈ onesL, c < 128 := by decide +kernel
    refine ⟨fun d hd => ?_, by simp, by simp⟩
    rw [List.mem_singleton.mp hd]
    exact this c hc
  · refine ⟨dfa_pl p 0 k hk, ?_, fun z => ?_⟩
    · have all : ∀ (l : List Nat) (a b : Nat), a ≤ 12 → dfa a l = some b → b ≤ 12 := by
        intro l
        induction l with
        | nil =>
          intro a b h1 h2
          cases h2
          exact h1
        | cons c l ih =>
          intro a b h1 h2
          unfold dfa at h2
          cases e : dstep a c with
          | none => rw [e] at h2; cases h2
          | some a' =>
            rw [e] at h2
            refine ih a' b ?_ h2
            unfold dstep at e
            split at e
            · cases e
              omega
            · split at e
              · rename_i hr
                cases e
                omega
              · cases e
      have := all p 0 k (by omega) hk
      omega
    · rw [z] at e
      simp at e
      omega
theorem prt_len (l : List Nat) : (prt l).length ≤ 3 * l.length + 1 := by
  have h1 : (mids l).length ≤ 3 * l.length := by
    have : (mids l).length = (spcS onesL l).length := by
      unfold mids
      generalize spcS onesL l = m
      induction m with
      | nil => rfl
      | cons c m ih =>
        unfold replL at ih ⊢
        rw [List.flatMap_cons, List.length_append, ih, List.length_cons]
        split <;> simp <;> omega
    rw [this]
    exact spcS_len onesL l
  have h2 := splitL_sum 32 (mids l)
  have h3 : (prt l).length ≤ (splitL 32 (mids l)).length := List.length_filter_le _ _
  omega
theorem parted_ev (l : List Nat) (h : List MO) (j : Nat) (hd : dfa 0 l = some j) (hl : l.length ≤ 1000000) : fn__law_parted [.str (T l)] h = .ok (.fr (.lst ((prt l).map fun p => W.str (T p)))) h := by
  have nd : ("=;,(){}" : Str).cps.toList = onesL := by decide +kernel
  obtain ⟨s1', e1⟩ := partL_ev onesL [] l .un .un h hl (fun c hc => ⟨fun z => w32.2 (z ▸ hc), fun z => by cases z⟩) (by decide +kernel)
  rw [spcS_nil, List.nil_append] at e1
  have e1' : sParted 0 1 " " " " "=;,(){}" ⟨[.val (.str (T l)), .un, .un], h⟩ = .nx ⟨[.val (.str (T (spcS onesL l))), s1', .un], h⟩ := by
    unfold sParted
    rw [nd]
    exact e1
  have ll := spcS_len onesL l
  have m1 : (mids l).length ≤ 3 * l.length := by
    have : (mids l).length = (spcS onesL l).length := by
      unfold mids
      generalize spcS onesL l = m
      induction m with
      | nil => rfl
      | cons c m ih =>
        unfold replL at ih ⊢
        rw [List.flatMap_cons, List.length_append, ih, List.length_cons]
        split <;> simp <;> omega
    omega
  have e2 : iPart 0 "\n" " " " " ⟨[.val (.str (T (spcS onesL l))), s1', .un], h⟩ = .ok ((splitL 32 (mids l)).map (fun p => W.str (T p)), ⟨[.val (.str (T (spcS onesL l))), s1', .un], h⟩) := by
    have n10 : ("\n" : Str) = T [10] := by decide +kernel
    unfold iPart
    simp only [List.getElem?_cons_zero]
    rw [blank_T, n10, replace_T, if_pos ⟨by rw [T_len, T_len]; show _ + _ * 1 ≤ _; omega, by rw [T_len]; show (mids l).length + 2 ≤ _; omega⟩]
    rw [show replL 10 [32] (spcS onesL l) = mids l from rfl, parts_T, List.map_map]
    rfl
  have e0 : ("" : Str) = T [] := by decide +kernel
  have loop := lcL_toC (own := [2]) (g := gN 2) (c := c1__law_parted) (elt := l2__law_parted)
    (fun ws acc S => ∃ k, k ≤ (splitL 32 (mids l)).length ∧ ws = ((splitL 32 (mids l)).drop k).map (fun p => W.str (T p)) ∧ acc = (((splitL 32 (mids l)).take k).filter fun p => decide (p ≠ [])).map (fun p => W.str (T p)) ∧ S = ⟨[.val (.str (T (spcS onesL l))), s1', .un], h⟩)
    (fun xs S => xs = (prt l).map (fun p => W.str (T p)) ∧ S = ⟨[.val (.str (T (spcS onesL l))), s1', .un], h⟩) (by
      rintro acc S ⟨k, hk, e, ea, es⟩
      have : ((splitL 32 (mids l)).drop k).length = 0 := by
        have := congrArg List.length e
        rw [List.length_map] at this
        exact this.symm
      rw [List.length_drop] at this
      rw [List.take_of_length_le (by omega)] at ea
      exact ⟨ea, es⟩) (by
      rintro w ws acc S ⟨k, hk, e, rfl, rfl⟩
      have lt : k < (splitL 32 (mids l)).length := by
        have := congrArg List.length e
        rw [List.length_map, List.length_drop, List.length_cons] at this
        omega
      rw [List.drop_eq_getElem_cons lt, List.map_cons] at e
      obtain ⟨rfl, rfl⟩ := List.cons.inj e
      have tk : (splitL 32 (mids l)).take (k + 1) = (splitL 32 (mids l)).take k ++ [(splitL 32 (mids l))[k]] := by
        rw [List.take_add_one, List.getElem?_eq_getElem lt]
        rfl
      have gp : (splitL 32 (mids l))[k] = [] ∨ GW (splitL 32 (mids l))[k] := good_parts l [] 0 j hd rfl rfl (fun c z => by cases z) _ (List.getElem_mem lt)
      have hs := splitL_sum 32 (mids l)
      have sm : ((((splitL 32 (mids l)).take k).filter fun p => decide (p ≠ [])).map (fun p => W.str (T p))).length < 16777216 := by
        rw [List.length_map]
        have := List.length_filter_le (fun p => decide (p ≠ [])) ((splitL 32 (mids l)).take k)
        rw [List.length_take] at this
        omega
      refine ⟨sm, ?_⟩
      revert gp tk
      generalize (splitL 32 (mids l))[k] = p
      intro tk gp
      have pp : Pl p := fun c hc => by
        rcases gp with rfl | g
        · cases hc
        · have := (gw_pl g).1 c hc
          omega
      have p0 : Pl [] := fun c hc => by cases hc
      by_cases pe : p = []
      · have q : decide (p = []) = true := decide_eq_true pe
        simp only [sSeq, sSet, sNil, sExp, sRet, sRetN, sCt, sBk, sIf, sAsg, sPar, sAug, sPut, ofG, cC, cNm, cP1, cP2, cP3, cM0, cM1, cNil, cCons, cTup, cLst, cIf, cNot, cAnd, cOr, cCall, cDGet, cDis, cObj, cDis0, cApp, cPopAt, cPop, cSlBo, cLc, tE, tNotT, tAndT, tOrT, tY, aE, aPk, iSeq, ofI, M.bind, M.thn, M.bindN, Fl.thn, Arg.get, R.sl, R.val, stSl, retO, gN, gsN, gsC, gSq, wipeS, mkFn, List.foldr_cons, List.foldr_nil, List.length_cons, List.length_nil, List.map_cons, List.map_nil, List.replicate, List.append_eq, List.cons_append, List.nil_append, List.getElem?_cons_zero, List.getElem?_cons_succ, List.set_cons_zero, List.set_cons_succ, if_true, if_false, Nat.zero_add, Nat.reduceAdd, Nat.reduceSub, Nat.reduceLT, Nat.reduceLeDiff, Nat.reduceEqDiff, Bool.not_true, Bool.not_false, Bool.false_eq_true, Option.map_some, Option.bind_some, and_self, true_and, and_true, reduceCtorEq, EvG, Ev, c1__law_parted, e0, neF, eq_T _ _ _ pp p0, q]
        refine ⟨k + 1, lt, rfl, ?_⟩
        rw [tk, List.filter_append, List.map_append]
        simp [pe]
      · have q : decide (p = []) = false := decide_eq_false pe
        simp only [sSeq, sSet, sNil, sExp, sRet, sRetN, sCt, sBk, sIf, sAsg, sPar, sAug, sPut, ofG, cC, cNm, cP1, cP2, cP3, cM0, cM1, cNil, cCons, cTup, cLst, cIf, cNot, cAnd, cOr, cCall, cDGet, cDis, cObj, cDis0, cApp, cPopAt, cPop, cSlBo, cLc, tE, tNotT, tAndT, tOrT, tY, aE, aPk, iSeq, ofI, M.bind, M.thn, M.bindN, Fl.thn, Arg.get, R.sl, R.val, stSl, retO, gN, gsN, gsC, gSq, wipeS, mkFn, List.foldr_cons, List.foldr_nil, List.length_cons, List.length_nil, List.map_cons, List.map_nil, List.replicate, List.append_eq, List.cons_append, List.nil_append, List.getElem?_cons_zero, List.getElem?_cons_succ, List.set_cons_zero, List.set_cons_succ, if_true, if_false, Nat.zero_add, Nat.reduceAdd, Nat.reduceSub, Nat.reduceLT, Nat.reduceLeDiff, Nat.reduceEqDiff, Bool.not_true, Bool.not_false, Bool.false_eq_true, Option.map_some, Option.bind_some, and_self, true_and, and_true, reduceCtorEq, EvG, Ev, c1__law_parted, l2__law_parted, e0, neF, eq_T _ _ _ pp p0, q]
        refine ⟨k + 1, lt, rfl, ?_⟩
        rw [tk, List.filter_append, List.map_append]
        simp [pe]) _ [] ⟨[.val (.str (T (spcS onesL l))), s1', .un], h⟩ ⟨0, Nat.zero_le _, rfl, rfl, rfl⟩
  obtain ⟨xs, S', e3, rfl, rfl⟩ := loop
  unfold fn__law_parted mkFn b__law_parted
  simp only [List.length_cons, List.length_nil, List.map_cons, List.map_nil, List.replicate, List.append_eq, List.cons_append, List.nil_append, if_true, if_false, Nat.zero_add, Nat.reduceAdd, Nat.reduceSub, Nat.reduceLT, Nat.reduceEqDiff]
  rw [seq_nx e1']
  unfold sRet cLc
  rw [e2]
  dsimp only [M.bind]
  have w0 : wipeS [2] ⟨[.val (.str (T (spcS onesL l))), s1', .un], h⟩ = ⟨[.val (.str (T (spcS onesL l))), s1', .un], h⟩ := rfl
  rw [w0, show ((splitL 32 (mids l)).drop 0).map (fun p => W.str (T p)) = (splitL 32 (mids l)).map (fun p => W.str (T p)) from rfl] at *
  rw [e3]
end W44

set_option Elab.async false
set_option linter.all false
set_option maxRecDepth 100000
set_option maxHeartbeats 1000000
namespace W44
open PySem Mi
theorem letters_lit : W.str "abcdefghijklmnopqrstuvwxyzABCDEFGHIJKLMNOPQRSTUVWXYZ" = .str (T lettersL) := str_T (by decide +kernel)
def digitsL : List Nat := "0123456789_".toList.map Char.toNat
theorem digits_lit : W.str "0123456789_" = .str (T digitsL) := str_T (by decide +kernel)
theorem words_cat : lettersL ++ digitsL = wordsL := by decide +kernel
theorem add_words : addF (.str (T lettersL)) (.str (T digitsL)) = some (.w (.str (T wordsL))) := by
  rw [add_T _ _ (by decide +kernel), words_cat]
theorem ones_lit : W.str "=;,(){} " = .str (T (onesL ++ [32])) := str_T (by decide +kernel)
def ownsT : List Nat := "drop either give given look loop new only or out proc set use".toList.map Char.toNat
theorem owns_lit : W.str "drop either give given look loop new only or out proc set use" = .str (T ownsT) := str_T (by decide +kernel)
theorem owns_split : splitF (.str (T ownsT)) (.str (T [32])) = some (.fr (.lst (ownsS.map W.str))) := by
  dsimp only [splitF]
  rw [if_pos ⟨rfl, by decide +kernel⟩, parts_T]
  rw [show (splitL 32 ownsT).map T = ownsS by decide +kernel]
theorem run_law (l : List Nat) (i : Nat) (c : Nat) (r : List Nat) (tx rw' : W) (ln g : List W) (s8 s9 : Sl) (h : List MO) (hl : l.length ≤ 16777216) (ed : l.drop i = c :: r) :
    sWhile c1__law_words d2__law_words ⟨[.val tx, .val (.str (T lettersL)), .own (.lst g), .own (.lst ln), .val rw', .val (.str (T l)), .val (.int i), .val (.int 1), s8, s9], h⟩ =
      .nx ⟨[.val tx, .val (.str (T lettersL)), .own (.lst g), .own (.lst ln), .val rw', .val (.str (T l)), .val (.int i), .val (.int ((wrun r + 1 : Nat) : Int)), s8, s9], h⟩ := by
  have er : r = l.drop (i + 1) := by
    have : l.drop (i + 1) = (l.drop i).tail := by rw [List.tail_drop]
    rw [this, ed]
    rfl
  have li : i < l.length := by
    have := congrArg List.length ed
    rw [List.length_drop, List.length_cons] at this
    omega
  refine while_to (m := l.length - (i + 1)) (fun m S => ∃ k : Nat, m = l.length - (i + k) ∧ 1 ≤ k ∧ i + k ≤ l.length ∧ S = ⟨[.val tx, .val (.str (T lettersL)), .own (.lst g), .own (.lst ln), .val rw', .val (.str (T l)), .val (.int i), .val (.int k), s8, s9], h⟩ ∧ k + wrun (l.drop (i + k)) = wrun r + 1)
    (fun o => o = .nx ⟨[.val tx, .val (.str (T lettersL)), .own (.lst g), .own (.lst ln), .val rw', .val (.str (T l)), .val (.int i), .val (.int ((wrun r + 1 : Nat) : Int)), s8, s9], h⟩) ?_ ⟨1, rfl, Nat.le_refl _, li, rfl, by rw [er]; omega⟩ (by omega)
  rintro m S ⟨k, rfl, hk, hj, rfl, e⟩
  have ik : (i : Int) + (k : Int) = ((i + k : Nat) : Int) := by omega
  by_cases hlt : i + k < l.length
  · have ej := List.getElem?_eq_getElem hlt
    have ed := List.drop_eq_getElem_cons hlt
    by_cases hin : l[i + k] ∈ wordsL
    · simp only [c1__law_words, sSeq, sSet, sNil, sExp, sRet, sRetN, sCt, sBk, sIf, sAsg, sPar, sAug, sPut, ofG, cC, cNm, cP1, cP2, cP3, cM0, cM1, cNil, cCons, cTup, cLst, cIf, cNot, cAnd, cOr, cCall, cDGet, cDis, cObj, cDis0, cApp, cPopAt, cPop, cSlBo, cLc, tE, tNotT, tAndT, tOrT, tY, aE, aPk, iSeq, ofI, M.bind, M.thn, M.bindN, Fl.thn, Arg.get, R.sl, R.val, stSl, retO, gN, gsN, gsC, gSq, wipeS, mkFn, List.foldr_cons, List.foldr_nil, List.length_cons, List.length_nil, List.map_cons, List.map_nil, List.replicate, List.append_eq, List.cons_append, List.nil_append, List.getElem?_cons_zero, List.getElem?_cons_succ, List.set_cons_zero, List.set_cons_succ, if_true, if_false, Nat.zero_add, Nat.reduceAdd, Nat.reduceSub, Nat.reduceLT, Nat.reduceLeDiff, Nat.reduceEqDiff, Bool.not_true, Bool.not_false, Bool.false_eq_true, Option.map_some, Option.bind_some, and_self, true_and, and_true, reduceCtorEq, add_i, ik, len_T l hl, ltF, cmpI, ix_T l (i + k) _ hl ej, digits_lit, add_words, in_T, Int.ofNat_lt, hlt, hin, decide_true, Ev, d2__law_words, Turn]
      refine ⟨l.length - (i + (k + 1)), by omega, k + 1, rfl, by omega, hlt, rfl, ?_⟩
      rw [ed, wrun_in hin] at e
      rw [show i + (k + 1) = i + k + 1 by omega]
      omega
    · simp only [c1__law_words, sSeq, sSet, sNil, sExp, sRet, sRetN, sCt, sBk, sIf, sAsg, sPar, sAug, sPut, ofG, cC, cNm, cP1, cP2, cP3, cM0, cM1, cNil, cCons, cTup, cLst, cIf, cNot, cAnd, cOr, cCall, cDGet, cDis, cObj, cDis0, cApp, cPopAt, cPop, cSlBo, cLc, tE, tNotT, tAndT, tOrT, tY, aE, aPk, iSeq, ofI, M.bind, M.thn, M.bindN, Fl.thn, Arg.get, R.sl, R.val, stSl, retO, gN, gsN, gsC, gSq, wipeS, mkFn, List.foldr_cons, List.foldr_nil, List.length_cons, List.length_nil, List.map_cons, List.map_nil, List.replicate, List.append_eq, List.cons_append, List.nil_append, List.getElem?_cons_zero, List.getElem?_cons_succ, List.set_cons_zero, List.set_cons_succ, if_true, if_false, Nat.zero_add, Nat.reduceAdd, Nat.reduceSub, Nat.reduceLT, Nat.reduceLeDiff, Nat.reduceEqDiff, Bool.not_true, Bool.not_false, Bool.false_eq_true, Option.map_some, Option.bind_some, and_self, true_and, and_true, reduceCtorEq, add_i, ik, len_T l hl, ltF, cmpI, ix_T l (i + k) _ hl ej, digits_lit, add_words, in_T, Int.ofNat_lt, hlt, hin, decide_true, decide_false, Ev]
      rw [ed, wrun_out hin] at e
      rw [← e] <;> rfl
  · simp only [c1__law_words, sSeq, sSet, sNil, sExp, sRet, sRetN, sCt, sBk, sIf, sAsg, sPar, sAug, sPut, ofG, cC, cNm, cP1, cP2, cP3, cM0, cM1, cNil, cCons, cTup, cLst, cIf, cNot, cAnd, cOr, cCall, cDGet, cDis, cObj, cDis0, cApp, cPopAt, cPop, cSlBo, cLc, tE, tNotT, tAndT, tOrT, tY, aE, aPk, iSeq, ofI, M.bind, M.thn, M.bindN, Fl.thn, Arg.get, R.sl, R.val, stSl, retO, gN, gsN, gsC, gSq, wipeS, mkFn, List.foldr_cons, List.foldr_nil, List.length_cons, List.length_nil, List.map_cons, List.map_nil, List.replicate, List.append_eq, List.cons_append, List.nil_append, List.getElem?_cons_zero, List.getElem?_cons_succ, List.set_cons_zero, List.set_cons_succ, if_true, if_false, Nat.zero_add, Nat.reduceAdd, Nat.reduceSub, Nat.reduceLT, Nat.reduceLeDiff, Nat.reduceEqDiff, Bool.not_true, Bool.not_false, Bool.false_eq_true, Option.map_some, Option.bind_some, and_self, true_and, and_true, reduceCtorEq, add_i, ik, len_T l hl, ltF, cmpI, Int.ofNat_lt, hlt, decide_false, Ev]
    rw [List.drop_eq_nil_of_le (by omega), wrun_nil] at e
    rw [← e] <;> rfl
theorem law_line (l : List Nat) (row : Nat) (tx : W) (ln : List W) (f : List W) (h : List MO) (s7 s8 s9 : Sl) (hp : Pl l) (hl : l.length ≤ 16777216) (hf : f.length + l.length < 16777216) :
    ∃ S', S'.h = h ∧ sWhile c3__law_words d4__law_words ⟨[.val tx, .val (.str (T lettersL)), .own (.lst f), .own (.lst ln), .val (.int row), .val (.str (T l)), .val (.int ((0 : Nat) : Int)), s7, s8, s9], h⟩ =
      (if (lexL row 0 l).2 = true then .rt (.fr (.lst (f ++ (lexL row 0 l).1))) S' else .nx S') ∧ ((lexL row 0 l).2 = false → ∃ (j : Nat) (t7 t8 t9 : Sl), S' = ⟨[.val tx, .val (.str (T lettersL)), .own (.lst (f ++ (lexL row 0 l).1)), .own (.lst ln), .val (.int row), .val (.str (T l)), .val (.int j), t7, t8, t9], h⟩) := by
  refine while_to (m := l.length - 0) (fun m S => ∃ (j : Nat) (g : List W) (t7 t8 t9 : Sl), m = l.length - j ∧ j ≤ l.length ∧ S = ⟨[.val tx, .val (.str (T lettersL)), .own (.lst g), .own (.lst ln), .val (.int row), .val (.str (T l)), .val (.int j), t7, t8, t9], h⟩ ∧
      g ++ (lexL row j (l.drop j)).1 = f ++ (lexL row 0 l).1 ∧ (lexL row j (l.drop j)).2 = (lexL row 0 l).2 ∧ g.length + (l.length - j) ≤ f.length + l.length)
    (fun o => ∃ S', S'.h = h ∧ o = (if (lexL row 0 l).2 = true then .rt (.fr (.lst (f ++ (lexL row 0 l).1))) S' else .nx S') ∧ ((lexL row 0 l).2 = false → ∃ (j : Nat) (t7 t8 t9 : Sl), S' = ⟨[.val tx, .val (.str (T lettersL)), .own (.lst (f ++ (lexL row 0 l).1)), .own (.lst ln), .val (.int row), .val (.str (T l)), .val (.int j), t7, t8, t9], h⟩))
    ?_ ⟨0, f, s7, s8, s9, rfl, Nat.zero_le _, rfl, rfl, rfl, by omega⟩ (by omega)
  rintro m S ⟨j, g, t7, t8, t9, rfl, hj, rfl, e1, e2, e3⟩
  have done : ∀ (q : (lexL row j (l.drop j)) = ([], false)), ∃ S' : Sta, S'.h = h ∧ Fl.nx ⟨[.val tx, .val (.str (T lettersL)), .own (.lst g), .own (.lst ln), .val (.int row), .val (.str (T l)), .val (.int j), t7, t8, t9], h⟩ = (if (lexL row 0 l).2 = true then .rt (.fr (.lst (f ++ (lexL row 0 l).1))) S' else .nx S') ∧
      ((lexL row 0 l).2 = false → ∃ (j : Nat) (t7 t8 t9 : Sl), S' = ⟨[.val tx, .val (.str (T lettersL)), .own (.lst (f ++ (lexL row 0 l).1)), .own (.lst ln), .val (.int row), .val (.str (T l)), .val (.int j), t7, t8, t9], h⟩) := fun q => by
    rw [q] at e1 e2
    have e1' : g = f ++ (lexL row 0 l).1 := by simpa using e1
    refine ⟨⟨[.val tx, .val (.str (T lettersL)), .own (.lst g), .own (.lst ln), .val (.int row), .val (.str (T l)), .val (.int j), t7, t8, t9], h⟩, rfl, ?_, fun _ => ⟨j, t7, t8, t9, ?_⟩⟩
    · rw [← e2]
      simp
    · rw [← e1']
  by_cases lt : j < l.length
  · have ed := List.drop_eq_getElem_cons lt
    have ej := List.getElem?_eq_getElem lt
    have hc : l[j] < 1114112 := hp _ (List.getElem_mem lt)
    revert ed ej hc
    generalize l[j] = c
    intro ed ej hc
    have p1 : Pl [c] := fun d hd => by
      rw [List.mem_singleton.mp hd]
      exact hc
    have s35 : (W.str "#") = .str (T [35]) := str_T (by decide +kernel)
    have s32 : (W.str " ") = .str (T [32]) := str_T (by decide +kernel)
    have p35 : Pl [35] := by decide
    have p32 : Pl [32] := by decide
    by_cases q35 : c = 35
    · have q : decide ([c] = [35]) = true := by simp [q35]
      simp only [c3__law_words, sSeq, sSet, sNil, sExp, sRet, sRetN, sCt, sBk, sIf, sAsg, sPar, sAug, sPut, ofG, cC, cNm, cP1, cP2, cP3, cM0, cM1, cNil, cCons, cTup, cLst, cIf, cNot, cAnd, cOr, cCall, cDGet, cDis, cObj, cDis0, cApp, cPopAt, cPop, cSlBo, cLc, tE, tNotT, tAndT, tOrT, tY, aE, aPk, iSeq, ofI, M.bind, M.thn, M.bindN, Fl.thn, Arg.get, R.sl, R.val, stSl, retO, gN, gsN, gsC, gSq, wipeS, mkFn, List.foldr_cons, List.foldr_nil, List.length_cons, List.length_nil, List.map_cons, List.map_nil, List.replicate, List.append_eq, List.cons_append, List.nil_append, List.getElem?_cons_zero, List.getElem?_cons_succ, List.set_cons_zero, List.set_cons_succ, if_true, if_false, Nat.zero_add, Nat.reduceAdd, Nat.reduceSub, Nat.reduceLT, Nat.reduceLeDiff, Nat.reduceEqDiff, Bool.not_true, Bool.not_false, Bool.false_eq_true, Option.map_some, Option.bind_some, and_self, true_and, and_true, reduceCtorEq, len_T l hl, ltF, neF, cmpI, ix_T l j c hl ej, s35, eq_T _ _ _ p1 p35, q, Int.ofNat_lt, lt, decide_true, decide_false, Ev]
      refine done ?_
      rw [ed, lexL, if_pos q35]
    · have q : decide ([c] = [35]) = false := by simp [q35]
      have gl : g.length < 16777216 := by omega
      have gl' : g.length + 1 ≤ 16777216 := by omega
      have j1 : (j : Int) + 1 = ((j + 1 : Nat) : Int) := by omega
      have room : j + (wrun (l.drop (j + 1)) + 1) ≤ l.length := by
        have := wrun_le (l.drop (j + 1))
        rw [List.length_drop] at this
        omega
      simp only [c3__law_words, sSeq, sSet, sNil, sExp, sRet, sRetN, sCt, sBk, sIf, sAsg, sPar, sAug, sPut, ofG, cC, cNm, cP1, cP2, cP3, cM0, cM1, cNil, cCons, cTup, cLst, cIf, cNot, cAnd, cOr, cCall, cDGet, cDis, cObj, cDis0, cApp, cPopAt, cPop, cSlBo, cLc, tE, tNotT, tAndT, tOrT, tY, aE, aPk, iSeq, ofI, M.bind, M.thn, M.bindN, Fl.thn, Arg.get, R.sl, R.val, stSl, retO, gN, gsN, gsC, gSq, wipeS, mkFn, List.foldr_cons, List.foldr_nil, List.length_cons, List.length_nil, List.map_cons, List.map_nil, List.replicate, List.append_eq, List.cons_append, List.nil_append, List.getElem?_cons_zero, List.getElem?_cons_succ, List.set_cons_zero, List.set_cons_succ, if_true, if_false, Nat.zero_add, Nat.reduceAdd, Nat.reduceSub, Nat.reduceLT, Nat.reduceLeDiff, Nat.reduceEqDiff, Bool.not_true, Bool.not_false, Bool.false_eq_true, Option.map_some, Option.bind_some, and_self, true_and, and_true, reduceCtorEq, len_T l hl, ltF, neF, cmpI, ix_T l j c hl ej, s35, eq_T _ _ _ p1 p35, q, Int.ofNat_lt, lt, decide_true, decide_false, Ev]
      by_cases q32 : c = 32
      · have n1 : decide (c ∈ lettersL) = false := by rw [q32]; decide +kernel
        have n2 : decide (c ∈ onesL ++ [32]) = true := by rw [q32]; decide +kernel
        have q : decide ([c] = [32]) = true := by simp [q32]
        rw [ed, lexL, if_neg q35, if_pos q32] at e1 e2
        simp only [d4__law_words, sSeq, sSet, sNil, sExp, sRet, sRetN, sCt, sBk, sIf, sAsg, sPar, sAug, sPut, ofG, cC, cNm, cP1, cP2, cP3, cM0, cM1, cNil, cCons, cTup, cLst, cIf, cNot, cAnd, cOr, cCall, cDGet, cDis, cObj, cDis0, cApp, cPopAt, cPop, cSlBo, cLc, tE, tNotT, tAndT, tOrT, tY, aE, aPk, iSeq, ofI, M.bind, M.thn, M.bindN, Fl.thn, Arg.get, R.sl, R.val, stSl, retO, gN, gsN, gsC, gSq, wipeS, mkFn, List.foldr_cons, List.foldr_nil, List.length_cons, List.length_nil, List.map_cons, List.map_nil, List.replicate, List.append_eq, List.cons_append, List.nil_append, List.getElem?_cons_zero, List.getElem?_cons_succ, List.set_cons_zero, List.set_cons_succ, if_true, if_false, Nat.zero_add, Nat.reduceAdd, Nat.reduceSub, Nat.reduceLT, Nat.reduceLeDiff, Nat.reduceEqDiff, Bool.not_true, Bool.not_false, Bool.false_eq_true, Option.map_some, Option.bind_some, and_self, true_and, and_true, reduceCtorEq, ix_T l j c hl ej, in_T, n1, n2, ones_lit, neF, s32, eq_T _ _ _ p1 p32, q, add_i, j1, Turn]
        exact ⟨l.length - (j + 1), by omega, j + 1, g, _, _, _, rfl, lt, rfl, e1, e2, by omega⟩
      · have q : decide ([c] = [32]) = false := by simp [q32]
        rw [ed, lexL, if_neg q35, if_neg q32] at e1 e2
        by_cases lc : c ∈ lettersL
        · rw [if_pos lc] at e1 e2
          have n1 : decide (c ∈ lettersL) = true := decide_eq_true lc
          have jw : (j : Int) + ((wrun (l.drop (j + 1)) + 1 : Nat) : Int) = ((j + (wrun (l.drop (j + 1)) + 1) : Nat) : Int) := by omega
          have sl : slF (some (j : Int)) (some ((j + (wrun (l.drop (j + 1)) + 1) : Nat) : Int)) (.str (T l)) = some (.w (.str (T (c :: (l.drop (j + 1)).take (wrun (l.drop (j + 1))))))) := by
            rw [slBo_T l j _ hl room (Nat.le_add_right _ _), ed, show j + (wrun (l.drop (j + 1)) + 1) - j = wrun (l.drop (j + 1)) + 1 by omega, List.take_succ_cons]
          have dd : l.drop (j + (wrun (l.drop (j + 1)) + 1)) = (l.drop (j + 1)).drop (wrun (l.drop (j + 1))) := by
            rw [List.drop_drop]
            congr 1
            omega
          by_cases o : T (c :: (l.drop (j + 1)).take (wrun (l.drop (j + 1)))) ∈ ownsS
          · have kd : kindOf (T (c :: (l.drop (j + 1)).take (wrun (l.drop (j + 1))))) = "own" := if_pos o
            by_cases lg : 12 < wrun (l.drop (j + 1)) + 1
            · rw [if_pos lg] at e1 e2
              have lg' : decide ((12 : Int) < ((wrun (l.drop (j + 1)) + 1 : Nat) : Int)) = true := decide_eq_true (by omega)
              simp only [d4__law_words, sSeq, sSet, sNil, sExp, sRet, sRetN, sCt, sBk, sIf, sAsg, sPar, sAug, sPut, ofG, cC, cNm, cP1, cP2, cP3, cM0, cM1, cNil, cCons, cTup, cLst, cIf, cNot, cAnd, cOr, cCall, cDGet, cDis, cObj, cDis0, cApp, cPopAt, cPop, cSlBo, cLc, tE, tNotT, tAndT, tOrT, tY, aE, aPk, iSeq, ofI, M.bind, M.thn, M.bindN, Fl.thn, Arg.get, R.sl, R.val, stSl, retO, gN, gsN, gsC, gSq, wipeS, mkFn, List.foldr_cons, List.foldr_nil, List.length_cons, List.length_nil, List.map_cons, List.map_nil, List.replicate, List.append_eq, List.cons_append, List.nil_append, List.getElem?_cons_zero, List.getElem?_cons_succ, List.set_cons_zero, List.set_cons_succ, if_true, if_false, Nat.zero_add, Nat.reduceAdd, Nat.reduceSub, Nat.reduceLT, Nat.reduceLeDiff, Nat.reduceEqDiff, Bool.not_true, Bool.not_false, Bool.false_eq_true, Option.map_some, Option.bind_some, and_self, true_and, and_true, reduceCtorEq, ix_T l j c hl ej, in_T, n1, run_law l j c _ tx _ ln g _ _ h hl ed, add_i, jw, slBoF, sl, owns_lit, s32, owns_split, in_strsL, gtF, cmpI, lg', o, decide_true, addF, gl', Turn]
              refine Exists.intro ?gw0 ⟨?ga0, ?gb0, ?gc0⟩
              case gb0 =>
                rw [← e2, if_pos rfl, ← e1]
                rfl
              case ga0 => rfl
              case gc0 =>
                intro z
                rw [← e2] at z
                cases z
            · rw [if_neg lg, kd] at e1 e2
              have lg' : decide ((12 : Int) < ((wrun (l.drop (j + 1)) + 1 : Nat) : Int)) = false := decide_eq_false (by omega)
              simp only [d4__law_words, sSeq, sSet, sNil, sExp, sRet, sRetN, sCt, sBk, sIf, sAsg, sPar, sAug, sPut, ofG, cC, cNm, cP1, cP2, cP3, cM0, cM1, cNil, cCons, cTup, cLst, cIf, cNot, cAnd, cOr, cCall, cDGet, cDis, cObj, cDis0, cApp, cPopAt, cPop, cSlBo, cLc, tE, tNotT, tAndT, tOrT, tY, aE, aPk, iSeq, ofI, M.bind, M.thn, M.bindN, Fl.thn, Arg.get, R.sl, R.val, stSl, retO, gN, gsN, gsC, gSq, wipeS, mkFn, List.foldr_cons, List.foldr_nil, List.length_cons, List.length_nil, List.map_cons, List.map_nil, List.replicate, List.append_eq, List.cons_append, List.nil_append, List.getElem?_cons_zero, List.getElem?_cons_succ, List.set_cons_zero, List.set_cons_succ, if_true, if_false, Nat.zero_add, Nat.reduceAdd, Nat.reduceSub, Nat.reduceLT, Nat.reduceLeDiff, Nat.reduceEqDiff, Bool.not_true, Bool.not_false, Bool.false_eq_true, Option.map_some, Option.bind_some, and_self, true_and, and_true, reduceCtorEq, ix_T l j c hl ej, in_T, n1, run_law l j c _ tx _ ln g _ _ h hl ed, add_i, jw, slBoF, sl, owns_lit, s32, owns_split, in_strsL, gtF, cmpI, lg', o, decide_true, gl, neF, eq_T _ _ _ p1 p32, q, Turn]
              refine ⟨l.length - (j + (wrun (l.drop (j + 1)) + 1)), by omega, j + (wrun (l.drop (j + 1)) + 1), g ++ [tok "own" (T (c :: (l.drop (j + 1)).take (wrun (l.drop (j + 1))))) row j], _, _, _, rfl, room, rfl, ?_, ?_, ?_⟩
              · rw [← e1, dd, List.append_assoc]
                rfl
              · rw [← e2, dd]
              · rw [List.length_append, List.length_singleton]
                omega
          · have kd : kindOf (T (c :: (l.drop (j + 1)).take (wrun (l.drop (j + 1))))) = "name" := if_neg o
            by_cases lg : 12 < wrun (l.drop (j + 1)) + 1
            · rw [if_pos lg] at e1 e2
              have lg' : decide ((12 : Int) < ((wrun (l.drop (j + 1)) + 1 : Nat) : Int)) = true := decide_eq_true (by omega)
              simp only [d4__law_words, sSeq, sSet, sNil, sExp, sRet, sRetN, sCt, sBk, sIf, sAsg, sPar, sAug, sPut, ofG, cC, cNm, cP1, cP2, cP3, cM0, cM1, cNil, cCons, cTup, cLst, cIf, cNot, cAnd, cOr, cCall, cDGet, cDis, cObj, cDis0, cApp, cPopAt, cPop, cSlBo, cLc, tE, tNotT, tAndT, tOrT, tY, aE, aPk, iSeq, ofI, M.bind, M.thn, M.bindN, Fl.thn, Arg.get, R.sl, R.val, stSl, retO, gN, gsN, gsC, gSq, wipeS, mkFn, List.foldr_cons, List.foldr_nil, List.length_cons, List.length_nil, List.map_cons, List.map_nil, List.replicate, List.append_eq, List.cons_append, List.nil_append, List.getElem?_cons_zero, List.getElem?_cons_succ, List.set_cons_zero, List.set_cons_succ, if_true, if_false, Nat.zero_add, Nat.reduceAdd, Nat.reduceSub, Nat.reduceLT, Nat.reduceLeDiff, Nat.reduceEqDiff, Bool.not_true, Bool.not_false, Bool.false_eq_true, Option.map_some, Option.bind_some, and_self, true_and, and_true, reduceCtorEq, ix_T l j c hl ej, in_T, n1, run_law l j c _ tx _ ln g _ _ h hl ed, add_i, jw, slBoF, sl, owns_lit, s32, owns_split, in_strsL, gtF, cmpI, lg', o, decide_false, addF, gl', Turn]
              refine Exists.intro ?gw1 ⟨?ga1, ?gb1, ?gc1⟩
              case gb1 =>
                rw [← e2, if_pos rfl, ← e1]
                rfl
              case ga1 => rfl
              case gc1 =>
                intro z
                rw [← e2] at z
                cases z
            · rw [if_neg lg, kd] at e1 e2
              have lg' : decide ((12 : Int) < ((wrun (l.drop (j + 1)) + 1 : Nat) : Int)) = false := decide_eq_false (by omega)
              simp only [d4__law_words, sSeq, sSet, sNil, sExp, sRet, sRetN, sCt, sBk, sIf, sAsg, sPar, sAug, sPut, ofG, cC, cNm, cP1, cP2, cP3, cM0, cM1, cNil, cCons, cTup, cLst, cIf, cNot, cAnd, cOr, cCall, cDGet, cDis, cObj, cDis0, cApp, cPopAt, cPop, cSlBo, cLc, tE, tNotT, tAndT, tOrT, tY, aE, aPk, iSeq, ofI, M.bind, M.thn, M.bindN, Fl.thn, Arg.get, R.sl, R.val, stSl, retO, gN, gsN, gsC, gSq, wipeS, mkFn, List.foldr_cons, List.foldr_nil, List.length_cons, List.length_nil, List.map_cons, List.map_nil, List.replicate, List.append_eq, List.cons_append, List.nil_append, List.getElem?_cons_zero, List.getElem?_cons_succ, List.set_cons_zero, List.set_cons_succ, if_true, if_false, Nat.zero_add, Nat.reduceAdd, Nat.reduceSub, Nat.reduceLT, Nat.reduceLeDiff, Nat.reduceEqDiff, Bool.not_true, Bool.not_false, Bool.false_eq_true, Option.map_some, Option.bind_some, and_self, true_and, and_true, reduceCtorEq, ix_T l j c hl ej, in_T, n1, run_law l j c _ tx _ ln g _ _ h hl ed, add_i, jw, slBoF, sl, owns_lit, s32, owns_split, in_strsL, gtF, cmpI, lg', o, decide_false, gl, neF, eq_T _ _ _ p1 p32, q, Turn]
              refine ⟨l.length - (j + (wrun (l.drop (j + 1)) + 1)), by omega, j + (wrun (l.drop (j + 1)) + 1), g ++ [tok "name" (T (c :: (l.drop (j + 1)).take (wrun (l.drop (j + 1))))) row j], _, _, _, rfl, room, rfl, ?_, ?_, ?_⟩
              · rw [← e1, dd, List.append_assoc]
                rfl
              · rw [← e2, dd]
              · rw [List.length_append, List.length_singleton]
                omega
        · rw [if_neg lc] at e1 e2
          have n1 : decide (c ∈ lettersL) = false := decide_eq_false lc
          have sl : slF (some (j : Int)) (some ((j + 1 : Nat) : Int)) (.str (T l)) = some (.w (.str (T [c]))) := by
            rw [slBo_T l j (j + 1) hl lt (Nat.le_succ j), ed, show j + 1 - j = 1 by omega]
            rfl
          by_cases oc : c ∈ onesL
          · rw [if_pos oc] at e1 e2
            have n2 : decide (c ∈ onesL ++ [32]) = true := decide_eq_true (List.mem_append_left _ oc)
            simp only [d4__law_words, sSeq, sSet, sNil, sExp, sRet, sRetN, sCt, sBk, sIf, sAsg, sPar, sAug, sPut, ofG, cC, cNm, cP1, cP2, cP3, cM0, cM1, cNil, cCons, cTup, cLst, cIf, cNot, cAnd, cOr, cCall, cDGet, cDis, cObj, cDis0, cApp, cPopAt, cPop, cSlBo, cLc, tE, tNotT, tAndT, tOrT, tY, aE, aPk, iSeq, ofI, M.bind, M.thn, M.bindN, Fl.thn, Arg.get, R.sl, R.val, stSl, retO, gN, gsN, gsC, gSq, wipeS, mkFn, List.foldr_cons, List.foldr_nil, List.length_cons, List.length_nil, List.map_cons, List.map_nil, List.replicate, List.append_eq, List.cons_append, List.nil_append, List.getElem?_cons_zero, List.getElem?_cons_succ, List.set_cons_zero, List.set_cons_succ, if_true, if_false, Nat.zero_add, Nat.reduceAdd, Nat.reduceSub, Nat.reduceLT, Nat.reduceLeDiff, Nat.reduceEqDiff, Bool.not_true, Bool.not_false, Bool.false_eq_true, Option.map_some, Option.bind_some, and_self, true_and, and_true, reduceCtorEq, ix_T l j c hl ej, in_T, n1, n2, ones_lit, neF, s32, eq_T _ _ _ p1 p32, q, add_i, j1, slBoF, sl, gl, Turn]
            refine ⟨l.length - (j + 1), by omega, j + 1, g ++ [tok "sign" (T [c]) row j], _, _, _, rfl, lt, rfl, ?_, ?_, ?_⟩
            · rw [← e1, List.append_assoc]
              rfl
            · rw [← e2]
            · rw [List.length_append, List.length_singleton]
              omega
          · rw [if_neg oc] at e1 e2
            have n2 : decide (c ∈ onesL ++ [32]) = false := decide_eq_false fun z => by
              rcases List.mem_append.mp z with z | z
              · exact oc z
              · exact q32 (List.mem_singleton.mp z)
            simp only [d4__law_words, sSeq, sSet, sNil, sExp, sRet, sRetN, sCt, sBk, sIf, sAsg, sPar, sAug, sPut, ofG, cC, cNm, cP1, cP2, cP3, cM0, cM1, cNil, cCons, cTup, cLst, cIf, cNot, cAnd, cOr, cCall, cDGet, cDis, cObj, cDis0, cApp, cPopAt, cPop, cSlBo, cLc, tE, tNotT, tAndT, tOrT, tY, aE, aPk, iSeq, ofI, M.bind, M.thn, M.bindN, Fl.thn, Arg.get, R.sl, R.val, stSl, retO, gN, gsN, gsC, gSq, wipeS, mkFn, List.foldr_cons, List.foldr_nil, List.length_cons, List.length_nil, List.map_cons, List.map_nil, List.replicate, List.append_eq, List.cons_append, List.nil_append, List.getElem?_cons_zero, List.getElem?_cons_succ, List.set_cons_zero, List.set_cons_succ, if_true, if_false, Nat.zero_add, Nat.reduceAdd, Nat.reduceSub, Nat.reduceLT, Nat.reduceLeDiff, Nat.reduceEqDiff, Bool.not_true, Bool.not_false, Bool.false_eq_true, Option.map_some, Option.bind_some, and_self, true_and, and_true, reduceCtorEq, ix_T l j c hl ej, in_T, n1, n2, ones_lit, addF, gl', Turn]
            refine Exists.intro ?gw2 ⟨?ga2, ?gb2, ?gc2⟩
            case gb2 =>
              rw [← e2, if_pos rfl, ← e1]
              rfl
            case ga2 => rfl
            case gc2 =>
              intro z
              rw [← e2] at z
              cases z
  · have ed : l.drop j = [] := List.drop_eq_nil_of_le (by omega)
    simp only [c3__law_words, sSeq, sSet, sNil, sExp, sRet, sRetN, sCt, sBk, sIf, sAsg, sPar, sAug, sPut, ofG, cC, cNm, cP1, cP2, cP3, cM0, cM1, cNil, cCons, cTup, cLst, cIf, cNot, cAnd, cOr, cCall, cDGet, cDis, cObj, cDis0, cApp, cPopAt, cPop, cSlBo, cLc, tE, tNotT, tAndT, tOrT, tY, aE, aPk, iSeq, ofI, M.bind, M.thn, M.bindN, Fl.thn, Arg.get, R.sl, R.val, stSl, retO, gN, gsN, gsC, gSq, wipeS, mkFn, List.foldr_cons, List.foldr_nil, List.length_cons, List.length_nil, List.map_cons, List.map_nil, List.replicate, List.append_eq, List.cons_append, List.nil_append, List.getElem?_cons_zero, List.getElem?_cons_succ, List.set_cons_zero, List.set_cons_succ, if_true, if_false, Nat.zero_add, Nat.reduceAdd, Nat.reduceSub, Nat.reduceLT, Nat.reduceLeDiff, Nat.reduceEqDiff, Bool.not_true, Bool.not_false, Bool.false_eq_true, Option.map_some, Option.bind_some, and_self, true_and, and_true, reduceCtorEq, len_T l hl, ltF, cmpI, Int.ofNat_lt, lt, decide_false, Ev]
    refine done ?_
    rw [ed, lexL_nil]
theorem law_words_ev (l : List Nat) (h : List MO) (hp : Pl l) (hl : l.length + 2 ≤ 16777216) : ∃ r, r.val = .lst (lexT l) ∧ fn__law_words [.str (T l)] h = .ok r h := by
  have hs := splitL_sum 10 l
  have h1 : 0 < (splitL 10 l).length := List.length_pos_iff.mpr (splitL_ne 10 l)
  have s10 : (W.str "\n") = .str (T [10]) := str_T (by decide +kernel)
  have sp : splitF (.str (T l)) (.str (T [10])) = some (.fr (.lst (linesW l))) := by
    dsimp only [splitF]
    rw [if_pos ⟨rfl, by rw [T_len]; exact hl⟩, parts_T, List.map_map] <;> rfl
  have ll : lenF (.lst (linesW l)) = some (.w (.int (splitL 10 l).length)) := by
    simp [lenF, linesW]
  have loop : ∃ S' : Sta, S'.h = h ∧ sFor (iRng1' (cP1 lenF (aPk 3))) (gN 4) d5__law_words ⟨[.val (.str (T l)), .val (.str (T lettersL)), .own (.lst []), .own (.lst (linesW l)), .un, .un, .un, .un, .un, .un], h⟩ =
      (if (lexR 0 (splitL 10 l)).2 = true then .rt (.fr (.lst (lexR 0 (splitL 10 l)).1)) S' else .nx S') ∧ ((lexR 0 (splitL 10 l)).2 = false → ∃ s3 s4 s5 s6 s7 s8 : Sl, S' = ⟨[.val (.str (T l)), .val (.str (T lettersL)), .own (.lst (lexR 0 (splitL 10 l)).1), .own (.lst (linesW l)), s3, s4, s5, s6, s7, s8], h⟩) := by
    rw [sFor_rng (splitL 10 l).length (by omega) (cP1 lenF (aPk 3)) ⟨[.val (.str (T l)), .val (.str (T lettersL)), .own (.lst []), .own (.lst (linesW l)), .un, .un, .un, .un, .un, .un], h⟩ ⟨[.val (.str (T l)), .val (.str (T lettersL)), .own (.lst []), .own (.lst (linesW l)), .un, .un, .un, .un, .un, .un], h⟩ (.w (.int (splitL 10 l).length)) (by simp only [sSeq, sSet, sNil, sExp, sRet, sRetN, sCt, sBk, sIf, sAsg, sPar, sAug, sPut, ofG, cC, cNm, cP1, cP2, cP3, cM0, cM1, cNil, cCons, cTup, cLst, cIf, cNot, cAnd, cOr, cCall, cDGet, cDis, cObj, cDis0, cApp, cPopAt, cPop, cSlBo, cLc, tE, tNotT, tAndT, tOrT, tY, aE, aPk, iSeq, ofI, M.bind, M.thn, M.bindN, Fl.thn, Arg.get, R.sl, R.val, stSl, retO, gN, gsN, gsC, gSq, wipeS, mkFn, List.foldr_cons, List.foldr_nil, List.length_cons, List.length_nil, List.map_cons, List.map_nil, List.replicate, List.append_eq, List.cons_append, List.nil_append, List.getElem?_cons_zero, List.getElem?_cons_succ, List.set_cons_zero, List.set_cons_succ, if_true, if_false, Nat.zero_add, Nat.reduceAdd, Nat.reduceSub, Nat.reduceLT, Nat.reduceLeDiff, Nat.reduceEqDiff, Bool.not_true, Bool.not_false, Bool.false_eq_true, Option.map_some, Option.bind_some, and_self, true_and, and_true, reduceCtorEq, ll]) rfl]
    refine for_rng (splitL 10 l).length (fun k S => ∃ (f : List W) (s3 s4 s5 s6 s7 s8 : Sl), S = ⟨[.val (.str (T l)), .val (.str (T lettersL)), .own (.lst f), .own (.lst (linesW l)), s3, s4, s5, s6, s7, s8], h⟩ ∧
        f ++ (lexR k ((splitL 10 l).drop k)).1 = (lexR 0 (splitL 10 l)).1 ∧ (lexR k ((splitL 10 l).drop k)).2 = (lexR 0 (splitL 10 l)).2 ∧ f.length + (((splitL 10 l).drop k).map List.length).sum ≤ l.length)
      (fun o => ∃ S' : Sta, S'.h = h ∧ o = (if (lexR 0 (splitL 10 l)).2 = true then .rt (.fr (.lst (lexR 0 (splitL 10 l)).1)) S' else .nx S') ∧ ((lexR 0 (splitL 10 l)).2 = false → ∃ s3 s4 s5 s6 s7 s8 : Sl, S' = ⟨[.val (.str (T l)), .val (.str (T lettersL)), .own (.lst (lexR 0 (splitL 10 l)).1), .own (.lst (linesW l)), s3, s4, s5, s6, s7, s8], h⟩))
      ?_ ?_ _ ⟨[], _, _, _, _, _, _, rfl, rfl, rfl, by simp; omega⟩
    · rintro S ⟨f, s3, s4, s5, s6, s7, s8, rfl, e1, e2, e3⟩
      rw [List.drop_length] at e1 e2
      have ef : f = (lexR 0 (splitL 10 l)).1 := by rw [← e1]; simp [lexR]
      refine ⟨⟨[.val (.str (T l)), .val (.str (T lettersL)), .own (.lst f), .own (.lst (linesW l)), s3, s4, s5, s6, s7, s8], h⟩, rfl, ?_, fun _ => ⟨s3, s4, s5, s6, s7, s8, by rw [ef]⟩⟩
      rw [← e2]
      rfl
    · rintro k S lt ⟨f, s3, s4, s5, s6, s7, s8, rfl, e1, e2, e3⟩
      have ek := List.getElem?_eq_getElem lt
      have ed := List.drop_eq_getElem_cons lt
      have pm : (splitL 10 l)[k] ∈ splitL 10 l := List.getElem_mem lt
      revert ek ed pm
      generalize (splitL 10 l)[k] = p
      intro ek ed pm
      have pl : p.length ≤ l.length := by
        have := len_le_sum pm
        omega
      have pp : Pl p := fun c hc => hp c (splitL_sub pm c hc)
      rw [drop_sum ek] at e3
      rw [ed] at e1 e2
      simp only [sSeq, sSet, sNil, sExp, sRet, sRetN, sCt, sBk, sIf, sAsg, sPar, sAug, sPut, ofG, cC, cNm, cP1, cP2, cP3, cM0, cM1, cNil, cCons, cTup, cLst, cIf, cNot, cAnd, cOr, cCall, cDGet, cDis, cObj, cDis0, cApp, cPopAt, cPop, cSlBo, cLc, tE, tNotT, tAndT, tOrT, tY, aE, aPk, iSeq, ofI, M.bind, M.thn, M.bindN, Fl.thn, Arg.get, R.sl, R.val, stSl, retO, gN, gsN, gsC, gSq, wipeS, mkFn, List.foldr_cons, List.foldr_nil, List.length_cons, List.length_nil, List.map_cons, List.map_nil, List.replicate, List.append_eq, List.cons_append, List.nil_append, List.getElem?_cons_zero, List.getElem?_cons_succ, List.set_cons_zero, List.set_cons_succ, if_true, if_false, Nat.zero_add, Nat.reduceAdd, Nat.reduceSub, Nat.reduceLT, Nat.reduceLeDiff, Nat.reduceEqDiff, Bool.not_true, Bool.not_false, Bool.false_eq_true, Option.map_some, Option.bind_some, and_self, true_and, and_true, reduceCtorEq, EvG, d5__law_words, linesW, at_ix _ k p ek]
      obtain ⟨S', hh, er, ek2⟩ := law_line p k (.str (T l)) (linesW l) f h s6 s7 s8 pp (by omega) (by omega)
      unfold linesW at er ek2
      rw [show ((0 : Nat) : Int) = 0 from rfl] at er
      rw [er]
      rw [lexR_cons] at e1 e2
      cases hb : (lexL k 0 p).2 with
      | true =>
        rw [hb] at e1 e2
        simp only [if_true] at e1 e2 ⊢
        refine ⟨S', hh, ?_, fun z => ?_⟩
        · rw [← e2, if_pos rfl, ← e1]
        · rw [← e2] at z
          cases z
      | false =>
        rw [hb] at e1 e2
        obtain ⟨j, t6, t7, t8, rfl⟩ := ek2 hb
        simp only [Bool.false_eq_true, if_false] at e1 e2 ⊢
        refine ⟨_, _, _, _, _, _, _, rfl, ?_, e2, ?_⟩
        · rw [List.append_assoc]
          exact e1
        · have := lexL_len k 0 p
          rw [List.length_append]
          omega
  obtain ⟨S', hh, er, ek⟩ := loop
  rw [show fn__law_words = mkFn 1 10 b__law_words from rfl]
  simp only [b__law_words, sSeq, sSet, sNil, sExp, sRet, sRetN, sCt, sBk, sIf, sAsg, sPar, sAug, sPut, ofG, cC, cNm, cP1, cP2, cP3, cM0, cM1, cNil, cCons, cTup, cLst, cIf, cNot, cAnd, cOr, cCall, cDGet, cDis, cObj, cDis0, cApp, cPopAt, cPop, cSlBo, cLc, tE, tNotT, tAndT, tOrT, tY, aE, aPk, iSeq, ofI, M.bind, M.thn, M.bindN, Fl.thn, Arg.get, R.sl, R.val, stSl, retO, gN, gsN, gsC, gSq, wipeS, mkFn, List.foldr_cons, List.foldr_nil, List.length_cons, List.length_nil, List.map_cons, List.map_nil, List.replicate, List.append_eq, List.cons_append, List.nil_append, List.getElem?_cons_zero, List.getElem?_cons_succ, List.set_cons_zero, List.set_cons_succ, if_true, if_false, Nat.zero_add, Nat.reduceAdd, Nat.reduceSub, Nat.reduceLT, Nat.reduceLeDiff, Nat.reduceEqDiff, Bool.not_true, Bool.not_false, Bool.false_eq_true, Option.map_some, Option.bind_some, and_self, true_and, and_true, reduceCtorEq, letters_lit, s10, sp]
  rw [er]
  have fl : (lexR 0 (splitL 10 l)).1.length ≤ l.length := lexR_len l
  cases hb : (lexR 0 (splitL 10 l)).2 with
  | true =>
    simp only [sSeq, sSet, sNil, sExp, sRet, sRetN, sCt, sBk, sIf, sAsg, sPar, sAug, sPut, ofG, cC, cNm, cP1, cP2, cP3, cM0, cM1, cNil, cCons, cTup, cLst, cIf, cNot, cAnd, cOr, cCall, cDGet, cDis, cObj, cDis0, cApp, cPopAt, cPop, cSlBo, cLc, tE, tNotT, tAndT, tOrT, tY, aE, aPk, iSeq, ofI, M.bind, M.thn, M.bindN, Fl.thn, Arg.get, R.sl, R.val, stSl, retO, gN, gsN, gsC, gSq, wipeS, mkFn, List.foldr_cons, List.foldr_nil, List.length_cons, List.length_nil, List.map_cons, List.map_nil, List.replicate, List.append_eq, List.cons_append, List.nil_append, List.getElem?_cons_zero, List.getElem?_cons_succ, List.set_cons_zero, List.set_cons_succ, if_true, if_false, Nat.zero_add, Nat.reduceAdd, Nat.reduceSub, Nat.reduceLT, Nat.reduceLeDiff, Nat.reduceEqDiff, Bool.not_true, Bool.not_false, Bool.false_eq_true, Option.map_some, Option.bind_some, and_self, true_and, and_true, reduceCtorEq]
    refine ⟨.fr (.lst (lexT l)), rfl, ?_⟩
    rw [hh, lexT, hb, if_pos rfl, List.append_nil]
  | false =>
    obtain ⟨s3, s4, s5, s6, s7, s8, rfl⟩ := ek hb
    have lst : ixF (.lst (linesW l)) (.int (-1)) = some (.w (.str (T ((splitL 10 l).getLast (splitL_ne 10 l))))) := last_ix (splitL 10 l) (splitL_ne 10 l)
    have lm : ((splitL 10 l).getLast (splitL_ne 10 l)).length ≤ 16777216 := by
      have := len_le_sum (List.getLast_mem (splitL_ne 10 l))
      omega
    have fl' : (lexR 0 (splitL 10 l)).1.length + 1 ≤ 16777216 := by omega
    have sb : ((splitL 10 l).length : Int) - 1 = (((splitL 10 l).length - 1 : Nat) : Int) := by omega
    simp only [sSeq, sSet, sNil, sExp, sRet, sRetN, sCt, sBk, sIf, sAsg, sPar, sAug, sPut, ofG, cC, cNm, cP1, cP2, cP3, cM0, cM1, cNil, cCons, cTup, cLst, cIf, cNot, cAnd, cOr, cCall, cDGet, cDis, cObj, cDis0, cApp, cPopAt, cPop, cSlBo, cLc, tE, tNotT, tAndT, tOrT, tY, aE, aPk, iSeq, ofI, M.bind, M.thn, M.bindN, Fl.thn, Arg.get, R.sl, R.val, stSl, retO, gN, gsN, gsC, gSq, wipeS, mkFn, List.foldr_cons, List.foldr_nil, List.length_cons, List.length_nil, List.map_cons, List.map_nil, List.replicate, List.append_eq, List.cons_append, List.nil_append, List.getElem?_cons_zero, List.getElem?_cons_succ, List.set_cons_zero, List.set_cons_succ, if_true, if_false, Nat.zero_add, Nat.reduceAdd, Nat.reduceSub, Nat.reduceLT, Nat.reduceLeDiff, Nat.reduceEqDiff, Bool.not_true, Bool.not_false, Bool.false_eq_true, Option.map_some, Option.bind_some, and_self, true_and, and_true, reduceCtorEq, ll, subF, negF, lst, len_T _ lm, addF, fl']
    refine ⟨.fr (.lst (lexT l)), rfl, ?_⟩
    rw [lexT, hb, sb]
    rfl
end W44

set_option Elab.async false
set_option linter.all false
set_option maxRecDepth 100000
set_option maxHeartbeats 1000000
namespace W44
open PySem Mi
/-! ### with comments -/
def cstep (k c : Nat) : Option Nat := if k = 13 then (if c = 10 then some 0 else some 13) else if c = 35 then some 13 else dstep k c
def cdfa (k : Nat) : List Nat → Option Nat
  | [] => some k
  | c :: l => (cstep k c).bind fun k' => cdfa k' l
theorem cdfa_app : ∀ (a b : List Nat) (k : Nat), cdfa k (a ++ b) = (cdfa k a).bind fun k' => cdfa k' b
  | [], b, k => rfl
  | c :: a, b, k => by
    show (cstep k c).bind (fun k' => cdfa k' (a ++ b)) = ((cstep k c).bind fun k' => cdfa k' a).bind fun k' => cdfa k' b
    cases cstep k c with
    | none => rfl
    | some k' => exact cdfa_app a b k'
theorem n35 : 35 ∉ wordsL ∧ 35 ∉ onesL ∧ 10 ∉ wordsL ∧ 10 ∉ onesL ∧ (∀ c ∈ wordsL, c ∉ onesL) := by decide +kernel
theorem cdfa_run : ∀ (r : List Nat) (k j : Nat), 0 < k → k ≤ 12 → cdfa k r = some j → k + wrun r ≤ 12 ∧ ∃ j', cdfa 0 (r.drop (wrun r)) = some j'
  | [], k, j, h0, h, e => ⟨by rw [wrun_nil]; omega, 0, rfl⟩
  | c :: r, k, j, h0, h, e => by
    by_cases hc : c ∈ wordsL
    · have ne : c ≠ 35 := fun z => n35.1 (z ▸ hc)
      have n32 : c ≠ 32 := fun z => w32.1 (z ▸ hc)
      have n10 : c ≠ 10 := fun z => n35.2.2.1 (z ▸ hc)
      have no : c ∉ onesL := n35.2.2.2.2 c hc
      have k13 : k ≠ 13 := by omega
      unfold cdfa cstep dstep at e
      rw [if_neg k13, if_neg ne, if_neg (by simp [n32, n10, no])] at e
      by_cases k12 : k < 12
      · rw [if_pos ⟨hc, .inl h0, k12⟩] at e
        obtain ⟨a, b⟩ := cdfa_run r (k + 1) j (by omega) (by omega) e
        rw [wrun_in hc]
        exact ⟨by omega, by simpa using b⟩
      · rw [if_neg (by omega)] at e
        cases e
    · rw [wrun_out hc, List.drop_zero]
      refine ⟨by omega, ?_⟩
      have k13 : k ≠ 13 := by omega
      have s : cstep k c = cstep 0 c := by
        have z13 : (0 : Nat) ≠ 13 := by decide
        unfold cstep
        rw [if_neg k13, if_neg z13]
        unfold dstep
        simp [hc]
      refine ⟨j, ?_⟩
      unfold cdfa at e ⊢
      rw [← s]
      exact e
theorem lexL_good (row : Nat) : ∀ (n : Nat) (l : List Nat) (col j : Nat), l.length ≤ n → 10 ∉ l → cdfa 0 l = some j → (lexL row col l).2 = false := by
  intro n
  induction n with
  | zero =>
    intro l col j h _ _
    have e : l = [] := List.length_eq_zero_iff.mp (by omega)
    rw [e, lexL_nil]
  | succ n ih =>
    intro l col j h h10 e
    cases l with
    | nil => rw [lexL_nil]
    | cons c r =>
      rw [List.length_cons] at h
      have r10 : 10 ∉ r := fun z => h10 (List.mem_cons_of_mem _ z)
      have c10 : c ≠ 10 := fun z => h10 (by simp [z])
      rw [lexL]
      by_cases c35 : c = 35
      · rw [if_pos c35]
      rw [if_neg c35]
      unfold cdfa cstep at e
      rw [if_neg (by decide), if_neg c35] at e
      unfold dstep at e
      by_cases c32 : c = 32
      · rw [if_pos c32]
        rw [if_pos (.inl c32)] at e
        exact ih r (col + 1) j (by omega) r10 e
      rw [if_neg c32]
      by_cases cl : c ∈ lettersL
      · have cw := letter_sub cl
        rw [if_neg (by simp [c32, c10, n35.2.2.2.2 c cw]), if_pos ⟨cw, .inr cl, by decide⟩] at e
        obtain ⟨a, j', b⟩ := cdfa_run r 1 j (by decide) (by decide) e
        rw [if_pos cl, if_neg (by omega)]
        exact ih (r.drop (wrun r)) _ j' (by rw [List.length_drop]; omega) (fun z => r10 (List.mem_of_mem_drop z)) b
      rw [if_neg cl]
      by_cases co : c ∈ onesL
      · rw [if_pos co]
        rw [if_pos (.inr (.inr co))] at e
        exact ih r (col + 1) j (by omega) r10 e
      · rw [if_neg (by simp [c32, c10, co]), if_neg (by simp [cl])] at e
        cases e
theorem cdfa_lines : ∀ (l : List Nat) (k j : Nat), cdfa k l = some j → ∃ p ps, splitL 10 l = p :: ps ∧ (∃ j', cdfa k p = some j') ∧ ∀ q ∈ ps, ∃ j', cdfa 0 q = some j'
  | [], k, j, e => ⟨[], [], rfl, ⟨k, rfl⟩, fun q hq => by cases hq⟩
  | c :: l, k, j, e => by
    unfold cdfa at e
    cases es : cstep k c with
    | none => rw [es] at e; cases e
    | some k' =>
      rw [es] at e
      obtain ⟨p, ps, e1, ⟨j1, e2⟩, e3⟩ := cdfa_lines l k' j e
      unfold splitL
      by_cases h : c = 10
      · have k0 : k' = 0 := by
          have c35 : c ≠ 35 := by omega
          unfold cstep at es
          by_cases k13 : k = 13
          · rw [if_pos k13, if_pos h] at es
            cases es
            rfl
          · rw [if_neg k13, if_neg c35] at es
            unfold dstep at es
            rw [if_pos (.inr (.inl h))] at es
            cases es
            rfl
        subst k0
        rw [if_pos h]
        refine ⟨[], splitL 10 l, rfl, ⟨k, rfl⟩, fun q hq => ?_⟩
        rw [e1] at hq
        rcases List.mem_cons.mp hq with rfl | hq
        · exact ⟨j1, e2⟩
        · exact e3 q hq
      · rw [if_neg h, e1]
        refine ⟨c :: p, ps, rfl, ⟨j1, ?_⟩, e3⟩
        unfold cdfa
        rw [es]
        exact e2
theorem lexT_good {l : List Nat} {j : Nat} (e : cdfa 0 l = some j) : ∃ ts a b, lexT l = ts ++ [tok "end" "" a b] := by
  obtain ⟨p, ps, e1, e2, e3⟩ := cdfa_lines l 0 j e
  have fr : ∀ (ls : List (List Nat)) (row : Nat), (∀ q ∈ ls, 10 ∉ q ∧ ∃ j', cdfa 0 q = some j') → (lexR row ls).2 = false := by
    intro ls
    induction ls with
    | nil => exact fun row _ => rfl
    | cons q ls ih =>
      intro row h
      obtain ⟨a, j', b⟩ := h q (by simp)
      have g := lexL_good row q.length q 0 j' (Nat.le_refl _) a b
      rw [lexR_cons, g]
      exact ih (row + 1) fun q' h' => h q' (List.mem_cons_of_mem _ h')
  have free : ∀ q ∈ splitL 10 l, 10 ∉ q := by
    have : ∀ (l : List Nat), ∀ q ∈ splitL 10 l, 10 ∉ q := by
      intro l
      induction l with
      | nil =>
        intro q hq
        simp [splitL] at hq
        simp [hq]
      | cons c l ih =>
        intro q hq
        unfold splitL at hq
        by_cases h : c = 10
        · rw [if_pos h] at hq
          rcases List.mem_cons.mp hq with rfl | hq
          · simp
          · exact ih q hq
        · rw [if_neg h] at hq
          cases e : splitL 10 l with
          | nil => exact absurd e (splitL_ne 10 l)
          | cons p ps =>
            rw [e] at hq ih
            rcases List.mem_cons.mp hq with rfl | hq
            · intro z
              rcases List.mem_cons.mp z with z | z
              · exact h z.symm
              · exact ih p (by simp) z
            · exact ih q (List.mem_cons_of_mem _ hq)
    exact this l
  have g := fr (splitL 10 l) 0 fun q hq => ⟨free q hq, by
    rw [e1] at hq
    rcases List.mem_cons.mp hq with rfl | hq
    · exact e2
    · exact e3 q hq⟩
  refine ⟨(lexR 0 (splitL 10 l)).1, (splitL 10 l).length - 1, ((splitL 10 l).getLast (splitL_ne 10 l)).length, ?_⟩
  unfold lexT
  rw [g]
  rfl
/-! ### loose texts -/
theorem alnum_tab : ∀ c ∈ wordsL ++ onesL, Txt.isalnum (T [c]) = decide (c ∈ wordsL ∧ c ≠ 95) := by decide +kernel
theorem us_T : ("_" : Str) = T [95] := by decide +kernel
theorem chk {f : CE} {S : Sta} {c : Nat} (e : f S = .ok (.w (.str (T [c])), S)) (hc : c ∈ wordsL ∨ c ∈ onesL) : cOr (cM0 alnumF (aE f)) (cP2 eqF (aE f) (aE (cC (.str "_")))) S = .ok (.w (.bl (decide (c ∈ wordsL))), S) := by
  have a := alnum_tab c (List.mem_append.mpr hc)
  have pc : Pl [c] := fun d hd => by
    rw [List.mem_singleton.mp hd]
    have : ∀ c ∈ wordsL ++ onesL, c < 1114112 := by decide +kernel
    exact this c (List.mem_append.mpr hc)
  have p95 : Pl [95] := by decide
  by_cases c95 : c = 95
  · have w95 : decide (c ∈ wordsL) = true := by rw [c95]; decide +kernel
    have q : decide (c ∈ wordsL ∧ c ≠ 95) = false := by simp [c95]
    have q2 : decide ([c] = [95]) = true := by simp [c95]
    rw [q] at a
    simp only [sSeq, sSet, sNil, sExp, sRet, sRetN, sCt, sBk, sIf, sAsg, sPar, sAug, sPut, ofG, cC, cNm, cP1, cP2, cP3, cM0, cM1, cNil, cCons, cTup, cLst, cIf, cNot, cAnd, cOr, cCall, cDGet, cDis, cObj, cDis0, cApp, cPopAt, cPop, cSlBo, cLc, tE, tNotT, tAndT, tOrT, tY, aE, aPk, iSeq, ofI, M.bind, M.thn, M.bindN, Fl.thn, Arg.get, R.sl, R.val, stSl, retO, gN, gsN, gsC, gSq, wipeS, mkFn, List.foldr_cons, List.foldr_nil, List.length_cons, List.length_nil, List.map_cons, List.map_nil, List.replicate, List.append_eq, List.cons_append, List.nil_append, List.getElem?_cons_zero, List.getElem?_cons_succ, List.set_cons_zero, List.set_cons_succ, if_true, if_false, Nat.zero_add, Nat.reduceAdd, Nat.reduceSub, Nat.reduceLT, Nat.reduceLeDiff, Nat.reduceEqDiff, Bool.not_true, Bool.not_false, Bool.false_eq_true, Option.map_some, Option.bind_some, and_self, true_and, and_true, reduceCtorEq, e, alnumF, a, eqF, us_T, eq_T _ _ _ pc p95, q2, w95]
  · by_cases hw : c ∈ wordsL
    · have q : decide (c ∈ wordsL ∧ c ≠ 95) = true := by simp [hw, c95]
      rw [q] at a
      simp only [sSeq, sSet, sNil, sExp, sRet, sRetN, sCt, sBk, sIf, sAsg, sPar, sAug, sPut, ofG, cC, cNm, cP1, cP2, cP3, cM0, cM1, cNil, cCons, cTup, cLst, cIf, cNot, cAnd, cOr, cCall, cDGet, cDis, cObj, cDis0, cApp, cPopAt, cPop, cSlBo, cLc, tE, tNotT, tAndT, tOrT, tY, aE, aPk, iSeq, ofI, M.bind, M.thn, M.bindN, Fl.thn, Arg.get, R.sl, R.val, stSl, retO, gN, gsN, gsC, gSq, wipeS, mkFn, List.foldr_cons, List.foldr_nil, List.length_cons, List.length_nil, List.map_cons, List.map_nil, List.replicate, List.append_eq, List.cons_append, List.nil_append, List.getElem?_cons_zero, List.getElem?_cons_succ, List.set_cons_zero, List.set_cons_succ, if_true, if_false, Nat.zero_add, Nat.reduceAdd, Nat.reduceSub, Nat.reduceLT, Nat.reduceLeDiff, Nat.reduceEqDiff, Bool.not_true, Bool.not_false, Bool.false_eq_true, Option.map_some, Option.bind_some, and_self, true_and, and_true, reduceCtorEq, e, alnumF, a, decide_eq_true hw]
    · have q : decide (c ∈ wordsL ∧ c ≠ 95) = false := by simp [hw]
      have q2 : decide ([c] = [95]) = false := by simp [c95]
      rw [q] at a
      simp only [sSeq, sSet, sNil, sExp, sRet, sRetN, sCt, sBk, sIf, sAsg, sPar, sAug, sPut, ofG, cC, cNm, cP1, cP2, cP3, cM0, cM1, cNil, cCons, cTup, cLst, cIf, cNot, cAnd, cOr, cCall, cDGet, cDis, cObj, cDis0, cApp, cPopAt, cPop, cSlBo, cLc, tE, tNotT, tAndT, tOrT, tY, aE, aPk, iSeq, ofI, M.bind, M.thn, M.bindN, Fl.thn, Arg.get, R.sl, R.val, stSl, retO, gN, gsN, gsC, gSq, wipeS, mkFn, List.foldr_cons, List.foldr_nil, List.length_cons, List.length_nil, List.map_cons, List.map_nil, List.replicate, List.append_eq, List.cons_append, List.nil_append, List.getElem?_cons_zero, List.getElem?_cons_succ, List.set_cons_zero, List.set_cons_succ, if_true, if_false, Nat.zero_add, Nat.reduceAdd, Nat.reduceSub, Nat.reduceLT, Nat.reduceLeDiff, Nat.reduceEqDiff, Bool.not_true, Bool.not_false, Bool.false_eq_true, Option.map_some, Option.bind_some, and_self, true_and, and_true, reduceCtorEq, e, alnumF, a, eqF, us_T, eq_T _ _ _ pc p95, q2, decide_eq_false hw]
/-- what stands behind the last word -/
def Beh (last : List Nat) (k : Nat) : Prop := k ≤ 12 ∧ ((last = [] ∨ ∃ c ∈ onesL, last = [c]) → k = 0)
def gapsS : List Str := ["\n", " # x = new;\n", "  ", "\n\n  ", " #\n", " "]
theorem gaps_to0 : ∀ g ∈ gapsS, cdfa 0 (sl g) = some 0 ∧ g.length ≤ 13 ∧ ((match sl g with | c :: _ => decide (c = 32 ∨ c = 10) | [] => false) = true) := by decide +kernel
theorem gaps_to {g : Str} (h : g ∈ gapsS) {k : Nat} (hk : k ≤ 12) : cdfa k (sl g) = some 0 := by
  obtain ⟨a, _, b⟩ := gaps_to0 g h
  cases e : sl g with
  | nil => rw [e] at b; cases b
  | cons c r =>
    rw [e] at a b
    have b : c = 32 ∨ c = 10 := of_decide_eq_true b
    have k13 : k ≠ 13 := by omega
    have z13 : (0 : Nat) ≠ 13 := by decide
    have c35 : c ≠ 35 := by omega
    unfold cdfa cstep dstep at a ⊢
    rw [if_neg z13, if_neg c35, if_pos (by rcases b with h | h <;> simp [h])] at a
    rw [if_neg k13, if_neg c35, if_pos (by rcases b with h | h <;> simp [h])]
    exact a
theorem dfa_cdfa : ∀ (l : List Nat) (k j : Nat), k ≤ 12 → dfa k l = some j → cdfa k l = some j ∧ j ≤ 12
  | [], k, j, hk, e => by
    cases e
    exact ⟨rfl, hk⟩
  | c :: l, k, j, hk, e => by
    unfold dfa at e
    cases es : dstep k c with
    | none => rw [es] at e; cases e
    | some k' =>
      rw [es] at e
      have hk' : k' ≤ 12 ∧ c ≠ 35 := by
        unfold dstep at es
        split at es
        · rename_i hr
          cases es
          refine ⟨by omega, fun z => ?_⟩
          rcases hr with h | h | h
          · omega
          · omega
          · exact n35.2.1 (z ▸ h)
        · split at es
          · rename_i hr
            cases es
            exact ⟨by omega, fun z => n35.1 (z ▸ hr.1)⟩
          · cases es
      obtain ⟨a, b⟩ := dfa_cdfa l k' j hk'.1 e
      refine ⟨?_, b⟩
      have k13 : k ≠ 13 := by omega
      unfold cdfa cstep
      rw [if_neg k13, if_neg hk'.2, es]
      exact a
/-- a good word behind state 0; a sign behind any state -/
theorem gw_next {w : List Nat} (h : GW w) : ∃ k, cdfa 0 w = some k ∧ Beh w k := by
  rcases h with ⟨c, hc, rfl⟩ | ⟨k, k0, hk, e, hw⟩
  · have d : dfa 0 [c] = some 0 := by
      unfold dfa dstep
      rw [if_pos (.inr (.inr hc))]
      rfl
    exact ⟨0, (dfa_cdfa [c] 0 0 (by omega) d).1, by omega, fun _ => rfl⟩
  · obtain ⟨a, b⟩ := dfa_cdfa w 0 k (by omega) hk
    refine ⟨k, a, b, fun z => ?_⟩
    rcases z with rfl | ⟨c, hc, rfl⟩
    · simp at e
      omega
    · exact absurd hc (n35.2.2.2.2 c (hw c (by simp)))
theorem sign_next {c k : Nat} (hc : c ∈ onesL) (hk : k ≤ 12) : cdfa k [c] = some 0 := by
  have k13 : k ≠ 13 := by omega
  have c35 : c ≠ 35 := fun z => n35.2.1 (z ▸ hc)
  unfold cdfa cstep dstep
  rw [if_neg k13, if_neg c35, if_pos (.inr (.inr hc))]
  rfl
end W44

set_option Elab.async false
set_option linter.all false
set_option maxRecDepth 100000
set_option maxHeartbeats 1000000
namespace W44
open PySem Mi
theorem gw_char {w : List Nat} (h : GW w) {c : Nat} (hc : c ∈ w) : c ∈ wordsL ∨ c ∈ onesL := by
  rcases h with ⟨d, hd, rfl⟩ | ⟨k, _, _, _, hw⟩
  · rw [List.mem_singleton.mp hc]
    exact .inr hd
  · exact .inl (hw c hc)
theorem gw_sign {w : List Nat} (h : GW w) {c : Nat} (hc : c ∈ w) (n : c ∉ wordsL) : ∃ d ∈ onesL, w = [d] := by
  rcases h with h | ⟨k, _, _, _, hw⟩
  · exact h
  · exact absurd (hw c hc) n
theorem gap_ev (c : Nat) (h : List MO) (q : Pen c h) (hn : c + 2 < 1000000000000) (last w : List Nat) (hl : last = [] ∨ GW last) (hw : GW w) : ∃ (g : Str) (h' : List MO), fn__law_gap [.obj 0, .str (T last), .str (T w)] h = .ok (.w (.str g)) h' ∧ Pen (c + 2) h' ∧ (g.length ≤ 13 ∧ g ∈ ("" : Str) :: gapsS) ∧
    ∀ k, Beh last k → ∃ k', cdfa k (sl g ++ w) = some k' ∧ Beh w k' := by
  have e0 : ("" : Str) = T [] := by decide +kernel
  have p0 : Pl [] := fun c hc => by cases hc
  have close : ∃ b : Bool, (b = true → last = [] ∨ (∃ c ∈ onesL, last = [c]) ∨ ∃ c ∈ onesL, w = [c]) ∧
      sSet 3 (cOr (cP2 eqF (aPk 1) (aE (cC (.str "")))) (cOr (cNot (cOr (cM0 alnumF (aE (cP2 ixF (aPk 1) (aE (cP1 negF (aE (cC (.int 1)))))))) (cP2 eqF (aE (cP2 ixF (aPk 1) (aE (cP1 negF (aE (cC (.int 1))))))) (aE (cC (.str "_")))))) (cNot (cOr (cM0 alnumF (aE (cP2 ixF (aPk 2) (aE (cC (.int 0)))))) (cP2 eqF (aE (cP2 ixF (aPk 2) (aE (cC (.int 0))))) (aE (cC (.str "_"))))))))
        ⟨[.val (.obj 0), .val (.str (T last)), .val (.str (T w)), .un, .un], h⟩ = .nx ⟨[.val (.obj 0), .val (.str (T last)), .val (.str (T w)), .val (.bl b), .un], h⟩ := by
    rcases hl with rfl | gl
    · have qt : decide (([] : List Nat) = []) = true := rfl
      refine ⟨true, fun _ => .inl rfl, ?_⟩
      simp only [sSeq, sSet, sNil, sExp, sRet, sRetN, sCt, sBk, sIf, sAsg, sPar, sAug, sPut, ofG, cC, cNm, cP1, cP2, cP3, cM0, cM1, cNil, cCons, cTup, cLst, cIf, cNot, cAnd, cOr, cCall, cDGet, cDis, cObj, cDis0, cApp, cPopAt, cPop, cSlBo, cLc, tE, tNotT, tAndT, tOrT, tY, aE, aPk, iSeq, ofI, M.bind, M.thn, M.bindN, Fl.thn, Arg.get, R.sl, R.val, stSl, retO, gN, gsN, gsC, gSq, wipeS, mkFn, List.foldr_cons, List.foldr_nil, List.length_cons, List.length_nil, List.map_cons, List.map_nil, List.replicate, List.append_eq, List.cons_append, List.nil_append, List.getElem?_cons_zero, List.getElem?_cons_succ, List.set_cons_zero, List.set_cons_succ, if_true, if_false, Nat.zero_add, Nat.reduceAdd, Nat.reduceSub, Nat.reduceLT, Nat.reduceLeDiff, Nat.reduceEqDiff, Bool.not_true, Bool.not_false, Bool.false_eq_true, Option.map_some, Option.bind_some, and_self, true_and, and_true, reduceCtorEq, e0, eqF, eq_T _ _ _ p0 p0, qt, decide_true]
    · obtain ⟨pl, l12, lne⟩ := gw_pl gl
      obtain ⟨wl, w12, wne⟩ := gw_pl hw
      have pL : Pl last := fun d hd => by have := pl d hd; omega
      obtain ⟨a, d, rfl⟩ : ∃ a d, last = a ++ [d] := ⟨last.dropLast, last.getLast lne, (List.dropLast_concat_getLast lne).symm⟩
      obtain ⟨f, r, rfl⟩ : ∃ f r, w = f :: r := by
        cases w with
        | nil => exact absurd rfl wne
        | cons f r => exact ⟨f, r, rfl⟩
      have md : d ∈ a ++ [d] := by simp
      have mf : f ∈ f :: r := by simp
      have qf : decide (a ++ [d] = []) = false := by simp
      have ed : cP2 ixF (aPk 1) (aE (cP1 negF (aE (cC (.int 1))))) ⟨[.val (.obj 0), .val (.str (T (a ++ [d]))), .val (.str (T (f :: r))), .un, .un], h⟩ = .ok (.w (.str (T [d])), ⟨[.val (.obj 0), .val (.str (T (a ++ [d]))), .val (.str (T (f :: r))), .un, .un], h⟩) := by
        simp only [sSeq, sSet, sNil, sExp, sRet, sRetN, sCt, sBk, sIf, sAsg, sPar, sAug, sPut, ofG, cC, cNm, cP1, cP2, cP3, cM0, cM1, cNil, cCons, cTup, cLst, cIf, cNot, cAnd, cOr, cCall, cDGet, cDis, cObj, cDis0, cApp, cPopAt, cPop, cSlBo, cLc, tE, tNotT, tAndT, tOrT, tY, aE, aPk, iSeq, ofI, M.bind, M.thn, M.bindN, Fl.thn, Arg.get, R.sl, R.val, stSl, retO, gN, gsN, gsC, gSq, wipeS, mkFn, List.foldr_cons, List.foldr_nil, List.length_cons, List.length_nil, List.map_cons, List.map_nil, List.replicate, List.append_eq, List.cons_append, List.nil_append, List.getElem?_cons_zero, List.getElem?_cons_succ, List.set_cons_zero, List.set_cons_succ, if_true, if_false, Nat.zero_add, Nat.reduceAdd, Nat.reduceSub, Nat.reduceLT, Nat.reduceLeDiff, Nat.reduceEqDiff, Bool.not_true, Bool.not_false, Bool.false_eq_true, Option.map_some, Option.bind_some, and_self, true_and, and_true, reduceCtorEq, negF, ix_last a d (by omega)]
      have ef : cP2 ixF (aPk 2) (aE (cC (.int 0))) ⟨[.val (.obj 0), .val (.str (T (a ++ [d]))), .val (.str (T (f :: r))), .un, .un], h⟩ = .ok (.w (.str (T [f])), ⟨[.val (.obj 0), .val (.str (T (a ++ [d]))), .val (.str (T (f :: r))), .un, .un], h⟩) := by
        have i0 : ixF (.str (T (f :: r))) (.int 0) = some (.w (.str (T [f]))) := ix_T (f :: r) 0 f (by omega) rfl
        simp only [sSeq, sSet, sNil, sExp, sRet, sRetN, sCt, sBk, sIf, sAsg, sPar, sAug, sPut, ofG, cC, cNm, cP1, cP2, cP3, cM0, cM1, cNil, cCons, cTup, cLst, cIf, cNot, cAnd, cOr, cCall, cDGet, cDis, cObj, cDis0, cApp, cPopAt, cPop, cSlBo, cLc, tE, tNotT, tAndT, tOrT, tY, aE, aPk, iSeq, ofI, M.bind, M.thn, M.bindN, Fl.thn, Arg.get, R.sl, R.val, stSl, retO, gN, gsN, gsC, gSq, wipeS, mkFn, List.foldr_cons, List.foldr_nil, List.length_cons, List.length_nil, List.map_cons, List.map_nil, List.replicate, List.append_eq, List.cons_append, List.nil_append, List.getElem?_cons_zero, List.getElem?_cons_succ, List.set_cons_zero, List.set_cons_succ, if_true, if_false, Nat.zero_add, Nat.reduceAdd, Nat.reduceSub, Nat.reduceLT, Nat.reduceLeDiff, Nat.reduceEqDiff, Bool.not_true, Bool.not_false, Bool.false_eq_true, Option.map_some, Option.bind_some, and_self, true_and, and_true, reduceCtorEq, i0]
      have c1 := chk ed (gw_char gl md)
      have c2 := chk ef (gw_char hw mf)
      revert c1 c2
      generalize cOr (cM0 alnumF (aE (cP2 ixF (aPk 1) (aE (cP1 negF (aE (cC (.int 1)))))))) (cP2 eqF (aE (cP2 ixF (aPk 1) (aE (cP1 negF (aE (cC (.int 1))))))) (aE (cC (.str "_")))) = C1
      generalize cOr (cM0 alnumF (aE (cP2 ixF (aPk 2) (aE (cC (.int 0)))))) (cP2 eqF (aE (cP2 ixF (aPk 2) (aE (cC (.int 0))))) (aE (cC (.str "_")))) = C2
      intro c1 c2
      by_cases dw : d ∈ wordsL
      · by_cases fw : f ∈ wordsL
        · refine ⟨false, (fun z => by cases z), ?_⟩
          simp only [sSeq, sSet, sNil, sExp, sRet, sRetN, sCt, sBk, sIf, sAsg, sPar, sAug, sPut, ofG, cC, cNm, cP1, cP2, cP3, cM0, cM1, cNil, cCons, cTup, cLst, cIf, cNot, cAnd, cOr, cCall, cDGet, cDis, cObj, cDis0, cApp, cPopAt, cPop, cSlBo, cLc, tE, tNotT, tAndT, tOrT, tY, aE, aPk, iSeq, ofI, M.bind, M.thn, M.bindN, Fl.thn, Arg.get, R.sl, R.val, stSl, retO, gN, gsN, gsC, gSq, wipeS, mkFn, List.foldr_cons, List.foldr_nil, List.length_cons, List.length_nil, List.map_cons, List.map_nil, List.replicate, List.append_eq, List.cons_append, List.nil_append, List.getElem?_cons_zero, List.getElem?_cons_succ, List.set_cons_zero, List.set_cons_succ, if_true, if_false, Nat.zero_add, Nat.reduceAdd, Nat.reduceSub, Nat.reduceLT, Nat.reduceLeDiff, Nat.reduceEqDiff, Bool.not_true, Bool.not_false, Bool.false_eq_true, Option.map_some, Option.bind_some, and_self, true_and, and_true, reduceCtorEq, e0, eqF, eq_T _ _ _ pL p0, qf, c1, c2, decide_eq_true dw, decide_eq_true fw]
        · refine ⟨true, fun z => .inr (.inr (gw_sign hw mf fw)), ?_⟩
          simp only [sSeq, sSet, sNil, sExp, sRet, sRetN, sCt, sBk, sIf, sAsg, sPar, sAug, sPut, ofG, cC, cNm, cP1, cP2, cP3, cM0, cM1, cNil, cCons, cTup, cLst, cIf, cNot, cAnd, cOr, cCall, cDGet, cDis, cObj, cDis0, cApp, cPopAt, cPop, cSlBo, cLc, tE, tNotT, tAndT, tOrT, tY, aE, aPk, iSeq, ofI, M.bind, M.thn, M.bindN, Fl.thn, Arg.get, R.sl, R.val, stSl, retO, gN, gsN, gsC, gSq, wipeS, mkFn, List.foldr_cons, List.foldr_nil, List.length_cons, List.length_nil, List.map_cons, List.map_nil, List.replicate, List.append_eq, List.cons_append, List.nil_append, List.getElem?_cons_zero, List.getElem?_cons_succ, List.set_cons_zero, List.set_cons_succ, if_true, if_false, Nat.zero_add, Nat.reduceAdd, Nat.reduceSub, Nat.reduceLT, Nat.reduceLeDiff, Nat.reduceEqDiff, Bool.not_true, Bool.not_false, Bool.false_eq_true, Option.map_some, Option.bind_some, and_self, true_and, and_true, reduceCtorEq, e0, eqF, eq_T _ _ _ pL p0, qf, c1, c2, decide_eq_true dw, decide_eq_false fw]
      · refine ⟨true, fun z => .inr (.inl (gw_sign gl md dw)), ?_⟩
        simp only [sSeq, sSet, sNil, sExp, sRet, sRetN, sCt, sBk, sIf, sAsg, sPar, sAug, sPut, ofG, cC, cNm, cP1, cP2, cP3, cM0, cM1, cNil, cCons, cTup, cLst, cIf, cNot, cAnd, cOr, cCall, cDGet, cDis, cObj, cDis0, cApp, cPopAt, cPop, cSlBo, cLc, tE, tNotT, tAndT, tOrT, tY, aE, aPk, iSeq, ofI, M.bind, M.thn, M.bindN, Fl.thn, Arg.get, R.sl, R.val, stSl, retO, gN, gsN, gsC, gSq, wipeS, mkFn, List.foldr_cons, List.foldr_nil, List.length_cons, List.length_nil, List.map_cons, List.map_nil, List.replicate, List.append_eq, List.cons_append, List.nil_append, List.getElem?_cons_zero, List.getElem?_cons_succ, List.set_cons_zero, List.set_cons_succ, if_true, if_false, Nat.zero_add, Nat.reduceAdd, Nat.reduceSub, Nat.reduceLT, Nat.reduceLeDiff, Nat.reduceEqDiff, Bool.not_true, Bool.not_false, Bool.false_eq_true, Option.map_some, Option.bind_some, and_self, true_and, and_true, reduceCtorEq, e0, eqF, eq_T _ _ _ pL p0, qf, c1, c2, decide_eq_false dw]
  obtain ⟨b, hb, ec⟩ := close
  obtain ⟨n, h1, e1, ln, q1⟩ := draw_ev c 9 h q (by omega) (by omega) (by omega)
  have e1' : fn__law_draw [.obj 0, .int 9] h = .ok (.w (.int n)) h1 := e1
  have eq1 : eqF (.int n) (.int 1) = some (.w (.bl (decide (n = 1)))) := by
    simp only [eqF, eq_I]
    by_cases h : n = 1
    · rw [decide_eq_true h, decide_eq_true (by omega)]
      rfl
    · rw [decide_eq_false h, decide_eq_false (by omega)]
      rfl
  -- a gap that stands in the list
  have listed : ∀ g ∈ gapsS, ∀ k, Beh last k → ∃ k', cdfa k (sl g ++ w) = some k' ∧ Beh w k' := fun g hg k hk => by
    obtain ⟨k', a, b⟩ := gw_next hw
    exact ⟨k', by rw [cdfa_app, gaps_to hg hk.1]; exact a, b⟩
  by_cases n0 : n = 0
  · have g0 : ("\n" : Str) ∈ gapsS := by decide +kernel
    refine ⟨"\n", h1, ?_, q1.mono (by omega), ⟨(gaps_to0 _ g0).2.1, List.mem_cons_of_mem _ g0⟩, listed _ g0⟩
    unfold fn__law_gap mkFn b__law_gap
    simp only [List.length_cons, List.length_nil, List.map_cons, List.map_nil, List.replicate, List.append_eq, List.cons_append, List.nil_append, if_true, if_false, Nat.zero_add, Nat.reduceAdd, Nat.reduceSub, Nat.reduceLT, Nat.reduceEqDiff]
    rw [seq_nx ec]
    simp only [sSeq, sSet, sNil, sExp, sRet, sRetN, sCt, sBk, sIf, sAsg, sPar, sAug, sPut, ofG, cC, cNm, cP1, cP2, cP3, cM0, cM1, cNil, cCons, cTup, cLst, cIf, cNot, cAnd, cOr, cCall, cDGet, cDis, cObj, cDis0, cApp, cPopAt, cPop, cSlBo, cLc, tE, tNotT, tAndT, tOrT, tY, aE, aPk, iSeq, ofI, M.bind, M.thn, M.bindN, Fl.thn, Arg.get, R.sl, R.val, stSl, retO, gN, gsN, gsC, gSq, wipeS, mkFn, List.foldr_cons, List.foldr_nil, List.length_cons, List.length_nil, List.map_cons, List.map_nil, List.replicate, List.append_eq, List.cons_append, List.nil_append, List.getElem?_cons_zero, List.getElem?_cons_succ, List.set_cons_zero, List.set_cons_succ, if_true, if_false, Nat.zero_add, Nat.reduceAdd, Nat.reduceSub, Nat.reduceLT, Nat.reduceLeDiff, Nat.reduceEqDiff, Bool.not_true, Bool.not_false, Bool.false_eq_true, Option.map_some, Option.bind_some, and_self, true_and, and_true, reduceCtorEq, e1', eq0_ev, decide_eq_true n0]
  by_cases n1 : n = 1
  · obtain ⟨g, h2, mg, e2, q2⟩ := pick_ev _ h1 [.str " # x = new;\n", .str "  ", .str "\n\n  ", .str " #\n"] q1 (by simp) (by simp) (by omega)
    obtain ⟨gs, gm, rfl⟩ : ∃ gs ∈ gapsS, g = .str gs := by
      simp only [List.mem_cons, List.not_mem_nil, or_false] at mg
      rcases mg with rfl | rfl | rfl | rfl <;> exact ⟨_, by decide +kernel, rfl⟩
    refine ⟨gs, h2, ?_, q2, ⟨(gaps_to0 _ gm).2.1, List.mem_cons_of_mem _ gm⟩, listed _ gm⟩
    unfold fn__law_gap mkFn b__law_gap
    simp only [List.length_cons, List.length_nil, List.map_cons, List.map_nil, List.replicate, List.append_eq, List.cons_append, List.nil_append, if_true, if_false, Nat.zero_add, Nat.reduceAdd, Nat.reduceSub, Nat.reduceLT, Nat.reduceEqDiff]
    rw [seq_nx ec]
    simp only [sSeq, sSet, sNil, sExp, sRet, sRetN, sCt, sBk, sIf, sAsg, sPar, sAug, sPut, ofG, cC, cNm, cP1, cP2, cP3, cM0, cM1, cNil, cCons, cTup, cLst, cIf, cNot, cAnd, cOr, cCall, cDGet, cDis, cObj, cDis0, cApp, cPopAt, cPop, cSlBo, cLc, tE, tNotT, tAndT, tOrT, tY, aE, aPk, iSeq, ofI, M.bind, M.thn, M.bindN, Fl.thn, Arg.get, R.sl, R.val, stSl, retO, gN, gsN, gsC, gSq, wipeS, mkFn, List.foldr_cons, List.foldr_nil, List.length_cons, List.length_nil, List.map_cons, List.map_nil, List.replicate, List.append_eq, List.cons_append, List.nil_append, List.getElem?_cons_zero, List.getElem?_cons_succ, List.set_cons_zero, List.set_cons_succ, if_true, if_false, Nat.zero_add, Nat.reduceAdd, Nat.reduceSub, Nat.reduceLT, Nat.reduceLeDiff, Nat.reduceEqDiff, Bool.not_true, Bool.not_false, Bool.false_eq_true, Option.map_some, Option.bind_some, and_self, true_and, and_true, reduceCtorEq, e1', eq0_ev, decide_eq_false n0, eq1, decide_eq_true n1, e2]
  by_cases cl : b = true ∧ n < 4
  · obtain ⟨rfl, n4⟩ := cl
    have n4' : decide ((n : Int) < 4) = true := decide_eq_true (by omega)
    refine ⟨"", h1, ?_, q1.mono (by omega), ⟨by decide +kernel, List.mem_cons_self⟩, fun k hk => ?_⟩
    · unfold fn__law_gap mkFn b__law_gap
      simp only [List.length_cons, List.length_nil, List.map_cons, List.map_nil, List.replicate, List.append_eq, List.cons_append, List.nil_append, if_true, if_false, Nat.zero_add, Nat.reduceAdd, Nat.reduceSub, Nat.reduceLT, Nat.reduceEqDiff]
      rw [seq_nx ec]
      simp only [sSeq, sSet, sNil, sExp, sRet, sRetN, sCt, sBk, sIf, sAsg, sPar, sAug, sPut, ofG, cC, cNm, cP1, cP2, cP3, cM0, cM1, cNil, cCons, cTup, cLst, cIf, cNot, cAnd, cOr, cCall, cDGet, cDis, cObj, cDis0, cApp, cPopAt, cPop, cSlBo, cLc, tE, tNotT, tAndT, tOrT, tY, aE, aPk, iSeq, ofI, M.bind, M.thn, M.bindN, Fl.thn, Arg.get, R.sl, R.val, stSl, retO, gN, gsN, gsC, gSq, wipeS, mkFn, List.foldr_cons, List.foldr_nil, List.length_cons, List.length_nil, List.map_cons, List.map_nil, List.replicate, List.append_eq, List.cons_append, List.nil_append, List.getElem?_cons_zero, List.getElem?_cons_succ, List.set_cons_zero, List.set_cons_succ, if_true, if_false, Nat.zero_add, Nat.reduceAdd, Nat.reduceSub, Nat.reduceLT, Nat.reduceLeDiff, Nat.reduceEqDiff, Bool.not_true, Bool.not_false, Bool.false_eq_true, Option.map_some, Option.bind_some, and_self, true_and, and_true, reduceCtorEq, e1', eq0_ev, decide_eq_false n0, eq1, decide_eq_false n1, ltF, cmpI, n4']
    · rw [show sl "" = [] by decide +kernel, List.nil_append]
      have at0 : k = 0 → ∃ k', cdfa k w = some k' ∧ Beh w k' := fun z => by
        rw [z]
        exact gw_next hw
      rcases hb rfl with z | z | ⟨d, hd, rfl⟩
      · exact at0 (hk.2 (.inl z))
      · exact at0 (hk.2 (.inr z))
      · exact ⟨0, sign_next hd hk.1, by omega, fun _ => rfl⟩
  · have g0 : (" " : Str) ∈ gapsS := by decide +kernel
    refine ⟨" ", h1, ?_, q1.mono (by omega), ⟨(gaps_to0 _ g0).2.1, List.mem_cons_of_mem _ g0⟩, listed _ g0⟩
    unfold fn__law_gap mkFn b__law_gap
    simp only [List.length_cons, List.length_nil, List.map_cons, List.map_nil, List.replicate, List.append_eq, List.cons_append, List.nil_append, if_true, if_false, Nat.zero_add, Nat.reduceAdd, Nat.reduceSub, Nat.reduceLT, Nat.reduceEqDiff]
    rw [seq_nx ec]
    cases b with
    | false => simp only [sSeq, sSet, sNil, sExp, sRet, sRetN, sCt, sBk, sIf, sAsg, sPar, sAug, sPut, ofG, cC, cNm, cP1, cP2, cP3, cM0, cM1, cNil, cCons, cTup, cLst, cIf, cNot, cAnd, cOr, cCall, cDGet, cDis, cObj, cDis0, cApp, cPopAt, cPop, cSlBo, cLc, tE, tNotT, tAndT, tOrT, tY, aE, aPk, iSeq, ofI, M.bind, M.thn, M.bindN, Fl.thn, Arg.get, R.sl, R.val, stSl, retO, gN, gsN, gsC, gSq, wipeS, mkFn, List.foldr_cons, List.foldr_nil, List.length_cons, List.length_nil, List.map_cons, List.map_nil, List.replicate, List.append_eq, List.cons_append, List.nil_append, List.getElem?_cons_zero, List.getElem?_cons_succ, List.set_cons_zero, List.set_cons_succ, if_true, if_false, Nat.zero_add, Nat.reduceAdd, Nat.reduceSub, Nat.reduceLT, Nat.reduceLeDiff, Nat.reduceEqDiff, Bool.not_true, Bool.not_false, Bool.false_eq_true, Option.map_some, Option.bind_some, and_self, true_and, and_true, reduceCtorEq, e1', eq0_ev, decide_eq_false n0, eq1, decide_eq_false n1]
    | true =>
      have n4' : decide ((n : Int) < 4) = false := decide_eq_false (by simp at cl; omega)
      simp only [sSeq, sSet, sNil, sExp, sRet, sRetN, sCt, sBk, sIf, sAsg, sPar, sAug, sPut, ofG, cC, cNm, cP1, cP2, cP3, cM0, cM1, cNil, cCons, cTup, cLst, cIf, cNot, cAnd, cOr, cCall, cDGet, cDis, cObj, cDis0, cApp, cPopAt, cPop, cSlBo, cLc, tE, tNotT, tAndT, tOrT, tY, aE, aPk, iSeq, ofI, M.bind, M.thn, M.bindN, Fl.thn, Arg.get, R.sl, R.val, stSl, retO, gN, gsN, gsC, gSq, wipeS, mkFn, List.foldr_cons, List.foldr_nil, List.length_cons, List.length_nil, List.map_cons, List.map_nil, List.replicate, List.append_eq, List.cons_append, List.nil_append, List.getElem?_cons_zero, List.getElem?_cons_succ, List.set_cons_zero, List.set_cons_succ, if_true, if_false, Nat.zero_add, Nat.reduceAdd, Nat.reduceSub, Nat.reduceLT, Nat.reduceLeDiff, Nat.reduceEqDiff, Bool.not_true, Bool.not_false, Bool.false_eq_true, Option.map_some, Option.bind_some, and_self, true_and, and_true, reduceCtorEq, e1', eq0_ev, decide_eq_false n0, eq1, decide_eq_false n1, ltF, cmpI, n4']
theorem gaps_pl : ∀ g ∈ ("" : Str) :: gapsS, ∀ c ∈ sl g, c < 128 := by decide +kernel
theorem sl_T (l : List Nat) : sl (T l) = l := by
  show l.toArray.toList = l
  simp
theorem loose_words_ev (ps : List (List Nat)) (hp : ∀ p ∈ ps, GW p) (hl : ps.length ≤ 200000) (c : Nat) (h : List MO) (q : Pen c h) (hn : c + 2 * ps.length < 1000000000000) :
    ∃ (t : Str) (h' : List MO) (k : Nat), fn__law_loose_words [.obj 0, .lst (ps.map fun p => W.str (T p))] h = .ok (.w (.str t)) h' ∧ Pen (c + 2 * ps.length) h' ∧ t.length ≤ 25 * ps.length ∧ cdfa 0 (sl t) = some k ∧ k ≤ 12 ∧ ∀ c ∈ sl t, c < 128 := by
  have e0 : ("" : Str) = T [] := by decide +kernel
  have loop : ∃ (t : Str) (s3 s4 : Sl) (h' : List MO) (k : Nat), forL (gN 4) d1__law_loose_words (ps.map fun p => W.str (T p)) ⟨[.val (.obj 0), .val (.lst (ps.map fun p => W.str (T p))), .val (.str ""), .val (.str ""), .un], h⟩ = .nx ⟨[.val (.obj 0), .val (.lst (ps.map fun p => W.str (T p))), .val (.str t), s3, s4], h'⟩ ∧
      Pen (c + 2 * ps.length) h' ∧ t.length ≤ 25 * ps.length ∧ cdfa 0 (sl t) = some k ∧ k ≤ 12 ∧ ∀ c ∈ sl t, c < 128 := by
    refine for_at (ps.map fun p => W.str (T p)) (fun i S => ∃ (t : Str) (last : List Nat) (s4 : Sl) (h' : List MO) (k : Nat), i ≤ ps.length ∧ S = ⟨[.val (.obj 0), .val (.lst (ps.map fun p => W.str (T p))), .val (.str t), .val (.str (T last)), s4], h'⟩ ∧ (last = [] ∨ GW last) ∧
        Pen (c + 2 * i) h' ∧ t.length ≤ 25 * i ∧ cdfa 0 (sl t) = some k ∧ Beh last k ∧ ∀ c ∈ sl t, c < 128)
      (fun o => ∃ (t : Str) (s3 s4 : Sl) (h' : List MO) (k : Nat), o = .nx ⟨[.val (.obj 0), .val (.lst (ps.map fun p => W.str (T p))), .val (.str t), s3, s4], h'⟩ ∧ Pen (c + 2 * ps.length) h' ∧ t.length ≤ 25 * ps.length ∧ cdfa 0 (sl t) = some k ∧ k ≤ 12 ∧ ∀ c ∈ sl t, c < 128) ?_ ?_ _
      ⟨"", [], _, h, 0, Nat.zero_le _, by rw [e0], .inl rfl, q, by decide +kernel, by decide +kernel, ⟨by omega, fun _ => rfl⟩, by decide +kernel⟩
    · rintro S ⟨t, last, s4, h', k, _, rfl, _, q', l, e, b, pl⟩
      rw [List.length_map] at q' l
      exact ⟨t, _, s4, h', k, rfl, q', l, e, b.1, pl⟩
    · rintro i w S ew ⟨t, last, s4, h', k, hi, rfl, hlast, q', l, e, b, pl⟩
      have li := (List.getElem?_eq_some_iff.mp ew).1
      rw [List.length_map] at li
      obtain ⟨p, mp, rfl⟩ := List.mem_map.mp (List.mem_of_getElem? ew)
      have gp := hp p mp
      obtain ⟨ppl, p12, _⟩ := gw_pl gp
      obtain ⟨g, h2, eg, q2, ⟨lg, mg⟩, nx⟩ := gap_ev _ h' q' (by omega) last p hlast gp
      obtain ⟨k', ek, bk⟩ := nx k b
      have lp : (T p).length = p.length := T_len p
      have a1 := add_S t g (by omega)
      have a2 := add_S (t ++ g) (T p) (by rw [len_app]; omega)
      simp only [sSeq, sSet, sNil, sExp, sRet, sRetN, sCt, sBk, sIf, sAsg, sPar, sAug, sPut, ofG, cC, cNm, cP1, cP2, cP3, cM0, cM1, cNil, cCons, cTup, cLst, cIf, cNot, cAnd, cOr, cCall, cDGet, cDis, cObj, cDis0, cApp, cPopAt, cPop, cSlBo, cLc, tE, tNotT, tAndT, tOrT, tY, aE, aPk, iSeq, ofI, M.bind, M.thn, M.bindN, Fl.thn, Arg.get, R.sl, R.val, stSl, retO, gN, gsN, gsC, gSq, wipeS, mkFn, List.foldr_cons, List.foldr_nil, List.length_cons, List.length_nil, List.map_cons, List.map_nil, List.replicate, List.append_eq, List.cons_append, List.nil_append, List.getElem?_cons_zero, List.getElem?_cons_succ, List.set_cons_zero, List.set_cons_succ, if_true, if_false, Nat.zero_add, Nat.reduceAdd, Nat.reduceSub, Nat.reduceLT, Nat.reduceLeDiff, Nat.reduceEqDiff, Bool.not_true, Bool.not_false, Bool.false_eq_true, Option.map_some, Option.bind_some, and_self, true_and, and_true, reduceCtorEq, EvG, d1__law_loose_words, eg, a1, a2, Turn]
      refine ⟨t ++ g ++ T p, p, _, h2, k', li, rfl, .inr gp, q2.mono (by omega), by rw [len_app, len_app]; omega, ?_, bk, fun d hd => ?_⟩
      · rw [sl_app, sl_app, sl_T p, List.append_assoc, cdfa_app, e]
        exact ek
      · rw [sl_app, sl_app, sl_T p] at hd
        rcases List.mem_append.mp hd with hd | hd
        · rcases List.mem_append.mp hd with hd | hd
          · exact pl d hd
          · exact gaps_pl g mg d hd
        · exact ppl d hd
  obtain ⟨t, s3, s4, h', k, e, rest⟩ := loop
  refine ⟨t, h', k, ?_, rest⟩
  unfold fn__law_loose_words mkFn b__law_loose_words
  simp only [sSeq, sSet, sNil, sExp, sRet, sRetN, sCt, sBk, sIf, sAsg, sPar, sAug, sPut, ofG, cC, cNm, cP1, cP2, cP3, cM0, cM1, cNil, cCons, cTup, cLst, cIf, cNot, cAnd, cOr, cCall, cDGet, cDis, cObj, cDis0, cApp, cPopAt, cPop, cSlBo, cLc, tE, tNotT, tAndT, tOrT, tY, aE, aPk, iSeq, ofI, M.bind, M.thn, M.bindN, Fl.thn, Arg.get, R.sl, R.val, stSl, retO, gN, gsN, gsC, gSq, wipeS, mkFn, List.foldr_cons, List.foldr_nil, List.length_cons, List.length_nil, List.map_cons, List.map_nil, List.replicate, List.append_eq, List.cons_append, List.nil_append, List.getElem?_cons_zero, List.getElem?_cons_succ, List.set_cons_zero, List.set_cons_succ, if_true, if_false, Nat.zero_add, Nat.reduceAdd, Nat.reduceSub, Nat.reduceLT, Nat.reduceLeDiff, Nat.reduceEqDiff, Bool.not_true, Bool.not_false, Bool.false_eq_true, Option.map_some, Option.bind_some, and_self, true_and, and_true, reduceCtorEq, sFor, seqItems, e]
theorem gd_dfa {t : Str} (h : Gd t) : dfa 0 (sl t) = some 0 := h
theorem text_len {t : Str} (h : t.length ≤ 60000) : (sl t).length ≤ 60000 := by rw [← len_sl]; exact h
theorem T_sl (t : Str) : T (sl t) = t := T_eta t
/-- a text that the lexers take to its end -/
def Fine (t : Str) : Prop := (sl t).length ≤ 6000000 ∧ (∀ c ∈ sl t, c < 128) ∧ ∃ k, cdfa 0 (sl t) = some k
theorem text_of_ev (t : W) (h : List MO) (ht : Tree t) : ∃ s, fn__law_text_of [t] h = .ok (.w (.str s)) h ∧ Fine s := by
  obtain ⟨s, e1, g, l⟩ := printed_ev t h ht
  have l' := text_len l
  have e2 := parted_ev (sl s) h 0 g (by omega)
  rw [T_sl] at e2
  have lp := prt_len (sl s)
  have gw := prt_good (l := sl s) g
  generalize prt (sl s) = ps at *
  have b1 : (" " : Str).length = 1 := by decide +kernel
  have sb : ∀ x ∈ ps.map T, x.length ≤ 12 := fun x hx => by
    obtain ⟨p, mp, rfl⟩ := List.mem_map.mp hx
    rw [T_len]
    exact (gw_pl (gw p mp)).2.1
  obtain ⟨j1, j2⟩ := join_le " " (ps.map T) 12 sb
  rw [b1, List.length_map] at j1
  rw [List.length_map] at j2
  have jo := join_evL " " (ps.map T) (by rw [b1, List.length_map]; omega)
  have mm : (ps.map T).map W.str = ps.map fun p => W.str (T p) := by
    rw [List.map_map]
    rfl
  rw [mm] at jo
  refine ⟨Str.join " " (ps.map T), ?_, ?_, ?_, ?_⟩
  · simp only [fn__law_text_of, b__law_text_of, N__law_text_of, sSeq, sSet, sNil, sExp, sRet, sRetN, sCt, sBk, sIf, sAsg, sPar, sAug, sPut, ofG, cC, cNm, cP1, cP2, cP3, cM0, cM1, cNil, cCons, cTup, cLst, cIf, cNot, cAnd, cOr, cCall, cDGet, cDis, cObj, cDis0, cApp, cPopAt, cPop, cSlBo, cLc, tE, tNotT, tAndT, tOrT, tY, aE, aPk, iSeq, ofI, M.bind, M.thn, M.bindN, Fl.thn, Arg.get, R.sl, R.val, stSl, retO, gN, gsN, gsC, gSq, wipeS, mkFn, List.foldr_cons, List.foldr_nil, List.length_cons, List.length_nil, List.map_cons, List.map_nil, List.replicate, List.append_eq, List.cons_append, List.nil_append, List.getElem?_cons_zero, List.getElem?_cons_succ, List.set_cons_zero, List.set_cons_succ, if_true, if_false, Nat.zero_add, Nat.reduceAdd, Nat.reduceSub, Nat.reduceLT, Nat.reduceLeDiff, Nat.reduceEqDiff, Bool.not_true, Bool.not_false, Bool.false_eq_true, Option.map_some, Option.bind_some, and_self, true_and, and_true, reduceCtorEq, e1, e2, jo]
  · rw [← len_sl]
    omega
  · have all : ∀ ps : List (List Nat), (∀ p ∈ ps, GW p) → ∀ c ∈ sl (Str.join " " (ps.map T)), c < 128 := by
      intro ps
      induction ps with
      | nil => intro _ c hc; cases hc
      | cons p r ih =>
        intro hg c hc
        cases r with
        | nil =>
          have : sl (T p) = p := sl_T p
          exact (gw_pl (hg p (by simp))).1 c (by rw [← this]; exact hc)
        | cons p2 r =>
          have e : sl (Str.join " " ((p :: p2 :: r).map T)) = sl (T p) ++ sl " " ++ sl (Str.join " " ((p2 :: r).map T)) := by
            show sl (T p ++ " " ++ Str.join " " (T p2 :: r.map T)) = _
            rw [sl_app, sl_app]
            rfl
          rw [e, sl_T p] at hc
          rcases List.mem_append.mp hc with hc | hc
          · rcases List.mem_append.mp hc with hc | hc
            · exact (gw_pl (hg p (by simp))).1 c hc
            · have : ∀ c ∈ sl (" " : Str), c < 128 := by decide +kernel
              exact this c hc
          · exact ih (fun q hq => hg q (List.mem_cons_of_mem _ hq)) c hc
    exact all ps gw
  · have all : ∀ ps : List (List Nat), (∀ p ∈ ps, GW p) → ∃ k, cdfa 0 (sl (Str.join " " (ps.map T))) = some k := by
      intro ps
      induction ps with
      | nil => exact fun _ => ⟨0, rfl⟩
      | cons p r ih =>
        intro hg
        obtain ⟨k, e, b⟩ := gw_next (hg p (by simp))
        cases r with
        | nil =>
          have : sl (T p) = p := sl_T p
          exact ⟨k, by show cdfa 0 (sl (T p)) = _; rw [this]; exact e⟩
        | cons p2 r =>
          obtain ⟨k2, e2⟩ := ih (fun q hq => hg q (List.mem_cons_of_mem _ hq))
          have e' : sl (Str.join " " ((p :: p2 :: r).map T)) = sl (T p) ++ sl " " ++ sl (Str.join " " ((p2 :: r).map T)) := by
            show sl (T p ++ " " ++ Str.join " " (T p2 :: r.map T)) = _
            rw [sl_app, sl_app]
            rfl
          refine ⟨k2, ?_⟩
          have g0 : (" " : Str) ∈ gapsS := by decide +kernel
          rw [e', sl_T p, List.append_assoc, cdfa_app, e]
          show cdfa k _ = _
          rw [cdfa_app, gaps_to g0 b.1]
          exact e2
    exact all ps gw
theorem loose_text_ev (t : W) (c : Nat) (h : List MO) (q : Pen c h) (hn : c + 1000000 < 1000000000000) (ht : Tree t) : ∃ s h', fn__law_loose_text [.obj 0, t] h = .ok (.w (.str s)) h' ∧ Fine s ∧ Pen (c + 1000000) h' := by
  obtain ⟨s, e1, g, l⟩ := printed_ev t h ht
  have l' := text_len l
  have e2 := parted_ev (sl s) h 0 g (by omega)
  rw [T_sl] at e2
  have lp := prt_len (sl s)
  have gw := prt_good (l := sl s) g
  generalize prt (sl s) = ps at *
  obtain ⟨u, h1, k, e3, q1, lu, ek, k12, pl⟩ := loose_words_ev ps gw (by omega) c h q (by omega)
  obtain ⟨w, h2, mw, e4, q2⟩ := pick_ev _ h1 [.str "", .str "", .str "\n", .str " ", .str " # the end", .str "#"] q1 (by simp) (by simp) (by omega)
  obtain ⟨x, hx, rfl⟩ : ∃ x ∈ (["", "\n", " ", " # the end", "#"] : List Str), w = .str x := by
    simp only [List.mem_cons, List.not_mem_nil, or_false] at mw
    rcases mw with rfl | rfl | rfl | rfl | rfl | rfl <;> exact ⟨_, by decide +kernel, rfl⟩
  have ends : ∀ x ∈ (["", "\n", " ", " # the end", "#"] : List Str), x.length ≤ 10 ∧ (∀ c ∈ sl x, c < 128) ∧ ∀ k ∈ List.range 13, (cdfa k (sl x)).isSome = true := by decide +kernel
  obtain ⟨x1, x2, x3⟩ := ends x hx
  obtain ⟨k2, ek2⟩ := Option.isSome_iff_exists.mp (x3 k (List.mem_range.mpr (by omega)))
  have a := add_S u x (by omega)
  refine ⟨u ++ x, h2, ?_, ⟨?_, fun d hd => ?_, k2, ?_⟩, q2.mono (by omega)⟩
  · simp only [fn__law_loose_text, b__law_loose_text, N__law_loose_text, sSeq, sSet, sNil, sExp, sRet, sRetN, sCt, sBk, sIf, sAsg, sPar, sAug, sPut, ofG, cC, cNm, cP1, cP2, cP3, cM0, cM1, cNil, cCons, cTup, cLst, cIf, cNot, cAnd, cOr, cCall, cDGet, cDis, cObj, cDis0, cApp, cPopAt, cPop, cSlBo, cLc, tE, tNotT, tAndT, tOrT, tY, aE, aPk, iSeq, ofI, M.bind, M.thn, M.bindN, Fl.thn, Arg.get, R.sl, R.val, stSl, retO, gN, gsN, gsC, gSq, wipeS, mkFn, List.foldr_cons, List.foldr_nil, List.length_cons, List.length_nil, List.map_cons, List.map_nil, List.replicate, List.append_eq, List.cons_append, List.nil_append, List.getElem?_cons_zero, List.getElem?_cons_succ, List.set_cons_zero, List.set_cons_succ, if_true, if_false, Nat.zero_add, Nat.reduceAdd, Nat.reduceSub, Nat.reduceLT, Nat.reduceLeDiff, Nat.reduceEqDiff, Bool.not_true, Bool.not_false, Bool.false_eq_true, Option.map_some, Option.bind_some, and_self, true_and, and_true, reduceCtorEq, e1, e2, e3, e4, a]
  · rw [← len_sl, len_app]
    omega
  · rw [sl_app] at hd
    exact (List.mem_append.mp hd).elim (pl d) (x2 d)
  · rw [sl_app, cdfa_app, ek]
    exact ek2
end W44

set_option Elab.async false
set_option linter.all false
set_option maxRecDepth 100000
set_option maxHeartbeats 1000000
namespace W44
open PySem Mi
def IsTok (w : W) : Prop := ∃ (k t : Str) (r c : Nat), w = tok k t r c ∧ PyData.strOk k = true ∧ PyData.strOk t = true
theorem lexL_toks (row : Nat) : ∀ (n : Nat) (l : List Nat) (col : Nat), l.length ≤ n → Pl l → ∀ w ∈ (lexL row col l).1, IsTok w := by
  have sb : PyData.strOk "bad" = true ∧ PyData.strOk "word" = true ∧ PyData.strOk "sign" = true := by decide +kernel
  obtain ⟨b1, b2, b3⟩ := sb
  intro n
  induction n with
  | zero =>
    intro l col h _ w hw
    have e : l = [] := List.length_eq_zero_iff.mp (by omega)
    rw [e, lexL_nil] at hw
    cases hw
  | succ n ih =>
    intro l col h hp w hw
    cases l with
    | nil =>
      rw [lexL_nil] at hw
      cases hw
    | cons c r =>
      rw [List.length_cons] at h
      have pr : Pl r := fun d hd => hp d (List.mem_cons_of_mem _ hd)
      have pc : Pl [c] := fun d hd => by
        rw [List.mem_singleton.mp hd]
        exact hp c (by simp)
      rw [lexL] at hw
      split at hw
      · cases hw
      split at hw
      · exact ih r _ (by omega) pr w hw
      split at hw
      · split at hw
        · rw [List.mem_singleton.mp hw]
          exact ⟨_, _, _, _, rfl, b1, b2⟩
        · rcases List.mem_cons.mp hw with rfl | hw
          · exact ⟨_, _, _, _, rfl, kind_ok _, strOk_T fun d hd => by
              rcases List.mem_cons.mp hd with rfl | hd
              · exact hp _ (by simp)
              · exact pr d (List.mem_of_mem_take hd)⟩
          · exact ih (r.drop (wrun r)) _ (by rw [List.length_drop]; omega) (fun d hd => pr d (List.mem_of_mem_drop hd)) w hw
      split at hw
      · rcases List.mem_cons.mp hw with rfl | hw
        · exact ⟨_, _, _, _, rfl, b3, strOk_T pc⟩
        · exact ih r _ (by omega) pr w hw
      · rw [List.mem_singleton.mp hw]
        exact ⟨_, _, _, _, rfl, b1, b3⟩
theorem lexT_toks {l : List Nat} (hp : Pl l) : ∀ w ∈ lexT l, IsTok w := by
  have rows : ∀ (ls : List (List Nat)) (row : Nat), (∀ q ∈ ls, Pl q) → ∀ w ∈ (lexR row ls).1, IsTok w := by
    intro ls
    induction ls with
    | nil => intro row _ w hw; cases hw
    | cons q ls ih =>
      intro row h w hw
      rw [lexR_cons] at hw
      have h1 := lexL_toks row q.length q 0 (Nat.le_refl _) (h q (by simp))
      split at hw
      · exact h1 w hw
      · rcases List.mem_append.mp hw with hw | hw
        · exact h1 w hw
        · exact ih (row + 1) (fun q' h' => h q' (List.mem_cons_of_mem _ h')) w hw
  intro w hw
  unfold lexT at hw
  rcases List.mem_append.mp hw with hw | hw
  · exact rows _ 0 (fun q hq c hc => hp c (splitL_sub hq c hc)) w hw
  · split at hw
    · cases hw
    · rw [List.mem_singleton.mp hw]
      exact ⟨_, _, _, _, rfl, by decide +kernel, by decide +kernel⟩
theorem toks_py : ∀ {xs : List W}, (∀ w ∈ xs, IsTok w) → ∃ ds, toPys xs = some ds ∧ PyData.canLayAll0 ds = true ∧ PyData.depthAll ds ≤ 1
  | [], _ => ⟨[], rfl, rfl, by simp [PyData.depthAll]⟩
  | w :: xs, h => by
    obtain ⟨ds, e1, e2, e3⟩ := toks_py (xs := xs) fun q hq => h q (List.mem_cons_of_mem _ hq)
    obtain ⟨k, t, r, c, rfl, hk, ht⟩ := h w List.mem_cons_self
    refine ⟨.tuple [.str k, .str t, .int r, .int c] :: ds, ?_, ?_, ?_⟩
    · simp only [tok, toPys, toPy, e1, Option.map_some]
    · simp [PyData.canLayAll0, PyData.canLay0, hk, ht, e2]
    · simp [PyData.depthAll, PyData.depth]
      omega
theorem toks_ne {xs : List W} (h : ∀ w ∈ xs, IsTok w) : neF (.tup xs) (.tup xs) = some (.w (.bl false)) := by
  obtain ⟨ds, e1, e2, e3⟩ := toks_py h
  have a : SeqAt.shaped (.tuple ds) = true := by
    simp [SeqAt.shaped, PyData.canLay0, PyData.depth, e2]
    omega
  have b : PyData.canLay0 (.tuple ds) = true := by simp [PyData.canLay0, e2]
  have r := SeqAt.eqv_refl (.tuple ds) b
  simp only [neF, eqV', toPy, e1, Option.map_some, a, r]
  rfl
theorem is_int_ev (i : Int) (h : List MO) : fn__law_is_int [.int i] h = .ok (.w (.bl true)) h := by
  simp only [fn__law_is_int, b__law_is_int, N__law_is_int, sSeq, sSet, sNil, sExp, sRet, sRetN, sCt, sBk, sIf, sAsg, sPar, sAug, sPut, ofG, cC, cNm, cP1, cP2, cP3, cM0, cM1, cNil, cCons, cTup, cLst, cIf, cNot, cAnd, cOr, cCall, cDGet, cDis, cObj, cDis0, cApp, cPopAt, cPop, cSlBo, cLc, tE, tNotT, tAndT, tOrT, tY, aE, aPk, iSeq, ofI, M.bind, M.thn, M.bindN, Fl.thn, Arg.get, R.sl, R.val, stSl, retO, gN, gsN, gsC, gSq, wipeS, mkFn, List.foldr_cons, List.foldr_nil, List.length_cons, List.length_nil, List.map_cons, List.map_nil, List.replicate, List.append_eq, List.cons_append, List.nil_append, List.getElem?_cons_zero, List.getElem?_cons_succ, List.set_cons_zero, List.set_cons_succ, if_true, if_false, Nat.zero_add, Nat.reduceAdd, Nat.reduceSub, Nat.reduceLT, Nat.reduceLeDiff, Nat.reduceEqDiff, Bool.not_true, Bool.not_false, Bool.false_eq_true, Option.map_some, Option.bind_some, and_self, true_and, and_true, reduceCtorEq, isiF, isTy]
theorem told_ok_ev (xs : List W) (h : List MO) (hx : ∀ w ∈ xs, IsTok w) (hl : xs.length < 16777216) : fn__law_told_ok [.tup xs] h = .ok (.w (.bl true)) h := by
  have e4 : eqF (.int 4) (.int 4) = some (.w (.bl true)) := by
    simp only [eqF, eq_I]
    rfl
  have loop := lc_at' (own := [1]) (g := gN 1) (elt := l1__law_told_ok) xs hl
    (fun k acc S => S = ⟨[.val (.tup xs), .un], h⟩ ∧ ∃ bs : List Bool, acc = bs.map W.bl ∧ ∀ b ∈ bs, b = true) (by
      rintro k w acc S ew ea ⟨rfl, bs, rfl, hb⟩
      obtain ⟨kd, t, r, c, rfl, _, _⟩ := hx w (List.mem_of_getElem? ew)
      have i2 : ixF (tok kd t r c) (.int 2) = some (.w (.int r)) := ix_U _ 2 _ rfl
      have i3 : ixF (tok kd t r c) (.int 3) = some (.w (.int c)) := ix_U _ 3 _ rfl
      have t1 : isiF .tuple (tok kd t r c) = some (.w (.bl true)) := rfl
      have l4 : lenF (tok kd t r c) = some (.w (.int 4)) := rfl
      simp only [sSeq, sSet, sNil, sExp, sRet, sRetN, sCt, sBk, sIf, sAsg, sPar, sAug, sPut, ofG, cC, cNm, cP1, cP2, cP3, cM0, cM1, cNil, cCons, cTup, cLst, cIf, cNot, cAnd, cOr, cCall, cDGet, cDis, cObj, cDis0, cApp, cPopAt, cPop, cSlBo, cLc, tE, tNotT, tAndT, tOrT, tY, aE, aPk, iSeq, ofI, M.bind, M.thn, M.bindN, Fl.thn, Arg.get, R.sl, R.val, stSl, retO, gN, gsN, gsC, gSq, wipeS, mkFn, List.foldr_cons, List.foldr_nil, List.length_cons, List.length_nil, List.map_cons, List.map_nil, List.replicate, List.append_eq, List.cons_append, List.nil_append, List.getElem?_cons_zero, List.getElem?_cons_succ, List.set_cons_zero, List.set_cons_succ, if_true, if_false, Nat.zero_add, Nat.reduceAdd, Nat.reduceSub, Nat.reduceLT, Nat.reduceLeDiff, Nat.reduceEqDiff, Bool.not_true, Bool.not_false, Bool.false_eq_true, Option.map_some, Option.bind_some, and_self, true_and, and_true, reduceCtorEq, EvG, Ev, l1__law_told_ok, t1, l4, e4, i2, i3, is_int_ev]
      refine ⟨bs ++ [true], by rw [List.map_append] <;> rfl, fun b hb' => ?_⟩
      rcases List.mem_append.mp hb' with hb' | hb'
      · exact hb b hb'
      · exact List.mem_singleton.mp hb') ⟨[.val (.tup xs), .un], h⟩ ⟨rfl, [], rfl, fun b hb => by cases hb⟩
  obtain ⟨ys, S', e, l, rfl, bs', rfl, hb⟩ := loop
  have al : bs'.all id = true := by
    rw [List.all_eq_true]
    intro x hx
    rw [hb x hx]
    rfl
  have ab := allF_bools bs'
  rw [al] at ab
  have t1 : isiF .tuple (.tup xs) = some (.w (.bl true)) := rfl
  unfold fn__law_told_ok mkFn b__law_told_ok
  revert e ab
  generalize bs'.map W.bl = bs
  intro e ab
  simp only [sSeq, sSet, sNil, sExp, sRet, sRetN, sCt, sBk, sIf, sAsg, sPar, sAug, sPut, ofG, cC, cNm, cP1, cP2, cP3, cM0, cM1, cNil, cCons, cTup, cLst, cIf, cNot, cAnd, cOr, cCall, cDGet, cDis, cObj, cDis0, cApp, cPopAt, cPop, cSlBo, cLc, tE, tNotT, tAndT, tOrT, tY, aE, aPk, iSeq, ofI, M.bind, M.thn, M.bindN, Fl.thn, Arg.get, R.sl, R.val, stSl, retO, gN, gsN, gsC, gSq, wipeS, mkFn, List.foldr_cons, List.foldr_nil, List.length_cons, List.length_nil, List.map_cons, List.map_nil, List.replicate, List.append_eq, List.cons_append, List.nil_append, List.getElem?_cons_zero, List.getElem?_cons_succ, List.set_cons_zero, List.set_cons_succ, if_true, if_false, Nat.zero_add, Nat.reduceAdd, Nat.reduceSub, Nat.reduceLT, Nat.reduceLeDiff, Nat.reduceEqDiff, Bool.not_true, Bool.not_false, Bool.false_eq_true, Option.map_some, Option.bind_some, and_self, true_and, and_true, reduceCtorEq, t1, seqItems, e, ab]
def signsS : List Str := ["_", "!", "=", ":", ">", "\t", "0", "12", "#", "\n", " ", "a", "Z9", ",", ".", "xxxxxxxxxxxxx", "1111111111111", "10", "-", "=>", "{", "|", "aaaaaaaaaaaa", "bbbbbbbbbbbb", "==", "proc", "out", "<", "loop", ".."]
theorem signs_ok : ∀ x ∈ signsS, x.length ≤ 13 ∧ ∀ c ∈ sl x, c < 128 := by decide +kernel
theorem mul_txt (s r : Str) (n : Nat) (h : s.length * n ≤ 1000) (hn : 1 ≤ n) (hn2 : n ≤ 1000) (e : repS s n = r) : mulF (.str s) (.int n) = some (.w (.str r)) := by
  dsimp only [mulF]
  rw [if_pos ⟨by omega, by show (n : Int).natAbs < _; omega, by rw [Int.toNat_natCast]; omega⟩, Int.toNat_natCast, e]
/-- a text that may be looked at -/
def TX (n : Nat) (t : Str) : Prop := (sl t).length ≤ 6000000 + n ∧ ∀ c ∈ sl t, c < 128
theorem spoilt_ev (n : Nat) (t : Str) (c : Nat) (h : List MO) (q : Pen c h) (hn : c + 3 < 1000000000000) (ht : TX n t) (hn2 : n ≤ 1000) : ∃ s h', fn__law_spoilt [.obj 0, .str t] h = .ok (.w (.str s)) h' ∧ TX (n + 13) s ∧ Pen (c + 3) h' := by
  obtain ⟨lt, pt⟩ := ht
  have tt := T_sl t
  generalize sl t = l at *
  subst tt
  obtain ⟨a, h1, e1, la, q1⟩ := draw_ev c (l.length + 1) h q (by omega) (by omega) (by omega)
  obtain ⟨w, h2, e2, lw, q2⟩ := draw_ev _ 4 h1 q1 (by omega) (by omega) (by omega)
  have e2' : fn__law_draw [.obj 0, .int 4] h1 = .ok (.w (.int w)) h2 := e2
  obtain ⟨g, h3, mg, e3, q3⟩ := pick_ev _ h2 (signsS.map W.str) q2 (by decide) (by decide) (by omega)
  obtain ⟨x, mx, rfl⟩ := List.mem_map.mp mg
  obtain ⟨x1, x2⟩ := signs_ok x mx
  have e3' : fn__law_pick [.obj 0, .lst [.str "_", .str "!", .str "=", .str ":", .str ">", .str "\t", .str "0", .str "12", .str "#", .str "\n", .str " ", .str "a", .str "Z9", .str ",", .str ".", .str "xxxxxxxxxxxxx", .str "1111111111111", .str "10", .str "-", .str "=>", .str "{", .str "|", .str "aaaaaaaaaaaa", .str "bbbbbbbbbbbb", .str "==", .str "proc", .str "out", .str "<", .str "loop", .str ".."]] h2 = .ok (.w (.str x)) h3 := e3
  have m1 : mulF (.str "x") (.int 13) = some (.w (.str "xxxxxxxxxxxxx")) := mul_txt _ _ 13 (by decide +kernel) (by decide) (by decide) (by decide +kernel)
  have m2 : mulF (.str "1") (.int 13) = some (.w (.str "1111111111111")) := mul_txt _ _ 13 (by decide +kernel) (by decide) (by decide) (by decide +kernel)
  have m3 : mulF (.str "a") (.int 12) = some (.w (.str "aaaaaaaaaaaa")) := mul_txt _ _ 12 (by decide +kernel) (by decide) (by decide) (by decide +kernel)
  have m4 : mulF (.str "b") (.int 12) = some (.w (.str "bbbbbbbbbbbb")) := mul_txt _ _ 12 (by decide +kernel) (by decide) (by decide) (by decide +kernel)
  have len1 : (l.length : Int) + 1 = ((l.length + 1 : Nat) : Int) := by omega
  have a1 : (a : Int) + 1 = ((a + 1 : Nat) : Int) := by omega
  have eq1 : eqF (.int w) (.int 1) = some (.w (.bl (decide (w = 1)))) := by
    simp only [eqF, eq_I]
    by_cases h : w = 1
    · rw [decide_eq_true h, decide_eq_true (by omega)]
      rfl
    · rw [decide_eq_false h, decide_eq_false (by omega)]
      rfl
  have xl : x.length = (sl x).length := len_sl x
  have tk : (T (l.take a)).length ≤ l.length := by rw [T_len, List.length_take]; omega
  have dr : ∀ b, (T (l.drop b)).length ≤ l.length := fun b => by rw [T_len, List.length_drop]; omega
  have ad0 := add_S (T (l.take a)) (T (l.drop (a + 1))) (by have := dr (a + 1); omega)
  have ad1 := add_S (T (l.take a)) x (by omega)
  have ad2 := add_S (T (l.take a) ++ x) (T (l.drop (a + 1))) (by have := dr (a + 1); rw [len_app]; omega)
  have ad3 := add_S (T (l.take a) ++ x) (T (l.drop a)) (by have := dr a; rw [len_app]; omega)
  have fin : ∀ b, a ≤ b → TX (n + 13) (T (l.take a) ++ x ++ T (l.drop b)) := fun b hb => by
    refine ⟨?_, fun d hd => ?_⟩
    · rw [sl_app, sl_app, sl_T (l.take a), sl_T (l.drop b), List.length_append, List.length_append, List.length_take, List.length_drop]
      omega
    · rw [sl_app, sl_app, sl_T (l.take a), sl_T (l.drop b)] at hd
      rcases List.mem_append.mp hd with hd | hd
      · rcases List.mem_append.mp hd with hd | hd
        · exact pt d (List.mem_of_mem_take hd)
        · exact x2 d hd
      · exact pt d (List.mem_of_mem_drop hd)
  by_cases w0 : w = 0
  · refine ⟨T (l.take a) ++ T (l.drop (a + 1)), h3, ?_, ⟨?_, fun d hd => ?_⟩, q3⟩
    · unfold fn__law_spoilt mkFn b__law_spoilt
      simp only [sSeq, sSet, sNil, sExp, sRet, sRetN, sCt, sBk, sIf, sAsg, sPar, sAug, sPut, ofG, cC, cNm, cP1, cP2, cP3, cM0, cM1, cNil, cCons, cTup, cLst, cIf, cNot, cAnd, cOr, cCall, cDGet, cDis, cObj, cDis0, cApp, cPopAt, cPop, cSlBo, cLc, tE, tNotT, tAndT, tOrT, tY, aE, aPk, iSeq, ofI, M.bind, M.thn, M.bindN, Fl.thn, Arg.get, R.sl, R.val, stSl, retO, gN, gsN, gsC, gSq, wipeS, mkFn, List.foldr_cons, List.foldr_nil, List.length_cons, List.length_nil, List.map_cons, List.map_nil, List.replicate, List.append_eq, List.cons_append, List.nil_append, List.getElem?_cons_zero, List.getElem?_cons_succ, List.set_cons_zero, List.set_cons_succ, if_true, if_false, Nat.zero_add, Nat.reduceAdd, Nat.reduceSub, Nat.reduceLT, Nat.reduceLeDiff, Nat.reduceEqDiff, Bool.not_true, Bool.not_false, Bool.false_eq_true, Option.map_some, Option.bind_some, and_self, true_and, and_true, reduceCtorEq, len_T l (by omega), add_i, len1, e1, e2', m1, m2, m3, m4, e3', eq0_ev, decide_eq_true w0, slHi_T l a (by omega), a1, slLo_T l (a + 1) (by omega), ad0]
    · rw [sl_app, sl_T (l.take a), sl_T (l.drop (a + 1)), List.length_append, List.length_take, List.length_drop]
      omega
    · rw [sl_app, sl_T (l.take a), sl_T (l.drop (a + 1))] at hd
      rcases List.mem_append.mp hd with hd | hd
      · exact pt d (List.mem_of_mem_take hd)
      · exact pt d (List.mem_of_mem_drop hd)
  by_cases w1 : w = 1
  · refine ⟨_, h3, ?_, fin (a + 1) (by omega), q3⟩
    unfold fn__law_spoilt mkFn b__law_spoilt
    simp only [sSeq, sSet, sNil, sExp, sRet, sRetN, sCt, sBk, sIf, sAsg, sPar, sAug, sPut, ofG, cC, cNm, cP1, cP2, cP3, cM0, cM1, cNil, cCons, cTup, cLst, cIf, cNot, cAnd, cOr, cCall, cDGet, cDis, cObj, cDis0, cApp, cPopAt, cPop, cSlBo, cLc, tE, tNotT, tAndT, tOrT, tY, aE, aPk, iSeq, ofI, M.bind, M.thn, M.bindN, Fl.thn, Arg.get, R.sl, R.val, stSl, retO, gN, gsN, gsC, gSq, wipeS, mkFn, List.foldr_cons, List.foldr_nil, List.length_cons, List.length_nil, List.map_cons, List.map_nil, List.replicate, List.append_eq, List.cons_append, List.nil_append, List.getElem?_cons_zero, List.getElem?_cons_succ, List.set_cons_zero, List.set_cons_succ, if_true, if_false, Nat.zero_add, Nat.reduceAdd, Nat.reduceSub, Nat.reduceLT, Nat.reduceLeDiff, Nat.reduceEqDiff, Bool.not_true, Bool.not_false, Bool.false_eq_true, Option.map_some, Option.bind_some, and_self, true_and, and_true, reduceCtorEq, len_T l (by omega), add_i, len1, e1, e2', m1, m2, m3, m4, e3', eq0_ev, decide_eq_false w0, eq1, decide_eq_true w1, slHi_T l a (by omega), a1, slLo_T l (a + 1) (by omega), ad1, ad2]
  · refine ⟨_, h3, ?_, fin a (Nat.le_refl _), q3⟩
    unfold fn__law_spoilt mkFn b__law_spoilt
    simp only [sSeq, sSet, sNil, sExp, sRet, sRetN, sCt, sBk, sIf, sAsg, sPar, sAug, sPut, ofG, cC, cNm, cP1, cP2, cP3, cM0, cM1, cNil, cCons, cTup, cLst, cIf, cNot, cAnd, cOr, cCall, cDGet, cDis, cObj, cDis0, cApp, cPopAt, cPop, cSlBo, cLc, tE, tNotT, tAndT, tOrT, tY, aE, aPk, iSeq, ofI, M.bind, M.thn, M.bindN, Fl.thn, Arg.get, R.sl, R.val, stSl, retO, gN, gsN, gsC, gSq, wipeS, mkFn, List.foldr_cons, List.foldr_nil, List.length_cons, List.length_nil, List.map_cons, List.map_nil, List.replicate, List.append_eq, List.cons_append, List.nil_append, List.getElem?_cons_zero, List.getElem?_cons_succ, List.set_cons_zero, List.set_cons_succ, if_true, if_false, Nat.zero_add, Nat.reduceAdd, Nat.reduceSub, Nat.reduceLT, Nat.reduceLeDiff, Nat.reduceEqDiff, Bool.not_true, Bool.not_false, Bool.false_eq_true, Option.map_some, Option.bind_some, and_self, true_and, and_true, reduceCtorEq, len_T l (by omega), add_i, len1, e1, e2', m1, m2, m3, m4, e3', eq0_ev, decide_eq_false w0, eq1, decide_eq_false w1, slHi_T l a (by omega), slLo_T l a (by omega), ad1, ad3]
end W44

set_option Elab.async false
set_option linter.all false
set_option maxRecDepth 100000
set_option maxHeartbeats 2000000
namespace W44
open PySem Mi
theorem lexT_len (l : List Nat) : (lexT l).length ≤ l.length + 1 := by
  have := lexR_len l
  unfold lexT
  rw [List.length_append]
  split <;> simp <;> omega
theorem lw_ev (i : Nat) (S : Sta) (l : List Nat) (hp : Pl l) (hl : l.length + 2 ≤ 16777216) (e : S.ws[i]? = some (.val (.str (T l)))) : cP1 tupF (aE (cCall fn__law_words (cCons (cNm i) (cNil)))) S = .ok (.w (.tup (lexT l)), S) := by
  obtain ⟨r, er, ev⟩ := law_words_ev l S.h hp hl
  have c : cCall fn__law_words (cCons (cNm i) (cNil)) S = .ok (r, S) := by
    simp only [sSeq, sSet, sNil, sExp, sRet, sRetN, sCt, sBk, sIf, sAsg, sPar, sAug, sPut, ofG, cC, cNm, cP1, cP2, cP3, cM0, cM1, cNil, cCons, cTup, cLst, cIf, cNot, cAnd, cOr, cCall, cDGet, cDis, cObj, cDis0, cApp, cPopAt, cPop, cSlBo, cLc, tE, tNotT, tAndT, tOrT, tY, aE, aPk, iSeq, ofI, M.bind, M.thn, M.bindN, Fl.thn, Arg.get, R.sl, R.val, stSl, retO, gN, gsN, gsC, gSq, wipeS, mkFn, List.foldr_cons, List.foldr_nil, List.length_cons, List.length_nil, List.map_cons, List.map_nil, List.replicate, List.append_eq, List.cons_append, List.nil_append, List.getElem?_cons_zero, List.getElem?_cons_succ, List.set_cons_zero, List.set_cons_succ, if_true, if_false, Nat.zero_add, Nat.reduceAdd, Nat.reduceSub, Nat.reduceLT, Nat.reduceLeDiff, Nat.reduceEqDiff, Bool.not_true, Bool.not_false, Bool.false_eq_true, Option.map_some, Option.bind_some, and_self, true_and, and_true, reduceCtorEq, e, ev]
  unfold cP1 aE
  rw [c]
  dsimp only [M.bind, Arg.get]
  rw [er]
  rfl
theorem wo_ev (i : Nat) (S : Sta) (l : List Nat) (hp : Pl l) (hl : l.length + 2 ≤ 16777216) (e : S.ws[i]? = some (.val (.str (T l)))) : cCall fn_words_of (cCons (cNm i) (cNil)) S = .ok (.w (.tup (lexT l)), S) := by
  simp only [sSeq, sSet, sNil, sExp, sRet, sRetN, sCt, sBk, sIf, sAsg, sPar, sAug, sPut, ofG, cC, cNm, cP1, cP2, cP3, cM0, cM1, cNil, cCons, cTup, cLst, cIf, cNot, cAnd, cOr, cCall, cDGet, cDis, cObj, cDis0, cApp, cPopAt, cPop, cSlBo, cLc, tE, tNotT, tAndT, tOrT, tY, aE, aPk, iSeq, ofI, M.bind, M.thn, M.bindN, Fl.thn, Arg.get, R.sl, R.val, stSl, retO, gN, gsN, gsC, gSq, wipeS, mkFn, List.foldr_cons, List.foldr_nil, List.length_cons, List.length_nil, List.map_cons, List.map_nil, List.replicate, List.append_eq, List.cons_append, List.nil_append, List.getElem?_cons_zero, List.getElem?_cons_succ, List.set_cons_zero, List.set_cons_succ, if_true, if_false, Nat.zero_add, Nat.reduceAdd, Nat.reduceSub, Nat.reduceLT, Nat.reduceLeDiff, Nat.reduceEqDiff, Bool.not_true, Bool.not_false, Bool.false_eq_true, Option.map_some, Option.bind_some, and_self, true_and, and_true, reduceCtorEq, e, words_of_ev l S.h hp hl]
theorem tx_pl {n : Nat} {t : Str} (h : TX n t) : Pl (sl t) := fun c hc => by
  have := h.2 c hc
  omega
theorem two_tests (a b c d : Sl) (t : Str) (n : Nat) (s6 s7 s8 s9 : Sl) (h : List MO) (ht : TX n t) (hn : n ≤ 1000) : tOrT (tE (cP2 neF (aPk 5) (aE (cP1 tupF (aE (cCall fn__law_words (cCons (cNm 4) (cNil)))))))) (tNotT (tE (cCall fn__law_told_ok (cCons (cNm 5) (cNil))))) ⟨[a, b, c, d, .val (.str t), .val (.tup (lexT (sl t))), s6, s7, s8, s9], h⟩ =
    .ok (false, ⟨[a, b, c, d, .val (.str t), .val (.tup (lexT (sl t))), s6, s7, s8, s9], h⟩) := by
  have hl := ht.1
  have e := lw_ev 4 ⟨[a, b, c, d, .val (.str t), .val (.tup (lexT (sl t))), s6, s7, s8, s9], h⟩ (sl t) (tx_pl ht) (by omega) (by rw [T_sl] <;> rfl)
  have tk := lexT_toks (tx_pl ht)
  have ln := lexT_len (sl t)
  have to := told_ok_ev (lexT (sl t)) h tk (by omega)
  have ne := toks_ne tk
  revert e
  generalize cP1 tupF (aE (cCall fn__law_words (cCons (cNm 4) (cNil)))) = LW
  intro e
  simp only [sSeq, sSet, sNil, sExp, sRet, sRetN, sCt, sBk, sIf, sAsg, sPar, sAug, sPut, ofG, cC, cNm, cP1, cP2, cP3, cM0, cM1, cNil, cCons, cTup, cLst, cIf, cNot, cAnd, cOr, cCall, cDGet, cDis, cObj, cDis0, cApp, cPopAt, cPop, cSlBo, cLc, tE, tNotT, tAndT, tOrT, tY, aE, aPk, iSeq, ofI, M.bind, M.thn, M.bindN, Fl.thn, Arg.get, R.sl, R.val, stSl, retO, gN, gsN, gsC, gSq, wipeS, mkFn, List.foldr_cons, List.foldr_nil, List.length_cons, List.length_nil, List.map_cons, List.map_nil, List.replicate, List.append_eq, List.cons_append, List.nil_append, List.getElem?_cons_zero, List.getElem?_cons_succ, List.set_cons_zero, List.set_cons_succ, if_true, if_false, Nat.zero_add, Nat.reduceAdd, Nat.reduceSub, Nat.reduceLT, Nat.reduceLeDiff, Nat.reduceEqDiff, Bool.not_true, Bool.not_false, Bool.false_eq_true, Option.map_some, Option.bind_some, and_self, true_and, and_true, reduceCtorEq, e, ne, to]
theorem d3_ev (a c d : Sl) (t : Str) (n k : Nat) (s5 s6 s7 s8 s9 : Sl) (h : List MO) (q : Pen k h) (hk : k + 3 < 1000000000000) (ht : TX n t) (hn : n ≤ 900) : ∃ (s : Str) (h' : List MO), TX (n + 13) s ∧ Pen (k + 3) h' ∧
    d3_law ⟨[a, .val (.obj 0), c, d, .val (.str t), s5, s6, s7, s8, s9], h⟩ = .nx ⟨[a, .val (.obj 0), c, d, .val (.str s), .val (.tup (lexT (sl s))), s6, s7, s8, s9], h'⟩ := by
  obtain ⟨s, h', e, hs, q'⟩ := spoilt_ev n t k h q hk ht (by omega)
  refine ⟨s, h', hs, q', ?_⟩
  have hl := hs.1
  have e2 := wo_ev 4 ⟨[a, .val (.obj 0), c, d, .val (.str s), s5, s6, s7, s8, s9], h'⟩ (sl s) (tx_pl hs) (by omega) (by rw [T_sl] <;> rfl)
  have e3 := two_tests a (.val (.obj 0)) c d s (n + 13) s6 s7 s8 s9 h' hs (by omega)
  have f1 : sSet 4 (cCall fn__law_spoilt (cCons (cNm 1) (cCons (cNm 4) (cNil)))) ⟨[a, .val (.obj 0), c, d, .val (.str t), s5, s6, s7, s8, s9], h⟩ = .nx ⟨[a, .val (.obj 0), c, d, .val (.str s), s5, s6, s7, s8, s9], h'⟩ := by
    simp only [sSeq, sSet, sNil, sExp, sRet, sRetN, sCt, sBk, sIf, sAsg, sPar, sAug, sPut, ofG, cC, cNm, cP1, cP2, cP3, cM0, cM1, cNil, cCons, cTup, cLst, cIf, cNot, cAnd, cOr, cCall, cDGet, cDis, cObj, cDis0, cApp, cPopAt, cPop, cSlBo, cLc, tE, tNotT, tAndT, tOrT, tY, aE, aPk, iSeq, ofI, M.bind, M.thn, M.bindN, Fl.thn, Arg.get, R.sl, R.val, stSl, retO, gN, gsN, gsC, gSq, wipeS, mkFn, List.foldr_cons, List.foldr_nil, List.length_cons, List.length_nil, List.map_cons, List.map_nil, List.replicate, List.append_eq, List.cons_append, List.nil_append, List.getElem?_cons_zero, List.getElem?_cons_succ, List.set_cons_zero, List.set_cons_succ, if_true, if_false, Nat.zero_add, Nat.reduceAdd, Nat.reduceSub, Nat.reduceLT, Nat.reduceLeDiff, Nat.reduceEqDiff, Bool.not_true, Bool.not_false, Bool.false_eq_true, Option.map_some, Option.bind_some, and_self, true_and, and_true, reduceCtorEq, e]
  have f2 : sSet 5 (cCall fn_words_of (cCons (cNm 4) (cNil))) ⟨[a, .val (.obj 0), c, d, .val (.str s), s5, s6, s7, s8, s9], h'⟩ = .nx ⟨[a, .val (.obj 0), c, d, .val (.str s), .val (.tup (lexT (sl s))), s6, s7, s8, s9], h'⟩ := by
    unfold sSet
    rw [e2]
    rfl
  unfold d3_law
  rw [seq_nx f1, seq_nx f2]
  unfold sIf
  rw [e3]
  rfl
theorem end_test {t : Str} (hf : Fine t) : ∃ w ws, ixF (.tup (lexT (sl t))) (.int (-1)) = some (.w (.tup (w :: ws))) ∧ w = .str "end" := by
  obtain ⟨_, _, k, e⟩ := hf
  obtain ⟨ts, a, b, et⟩ := lexT_good e
  refine ⟨.str "end", [.str "", .int a, .int b], ?_, rfl⟩
  rw [et]
  dsimp only [ixF, L2.atI, L2.ixN]
  rw [if_neg (by decide), if_pos (by rw [List.length_append, List.length_singleton]; omega)]
  rw [show (-1 + ((ts ++ [tok "end" "" a b]).length : Int)).toNat = ts.length by rw [List.length_append, List.length_singleton]; omega]
  simp [tok]
theorem d4_ev (a : Sl) (t : W) (ht : Tree t) (lap k : Nat) (s4 s5 s6 s7 s8 s9 : Sl) (h : List MO) (q : Pen k h) (hk : k + 1000009 < 1000000000000) : ∃ (t4 t5 t6 : Sl) (h' : List MO), Pen (k + 1000009) h' ∧
    d4_law ⟨[a, .val (.obj 0), .val t, .val (.int lap), s4, s5, s6, s7, s8, s9], h⟩ = .nx ⟨[a, .val (.obj 0), .val t, .val (.int lap), t4, t5, t6, s7, s8, s9], h'⟩ := by
  have first : ∃ (x : Str) (h1 : List MO), Fine x ∧ Pen (k + 1000000) h1 ∧ sSet 4 (cIf (tE (cP2 gtF (aPk 3) (aE (cC (.int 0))))) (cCall fn__law_loose_text (cCons (cNm 1) (cCons (cNm 2) (cNil)))) (cCall fn__law_text_of (cCons (cNm 2) (cNil)))) ⟨[a, .val (.obj 0), .val t, .val (.int lap), s4, s5, s6, s7, s8, s9], h⟩ =
      .nx ⟨[a, .val (.obj 0), .val t, .val (.int lap), .val (.str x), s5, s6, s7, s8, s9], h1⟩ := by
    by_cases l0 : (0 : Int) < (lap : Int)
    · obtain ⟨x, h1, e, f, q1⟩ := loose_text_ev t k h q (by omega) ht
      refine ⟨x, h1, f, q1, ?_⟩
      simp only [sSeq, sSet, sNil, sExp, sRet, sRetN, sCt, sBk, sIf, sAsg, sPar, sAug, sPut, ofG, cC, cNm, cP1, cP2, cP3, cM0, cM1, cNil, cCons, cTup, cLst, cIf, cNot, cAnd, cOr, cCall, cDGet, cDis, cObj, cDis0, cApp, cPopAt, cPop, cSlBo, cLc, tE, tNotT, tAndT, tOrT, tY, aE, aPk, iSeq, ofI, M.bind, M.thn, M.bindN, Fl.thn, Arg.get, R.sl, R.val, stSl, retO, gN, gsN, gsC, gSq, wipeS, mkFn, List.foldr_cons, List.foldr_nil, List.length_cons, List.length_nil, List.map_cons, List.map_nil, List.replicate, List.append_eq, List.cons_append, List.nil_append, List.getElem?_cons_zero, List.getElem?_cons_succ, List.set_cons_zero, List.set_cons_succ, if_true, if_false, Nat.zero_add, Nat.reduceAdd, Nat.reduceSub, Nat.reduceLT, Nat.reduceLeDiff, Nat.reduceEqDiff, Bool.not_true, Bool.not_false, Bool.false_eq_true, Option.map_some, Option.bind_some, and_self, true_and, and_true, reduceCtorEq, gtF, cmpI, decide_eq_true l0, e]
    · obtain ⟨x, e, f⟩ := text_of_ev t h ht
      refine ⟨x, h, f, q.mono (by omega), ?_⟩
      simp only [sSeq, sSet, sNil, sExp, sRet, sRetN, sCt, sBk, sIf, sAsg, sPar, sAug, sPut, ofG, cC, cNm, cP1, cP2, cP3, cM0, cM1, cNil, cCons, cTup, cLst, cIf, cNot, cAnd, cOr, cCall, cDGet, cDis, cObj, cDis0, cApp, cPopAt, cPop, cSlBo, cLc, tE, tNotT, tAndT, tOrT, tY, aE, aPk, iSeq, ofI, M.bind, M.thn, M.bindN, Fl.thn, Arg.get, R.sl, R.val, stSl, retO, gN, gsN, gsC, gSq, wipeS, mkFn, List.foldr_cons, List.foldr_nil, List.length_cons, List.length_nil, List.map_cons, List.map_nil, List.replicate, List.append_eq, List.cons_append, List.nil_append, List.getElem?_cons_zero, List.getElem?_cons_succ, List.set_cons_zero, List.set_cons_succ, if_true, if_false, Nat.zero_add, Nat.reduceAdd, Nat.reduceSub, Nat.reduceLT, Nat.reduceLeDiff, Nat.reduceEqDiff, Bool.not_true, Bool.not_false, Bool.false_eq_true, Option.map_some, Option.bind_some, and_self, true_and, and_true, reduceCtorEq, gtF, cmpI, decide_eq_false l0, e]
  obtain ⟨x, h1, fx, q1, f1⟩ := first
  have tx : TX 0 x := ⟨fx.1, fx.2.1⟩
  have hl := fx.1
  have e2 := wo_ev 4 ⟨[a, .val (.obj 0), .val t, .val (.int lap), .val (.str x), s5, s6, s7, s8, s9], h1⟩ (sl x) (tx_pl tx) (by omega) (by rw [T_sl] <;> rfl)
  have f2 : sSet 5 (cCall fn_words_of (cCons (cNm 4) (cNil))) ⟨[a, .val (.obj 0), .val t, .val (.int lap), .val (.str x), s5, s6, s7, s8, s9], h1⟩ = .nx ⟨[a, .val (.obj 0), .val t, .val (.int lap), .val (.str x), .val (.tup (lexT (sl x))), s6, s7, s8, s9], h1⟩ := by
    unfold sSet
    rw [e2]
    rfl
  obtain ⟨w, ws, ei, rfl⟩ := end_test fx
  have f3 : sIf (tOrT (tE (cP2 neF (aPk 5) (aE (cP1 tupF (aE (cCall fn__law_words (cCons (cNm 4) (cNil)))))))) (tOrT (tNotT (tE (cCall fn__law_told_ok (cCons (cNm 5) (cNil))))) (tE (cP2 neF (aE (cP2 ixF (aE (cP2 ixF (aPk 5) (aE (cP1 negF (aE (cC (.int 1))))))) (aE (cC (.int 0))))) (aE (cC (.str "end"))))))) (sRet (cC (.bl false))) (sNil)
      ⟨[a, .val (.obj 0), .val t, .val (.int lap), .val (.str x), .val (.tup (lexT (sl x))), s6, s7, s8, s9], h1⟩ = .nx ⟨[a, .val (.obj 0), .val t, .val (.int lap), .val (.str x), .val (.tup (lexT (sl x))), s6, s7, s8, s9], h1⟩ := by
    have e := lw_ev 4 ⟨[a, .val (.obj 0), .val t, .val (.int lap), .val (.str x), .val (.tup (lexT (sl x))), s6, s7, s8, s9], h1⟩ (sl x) (tx_pl tx) (by omega) (by rw [T_sl] <;> rfl)
    have tk := lexT_toks (tx_pl tx)
    have ln := lexT_len (sl x)
    have to := told_ok_ev (lexT (sl x)) h1 tk (by omega)
    have ne := toks_ne tk
    have oe : PyData.strOk "end" = true := by decide +kernel
    have nee : neF (.str "end") (.str "end") = some (.w (.bl false)) := by
      simp only [neF, eq_S _ _ _ oe oe, decide_true]
      rfl
    revert e
    generalize cP1 tupF (aE (cCall fn__law_words (cCons (cNm 4) (cNil)))) = LW
    intro e
    simp only [sSeq, sSet, sNil, sExp, sRet, sRetN, sCt, sBk, sIf, sAsg, sPar, sAug, sPut, ofG, cC, cNm, cP1, cP2, cP3, cM0, cM1, cNil, cCons, cTup, cLst, cIf, cNot, cAnd, cOr, cCall, cDGet, cDis, cObj, cDis0, cApp, cPopAt, cPop, cSlBo, cLc, tE, tNotT, tAndT, tOrT, tY, aE, aPk, iSeq, ofI, M.bind, M.thn, M.bindN, Fl.thn, Arg.get, R.sl, R.val, stSl, retO, gN, gsN, gsC, gSq, wipeS, mkFn, List.foldr_cons, List.foldr_nil, List.length_cons, List.length_nil, List.map_cons, List.map_nil, List.replicate, List.append_eq, List.cons_append, List.nil_append, List.getElem?_cons_zero, List.getElem?_cons_succ, List.set_cons_zero, List.set_cons_succ, if_true, if_false, Nat.zero_add, Nat.reduceAdd, Nat.reduceSub, Nat.reduceLT, Nat.reduceLeDiff, Nat.reduceEqDiff, Bool.not_true, Bool.not_false, Bool.false_eq_true, Option.map_some, Option.bind_some, and_self, true_and, and_true, reduceCtorEq, e, ne, to, negF, ei, ix_U0, nee]
  have loop : ∃ (t4 t5 t6 : Sl) (h' : List MO), Pen (k + 1000009) h' ∧ sFor (iRng1' (cC (.int 3))) (gN 6) (d3_law) ⟨[a, .val (.obj 0), .val t, .val (.int lap), .val (.str x), .val (.tup (lexT (sl x))), s6, s7, s8, s9], h1⟩ = .nx ⟨[a, .val (.obj 0), .val t, .val (.int lap), t4, t5, t6, s7, s8, s9], h'⟩ := by
    rw [sFor_rng 3 (by omega) (cC (.int 3)) ⟨[a, .val (.obj 0), .val t, .val (.int lap), .val (.str x), .val (.tup (lexT (sl x))), s6, s7, s8, s9], h1⟩ ⟨[a, .val (.obj 0), .val t, .val (.int lap), .val (.str x), .val (.tup (lexT (sl x))), s6, s7, s8, s9], h1⟩ (.w (.int 3)) rfl rfl]
    refine for_rng 3 (fun i S => ∃ (y : Str) (t5 t6 : Sl) (h' : List MO), TX (13 * i) y ∧ Pen (k + 1000000 + 3 * i) h' ∧ S = ⟨[a, .val (.obj 0), .val t, .val (.int lap), .val (.str y), t5, t6, s7, s8, s9], h'⟩)
      (fun o => ∃ (t4 t5 t6 : Sl) (h' : List MO), Pen (k + 1000009) h' ∧ o = .nx ⟨[a, .val (.obj 0), .val t, .val (.int lap), t4, t5, t6, s7, s8, s9], h'⟩) ?_ ?_ _ ⟨x, _, _, h1, tx, q1, rfl⟩
    · rintro S ⟨y, t5, t6, h', _, q', rfl⟩
      exact ⟨_, t5, t6, h', q'.mono (by omega), rfl⟩
    · rintro i S li ⟨y, t5, t6, h', hy, q', rfl⟩
      obtain ⟨z, h2, hz, q2, e⟩ := d3_ev a (.val t) (.val (.int lap)) y (13 * i) (k + 1000000 + 3 * i) t5 (.val (.int i)) s7 s8 s9 h' q' (by omega) hy (by omega)
      simp only [sSeq, sSet, sNil, sExp, sRet, sRetN, sCt, sBk, sIf, sAsg, sPar, sAug, sPut, ofG, cC, cNm, cP1, cP2, cP3, cM0, cM1, cNil, cCons, cTup, cLst, cIf, cNot, cAnd, cOr, cCall, cDGet, cDis, cObj, cDis0, cApp, cPopAt, cPop, cSlBo, cLc, tE, tNotT, tAndT, tOrT, tY, aE, aPk, iSeq, ofI, M.bind, M.thn, M.bindN, Fl.thn, Arg.get, R.sl, R.val, stSl, retO, gN, gsN, gsC, gSq, wipeS, mkFn, List.foldr_cons, List.foldr_nil, List.length_cons, List.length_nil, List.map_cons, List.map_nil, List.replicate, List.append_eq, List.cons_append, List.nil_append, List.getElem?_cons_zero, List.getElem?_cons_succ, List.set_cons_zero, List.set_cons_succ, if_true, if_false, Nat.zero_add, Nat.reduceAdd, Nat.reduceSub, Nat.reduceLT, Nat.reduceLeDiff, Nat.reduceEqDiff, Bool.not_true, Bool.not_false, Bool.false_eq_true, Option.map_some, Option.bind_some, and_self, true_and, and_true, reduceCtorEq, EvG, e, Turn]
      exact ⟨z, _, _, h2, by rw [Nat.mul_add]; exact hz, q2.mono (by omega), rfl⟩
  obtain ⟨t4, t5, t6, h', q', el⟩ := loop
  refine ⟨t4, t5, t6, h', q', ?_⟩
  unfold d4_law
  rw [seq_nx f1, seq_nx f2, seq_nx f3]
  exact el
theorem w1 (h : List MO) : fn_words_of [.str ""] h = .ok (.w (.tup [.tup [.str "end", .str "", .int 0, .int 0]])) h := by kernel_rfl
theorem w2 (h : List MO) : fn_words_of [.str "a\n # b"] h = .ok (.w (.tup [.tup [.str "name", .str "a", .int 0, .int 0], .tup [.str "end", .str "", .int 1, .int 4]])) h := by kernel_rfl
theorem w3 (h : List MO) : fn_words_of [.str "x 1"] h = .ok (.w (.tup [.tup [.str "name", .str "x", .int 0, .int 0], .tup [.str "bad", .str "sign", .int 0, .int 2]])) h := by kernel_rfl
theorem w4 (h : List MO) : fn_words_of [.str "f(x1)="] h = .ok (.w (.tup [.tup [.str "name", .str "f", .int 0, .int 0], .tup [.str "sign", .str "(", .int 0, .int 1], .tup [.str "name", .str "x1", .int 0, .int 2], .tup [.str "sign", .str ")", .int 0, .int 4], .tup [.str "sign", .str "=", .int 0, .int 5], .tup [.str "end", .str "", .int 0, .int 6]])) h := by kernel_rfl
theorem w5 (h : List MO) : fn_words_of [.str "out gives"] h = .ok (.w (.tup [.tup [.str "own", .str "out", .int 0, .int 0], .tup [.str "name", .str "gives", .int 0, .int 4], .tup [.str "end", .str "", .int 0, .int 9]])) h := by kernel_rfl
theorem n1 : neF (.tup [.tup [.str "end", .str "", .int 0, .int 0]]) (.tup [.tup [.str "end", .str "", .int 0, .int 0]]) = some (.w (.bl false)) := by kernel_rfl
theorem n2 : neF (.tup [.tup [.str "name", .str "a", .int 0, .int 0], .tup [.str "end", .str "", .int 1, .int 4]]) (.tup [.tup [.str "name", .str "a", .int 0, .int 0], .tup [.str "end", .str "", .int 1, .int 4]]) = some (.w (.bl false)) := by kernel_rfl
theorem n3 : neF (.tup [.tup [.str "name", .str "x", .int 0, .int 0], .tup [.str "bad", .str "sign", .int 0, .int 2]]) (.tup [.tup [.str "name", .str "x", .int 0, .int 0], .tup [.str "bad", .str "sign", .int 0, .int 2]]) = some (.w (.bl false)) := by kernel_rfl
theorem n4 : eqF (.tup [.tup [.str "name", .str "f", .int 0, .int 0], .tup [.str "sign", .str "(", .int 0, .int 1], .tup [.str "name", .str "x1", .int 0, .int 2], .tup [.str "sign", .str ")", .int 0, .int 4], .tup [.str "sign", .str "=", .int 0, .int 5], .tup [.str "end", .str "", .int 0, .int 6]])
  (.tup [.tup [.str "name", .str "f", .int 0, .int 0], .tup [.str "sign", .str "(", .int 0, .int 1], .tup [.str "name", .str "x1", .int 0, .int 2], .tup [.str "sign", .str ")", .int 0, .int 4], .tup [.str "sign", .str "=", .int 0, .int 5], .tup [.str "end", .str "", .int 0, .int 6]]) = some (.w (.bl true)) := by kernel_rfl
theorem n5 : eqF (.tup [.tup [.str "own", .str "out", .int 0, .int 0], .tup [.str "name", .str "gives", .int 0, .int 4], .tup [.str "end", .str "", .int 0, .int 9]]) (.tup [.tup [.str "own", .str "out", .int 0, .int 0], .tup [.str "name", .str "gives", .int 0, .int 4], .tup [.str "end", .str "", .int 0, .int 9]]) = some (.w (.bl true)) := by kernel_rfl
theorem nb : neF (.tup [.tup [.str "bad", .str "text", .int 0, .int 0]]) (.tup [.tup [.str "bad", .str "text", .int 0, .int 0]]) = some (.w (.bl false)) := by kernel_rfl
/-- what is no text -/
theorem odd_ev (w : W) (h : List MO) (hw : isTy w .str = some false) : fn_words_of [w] h = .ok (.w (.tup [.tup [.str "bad", .str "text", .int 0, .int 0]])) h := by
  simp only [fn_words_of, b_words_of, N_words_of, sSeq, sSet, sNil, sExp, sRet, sRetN, sCt, sBk, sIf, sAsg, sPar, sAug, sPut, ofG, cC, cNm, cP1, cP2, cP3, cM0, cM1, cNil, cCons, cTup, cLst, cIf, cNot, cAnd, cOr, cCall, cDGet, cDis, cObj, cDis0, cApp, cPopAt, cPop, cSlBo, cLc, tE, tNotT, tAndT, tOrT, tY, aE, aPk, iSeq, ofI, M.bind, M.thn, M.bindN, Fl.thn, Arg.get, R.sl, R.val, stSl, retO, gN, gsN, gsC, gSq, wipeS, mkFn, List.foldr_cons, List.foldr_nil, List.length_cons, List.length_nil, List.map_cons, List.map_nil, List.replicate, List.append_eq, List.cons_append, List.nil_append, List.getElem?_cons_zero, List.getElem?_cons_succ, List.set_cons_zero, List.set_cons_succ, if_true, if_false, Nat.zero_add, Nat.reduceAdd, Nat.reduceSub, Nat.reduceLT, Nat.reduceLeDiff, Nat.reduceEqDiff, Bool.not_true, Bool.not_false, Bool.false_eq_true, Option.map_some, Option.bind_some, and_self, true_and, and_true, reduceCtorEq, isiF, hw]
def rowS : List Str := ["a", "b", "_", "0", "9", " ", ",", ";", ":", "=", "(", ")", "{", "}", "#", "\n", ".", "proc", "only", "either", "given"]
theorem rowS_ok : ∀ x ∈ rowS, x.length ≤ 6 ∧ ∀ c ∈ sl x, c < 128 := by decide +kernel
theorem rowS_list : listF (.str "ab_09 ,;:=(){}#\n.") = some (.fr (.lst ((rowS.take 17).map W.str))) := by kernel_rfl
theorem rowS_add : addF (.lst ((rowS.take 17).map W.str)) (.lst [.str "proc", .str "only", .str "either", .str "given"]) = some (.fr (.lst (rowS.map W.str))) := by kernel_rfl
theorem row_lc (a c d s4 s5 s6 s7 s9 : Sl) (m k : Nat) (hm : m ≤ 30) (h : List MO) (q : Pen k h) (hk : k + 100 < 1000000000000) : ∃ (ts : List Str) (h' : List MO), (∀ t ∈ ts, t ∈ rowS) ∧ ts.length = m ∧ Pen (k + 30) h' ∧
    lcL [8] (gN 8) tY l2_law (rngItems 0 m) [] ⟨[a, .val (.obj 0), c, d, s4, s5, s6, s7, .un, s9], h⟩ = .ok (.fr (.lst (ts.map W.str)), ⟨[a, .val (.obj 0), c, d, s4, s5, s6, s7, .un, s9], h'⟩) := by
  obtain ⟨xs, S', e, l, ⟨ts, rfl, ht⟩, h', q', rfl⟩ := lc_rng (own := [8]) (g := gN 8) (elt := l2_law) m (by omega)
    (fun i acc S => (∃ ts : List Str, acc = ts.map W.str ∧ ∀ t ∈ ts, t ∈ rowS) ∧ ∃ h', Pen (k + i) h' ∧ S = ⟨[a, .val (.obj 0), c, d, s4, s5, s6, s7, .un, s9], h'⟩) (by
      rintro i acc S li ea ⟨⟨ts, rfl, ht⟩, h', q', rfl⟩
      obtain ⟨w, h2, mw, e, q2⟩ := pick_ev _ h' (rowS.map W.str) q' (by decide) (by decide) (by omega)
      obtain ⟨x, mx, rfl⟩ := List.mem_map.mp mw
      simp only [sSeq, sSet, sNil, sExp, sRet, sRetN, sCt, sBk, sIf, sAsg, sPar, sAug, sPut, ofG, cC, cNm, cP1, cP2, cP3, cM0, cM1, cNil, cCons, cTup, cLst, cIf, cNot, cAnd, cOr, cCall, cDGet, cDis, cObj, cDis0, cApp, cPopAt, cPop, cSlBo, cLc, tE, tNotT, tAndT, tOrT, tY, aE, aPk, iSeq, ofI, M.bind, M.thn, M.bindN, Fl.thn, Arg.get, R.sl, R.val, stSl, retO, gN, gsN, gsC, gSq, wipeS, mkFn, List.foldr_cons, List.foldr_nil, List.length_cons, List.length_nil, List.map_cons, List.map_nil, List.replicate, List.append_eq, List.cons_append, List.nil_append, List.getElem?_cons_zero, List.getElem?_cons_succ, List.set_cons_zero, List.set_cons_succ, if_true, if_false, Nat.zero_add, Nat.reduceAdd, Nat.reduceSub, Nat.reduceLT, Nat.reduceLeDiff, Nat.reduceEqDiff, Bool.not_true, Bool.not_false, Bool.false_eq_true, Option.map_some, Option.bind_some, and_self, true_and, and_true, reduceCtorEq, EvG, Ev, l2_law, rowS_list, rowS_add, e]
      refine ⟨⟨ts ++ [x], by rw [List.map_append] <;> rfl, fun t h => ?_⟩, h2, q2, rfl⟩
      rcases List.mem_append.mp h with h | h
      · exact ht t h
      · rw [List.mem_singleton.mp h]
        exact mx) ⟨[a, .val (.obj 0), c, d, s4, s5, s6, s7, .un, s9], h⟩ ⟨⟨[], rfl, fun t h => by cases h⟩, h, q, rfl⟩
  exact ⟨ts, h', ht, by simpa using l, q'.mono (by omega), e⟩
theorem law_true (ns : List Int) (hns : ns.length ≤ 63) : ∃ h', fn_law [.rol (ns.map W.int)] [] = .ok (.w (.bl true)) h' := by
  obtain ⟨h1, e1, q1⟩ := pen_ev ns
  obtain ⟨t, h2, e2, ht, q2⟩ := book_ev 0 h1 q1 (by omega)
  have f1 : sSet 1 (cCall fn__law_pen (cCons (cNm 0) (cNil))) ⟨[.val (.rol (ns.map W.int)), .un, .un, .un, .un, .un, .un, .un, .un, .un], []⟩ = .nx ⟨[.val (.rol (ns.map W.int)), .val (.obj 0), .un, .un, .un, .un, .un, .un, .un, .un], h1⟩ := by
    simp only [sSeq, sSet, sNil, sExp, sRet, sRetN, sCt, sBk, sIf, sAsg, sPar, sAug, sPut, ofG, cC, cNm, cP1, cP2, cP3, cM0, cM1, cNil, cCons, cTup, cLst, cIf, cNot, cAnd, cOr, cCall, cDGet, cDis, cObj, cDis0, cApp, cPopAt, cPop, cSlBo, cLc, tE, tNotT, tAndT, tOrT, tY, aE, aPk, iSeq, ofI, M.bind, M.thn, M.bindN, Fl.thn, Arg.get, R.sl, R.val, stSl, retO, gN, gsN, gsC, gSq, wipeS, mkFn, List.foldr_cons, List.foldr_nil, List.length_cons, List.length_nil, List.map_cons, List.map_nil, List.replicate, List.append_eq, List.cons_append, List.nil_append, List.getElem?_cons_zero, List.getElem?_cons_succ, List.set_cons_zero, List.set_cons_succ, if_true, if_false, Nat.zero_add, Nat.reduceAdd, Nat.reduceSub, Nat.reduceLT, Nat.reduceLeDiff, Nat.reduceEqDiff, Bool.not_true, Bool.not_false, Bool.false_eq_true, Option.map_some, Option.bind_some, and_self, true_and, and_true, reduceCtorEq, e1]
  have f2 : sSet 2 (cCall fn__law_book (cCons (cNm 1) (cNil))) ⟨[.val (.rol (ns.map W.int)), .val (.obj 0), .un, .un, .un, .un, .un, .un, .un, .un], h1⟩ = .nx ⟨[.val (.rol (ns.map W.int)), .val (.obj 0), .val t, .un, .un, .un, .un, .un, .un, .un], h2⟩ := by
    simp only [sSeq, sSet, sNil, sExp, sRet, sRetN, sCt, sBk, sIf, sAsg, sPar, sAug, sPut, ofG, cC, cNm, cP1, cP2, cP3, cM0, cM1, cNil, cCons, cTup, cLst, cIf, cNot, cAnd, cOr, cCall, cDGet, cDis, cObj, cDis0, cApp, cPopAt, cPop, cSlBo, cLc, tE, tNotT, tAndT, tOrT, tY, aE, aPk, iSeq, ofI, M.bind, M.thn, M.bindN, Fl.thn, Arg.get, R.sl, R.val, stSl, retO, gN, gsN, gsC, gSq, wipeS, mkFn, List.foldr_cons, List.foldr_nil, List.length_cons, List.length_nil, List.map_cons, List.map_nil, List.replicate, List.append_eq, List.cons_append, List.nil_append, List.getElem?_cons_zero, List.getElem?_cons_succ, List.set_cons_zero, List.set_cons_succ, if_true, if_false, Nat.zero_add, Nat.reduceAdd, Nat.reduceSub, Nat.reduceLT, Nat.reduceLeDiff, Nat.reduceEqDiff, Bool.not_true, Bool.not_false, Bool.false_eq_true, Option.map_some, Option.bind_some, and_self, true_and, and_true, reduceCtorEq, e2]
  have f3 : ∃ (s3 s4 s5 s6 : Sl) (h3 : List MO), Pen (300000 + 4 * 1000009) h3 ∧ sFor (iRng1' (cC (.int 4))) (gN 3) (d4_law) ⟨[.val (.rol (ns.map W.int)), .val (.obj 0), .val t, .un, .un, .un, .un, .un, .un, .un], h2⟩ = .nx ⟨[.val (.rol (ns.map W.int)), .val (.obj 0), .val t, s3, s4, s5, s6, .un, .un, .un], h3⟩ := by
    rw [sFor_rng 4 (by omega) (cC (.int 4)) ⟨[.val (.rol (ns.map W.int)), .val (.obj 0), .val t, .un, .un, .un, .un, .un, .un, .un], h2⟩ ⟨[.val (.rol (ns.map W.int)), .val (.obj 0), .val t, .un, .un, .un, .un, .un, .un, .un], h2⟩ (.w (.int 4)) rfl rfl]
    refine for_rng 4 (fun i S => ∃ (s3 s4 s5 s6 : Sl) (h3 : List MO), Pen (300000 + i * 1000009) h3 ∧ S = ⟨[.val (.rol (ns.map W.int)), .val (.obj 0), .val t, s3, s4, s5, s6, .un, .un, .un], h3⟩)
      (fun o => ∃ (s3 s4 s5 s6 : Sl) (h3 : List MO), Pen (300000 + 4 * 1000009) h3 ∧ o = .nx ⟨[.val (.rol (ns.map W.int)), .val (.obj 0), .val t, s3, s4, s5, s6, .un, .un, .un], h3⟩) ?_ ?_ _ ⟨_, _, _, _, h2, by simpa using q2, rfl⟩
    · rintro S ⟨s3, s4, s5, s6, h3, q, rfl⟩
      exact ⟨s3, s4, s5, s6, h3, q, rfl⟩
    · rintro i S li ⟨s3, s4, s5, s6, h3, q, rfl⟩
      obtain ⟨t4, t5, t6, h4, q4, e⟩ := d4_ev (.val (.rol (ns.map W.int))) t ht i _ s4 s5 s6 .un .un .un h3 q (by omega)
      simp only [sSeq, sSet, sNil, sExp, sRet, sRetN, sCt, sBk, sIf, sAsg, sPar, sAug, sPut, ofG, cC, cNm, cP1, cP2, cP3, cM0, cM1, cNil, cCons, cTup, cLst, cIf, cNot, cAnd, cOr, cCall, cDGet, cDis, cObj, cDis0, cApp, cPopAt, cPop, cSlBo, cLc, tE, tNotT, tAndT, tOrT, tY, aE, aPk, iSeq, ofI, M.bind, M.thn, M.bindN, Fl.thn, Arg.get, R.sl, R.val, stSl, retO, gN, gsN, gsC, gSq, wipeS, mkFn, List.foldr_cons, List.foldr_nil, List.length_cons, List.length_nil, List.map_cons, List.map_nil, List.replicate, List.append_eq, List.cons_append, List.nil_append, List.getElem?_cons_zero, List.getElem?_cons_succ, List.set_cons_zero, List.set_cons_succ, if_true, if_false, Nat.zero_add, Nat.reduceAdd, Nat.reduceSub, Nat.reduceLT, Nat.reduceLeDiff, Nat.reduceEqDiff, Bool.not_true, Bool.not_false, Bool.false_eq_true, Option.map_some, Option.bind_some, and_self, true_and, and_true, reduceCtorEq, EvG, e, Turn]
      exact ⟨_, _, _, _, h4, q4.mono (by omega), rfl⟩
  obtain ⟨s3, s4, s5, s6, h3, q3, f3⟩ := f3
  obtain ⟨m, h4, e4, lm, q4⟩ := draw_ev _ 30 h3 q3 (by omega) (by omega) (by omega)
  obtain ⟨ts, h5, hts, lts, q5, e5⟩ := row_lc (.val (.rol (ns.map W.int))) (.val t) s3 s4 s5 s6 .un .un m _ (by omega) h4 q4 (by omega)
  have z0 : ("" : Str).length = 0 := by decide +kernel
  obtain ⟨j1, j2⟩ := join_le "" ts 6 fun x hx => (rowS_ok x (hts x hx)).1
  rw [z0] at j1
  have jo := join_evL "" ts (by rw [z0]; omega)
  have rowp : ∀ ts : List Str, (∀ x ∈ ts, x ∈ rowS) → ∀ c ∈ sl (Str.join "" ts), c < 128 := by
    intro ts
    induction ts with
    | nil => intro _ c hc; cases hc
    | cons x r ih =>
      intro hg c hc
      cases r with
      | nil => exact (rowS_ok x (hg x (by simp))).2 c hc
      | cons y r =>
        have e : sl (Str.join "" (x :: y :: r)) = sl x ++ sl "" ++ sl (Str.join "" (y :: r)) := by
          show sl (x ++ "" ++ Str.join "" (y :: r)) = _
          rw [sl_app, sl_app]
        rw [e] at hc
        rcases List.mem_append.mp hc with hc | hc
        · rcases List.mem_append.mp hc with hc | hc
          · exact (rowS_ok x (hg x (by simp))).2 c hc
          · have : ∀ c ∈ sl ("" : Str), c < 128 := by decide +kernel
            exact this c hc
        · exact ih (fun q hq => hg q (List.mem_cons_of_mem _ hq)) c hc
  have e4' : fn__law_draw [.obj 0, .int 30] h3 = .ok (.w (.int m)) h4 := e4
  have lc : cLc [8] (iRng1' (cCall fn__law_draw (cCons (cNm 1) (cCons (cC (.int 30)) (cNil))))) (gN 8) (tY) (l2_law) ⟨[.val (.rol (ns.map W.int)), .val (.obj 0), .val t, s3, s4, s5, s6, .un, .un, .un], h3⟩ = .ok (.fr (.lst (ts.map W.str)), ⟨[.val (.rol (ns.map W.int)), .val (.obj 0), .val t, s3, s4, s5, s6, .un, .un, .un], h5⟩) := by
    rw [cLc_rng m (by omega) (cCall fn__law_draw (cCons (cNm 1) (cCons (cC (.int 30)) (cNil)))) ⟨[.val (.rol (ns.map W.int)), .val (.obj 0), .val t, s3, s4, s5, s6, .un, .un, .un], h3⟩ ⟨[.val (.rol (ns.map W.int)), .val (.obj 0), .val t, s3, s4, s5, s6, .un, .un, .un], h4⟩ (.w (.int m)) (by simp only [sSeq, sSet, sNil, sExp, sRet, sRetN, sCt, sBk, sIf, sAsg, sPar, sAug, sPut, ofG, cC, cNm, cP1, cP2, cP3, cM0, cM1, cNil, cCons, cTup, cLst, cIf, cNot, cAnd, cOr, cCall, cDGet, cDis, cObj, cDis0, cApp, cPopAt, cPop, cSlBo, cLc, tE, tNotT, tAndT, tOrT, tY, aE, aPk, iSeq, ofI, M.bind, M.thn, M.bindN, Fl.thn, Arg.get, R.sl, R.val, stSl, retO, gN, gsN, gsC, gSq, wipeS, mkFn, List.foldr_cons, List.foldr_nil, List.length_cons, List.length_nil, List.map_cons, List.map_nil, List.replicate, List.append_eq, List.cons_append, List.nil_append, List.getElem?_cons_zero, List.getElem?_cons_succ, List.set_cons_zero, List.set_cons_succ, if_true, if_false, Nat.zero_add, Nat.reduceAdd, Nat.reduceSub, Nat.reduceLT, Nat.reduceLeDiff, Nat.reduceEqDiff, Bool.not_true, Bool.not_false, Bool.false_eq_true, Option.map_some, Option.bind_some, and_self, true_and, and_true, reduceCtorEq, e4']) rfl]
    exact e5
  have f4 : sSet 7 (cM1 joinF (aE (cC (.str ""))) (aE (cLc [8] (iRng1' (cCall fn__law_draw (cCons (cNm 1) (cCons (cC (.int 30)) (cNil))))) (gN 8) (tY) (l2_law)))) ⟨[.val (.rol (ns.map W.int)), .val (.obj 0), .val t, s3, s4, s5, s6, .un, .un, .un], h3⟩ = .nx ⟨[.val (.rol (ns.map W.int)), .val (.obj 0), .val t, s3, s4, s5, s6, .val (.str (Str.join "" ts)), .un, .un], h5⟩ := by
    revert lc
    generalize cLc [8] (iRng1' (cCall fn__law_draw (cCons (cNm 1) (cCons (cC (.int 30)) (cNil))))) (gN 8) (tY) (l2_law) = CL
    intro lc
    simp only [sSeq, sSet, sNil, sExp, sRet, sRetN, sCt, sBk, sIf, sAsg, sPar, sAug, sPut, ofG, cC, cNm, cP1, cP2, cP3, cM0, cM1, cNil, cCons, cTup, cLst, cIf, cNot, cAnd, cOr, cCall, cDGet, cDis, cObj, cDis0, cApp, cPopAt, cPop, cSlBo, cLc, tE, tNotT, tAndT, tOrT, tY, aE, aPk, iSeq, ofI, M.bind, M.thn, M.bindN, Fl.thn, Arg.get, R.sl, R.val, stSl, retO, gN, gsN, gsC, gSq, wipeS, mkFn, List.foldr_cons, List.foldr_nil, List.length_cons, List.length_nil, List.map_cons, List.map_nil, List.replicate, List.append_eq, List.cons_append, List.nil_append, List.getElem?_cons_zero, List.getElem?_cons_succ, List.set_cons_zero, List.set_cons_succ, if_true, if_false, Nat.zero_add, Nat.reduceAdd, Nat.reduceSub, Nat.reduceLT, Nat.reduceLeDiff, Nat.reduceEqDiff, Bool.not_true, Bool.not_false, Bool.false_eq_true, Option.map_some, Option.bind_some, and_self, true_and, and_true, reduceCtorEq, lc, jo]
  have tx : TX 0 (Str.join "" ts) := ⟨by rw [← len_sl]; omega, rowp ts hts⟩
  revert f4
  generalize Str.join "" ts = u at *
  intro f4
  have hl := tx.1
  have f5 : sIf (tE (cP2 neF (aE (cCall fn_words_of (cCons (cNm 7) (cNil)))) (aE (cP1 tupF (aE (cCall fn__law_words (cCons (cNm 7) (cNil)))))))) (sRet (cC (.bl false))) (sNil) ⟨[.val (.rol (ns.map W.int)), .val (.obj 0), .val t, s3, s4, s5, s6, .val (.str u), .un, .un], h5⟩ = .nx ⟨[.val (.rol (ns.map W.int)), .val (.obj 0), .val t, s3, s4, s5, s6, .val (.str u), .un, .un], h5⟩ := by
    have a := lw_ev 7 ⟨[.val (.rol (ns.map W.int)), .val (.obj 0), .val t, s3, s4, s5, s6, .val (.str u), .un, .un], h5⟩ (sl u) (tx_pl tx) (by omega) (by rw [T_sl] <;> rfl)
    have b := wo_ev 7 ⟨[.val (.rol (ns.map W.int)), .val (.obj 0), .val t, s3, s4, s5, s6, .val (.str u), .un, .un], h5⟩ (sl u) (tx_pl tx) (by omega) (by rw [T_sl] <;> rfl)
    have ne := toks_ne (lexT_toks (tx_pl tx))
    revert a b
    generalize cP1 tupF (aE (cCall fn__law_words (cCons (cNm 7) (cNil)))) = LW
    generalize cCall fn_words_of (cCons (cNm 7) (cNil)) = WO
    intro a b
    simp only [sSeq, sSet, sNil, sExp, sRet, sRetN, sCt, sBk, sIf, sAsg, sPar, sAug, sPut, ofG, cC, cNm, cP1, cP2, cP3, cM0, cM1, cNil, cCons, cTup, cLst, cIf, cNot, cAnd, cOr, cCall, cDGet, cDis, cObj, cDis0, cApp, cPopAt, cPop, cSlBo, cLc, tE, tNotT, tAndT, tOrT, tY, aE, aPk, iSeq, ofI, M.bind, M.thn, M.bindN, Fl.thn, Arg.get, R.sl, R.val, stSl, retO, gN, gsN, gsC, gSq, wipeS, mkFn, List.foldr_cons, List.foldr_nil, List.length_cons, List.length_nil, List.map_cons, List.map_nil, List.replicate, List.append_eq, List.cons_append, List.nil_append, List.getElem?_cons_zero, List.getElem?_cons_succ, List.set_cons_zero, List.set_cons_succ, if_true, if_false, Nat.zero_add, Nat.reduceAdd, Nat.reduceSub, Nat.reduceLT, Nat.reduceLeDiff, Nat.reduceEqDiff, Bool.not_true, Bool.not_false, Bool.false_eq_true, Option.map_some, Option.bind_some, and_self, true_and, and_true, reduceCtorEq, a, b, ne]
  have f6 : ∃ s9 : Sl, sFor (iSeq (cLst (cCons (cC .non) (cCons (cC (.int 5)) (cCons (cC (.bl true)) (cCons (cLst (cCons (cC (.str "a")) (cNil))) (cCons (cTup (cCons (cC (.str "a")) (cNil))) (cCons (cDis [.inr "a"] (cCons (cC (.int 1)) (cNil))) (cNil))))))))) (gN 9) (d1_law) ⟨[.val (.rol (ns.map W.int)), .val (.obj 0), .val t, s3, s4, s5, s6, .val (.str u), .un, .un], h5⟩ = .nx ⟨[.val (.rol (ns.map W.int)), .val (.obj 0), .val t, s3, s4, s5, s6, .val (.str u), .un, s9], h5⟩ := by
    have it : iSeq (cLst (cCons (cC .non) (cCons (cC (.int 5)) (cCons (cC (.bl true)) (cCons (cLst (cCons (cC (.str "a")) (cNil))) (cCons (cTup (cCons (cC (.str "a")) (cNil))) (cCons (cDis [.inr "a"] (cCons (cC (.int 1)) (cNil))) (cNil)))))))) ⟨[.val (.rol (ns.map W.int)), .val (.obj 0), .val t, s3, s4, s5, s6, .val (.str u), .un, .un], h5⟩ =
        .ok ([.non, .int 5, .bl true, .lst [.str "a"], .tup [.str "a"], .dic [.inr "a"] [.int 1]], ⟨[.val (.rol (ns.map W.int)), .val (.obj 0), .val t, s3, s4, s5, s6, .val (.str u), .un, .un], h5⟩) := by kernel_rfl
    unfold sFor
    rw [it]
    dsimp only [M.thn]
    refine for_at [.non, .int 5, .bl true, .lst [.str "a"], .tup [.str "a"], .dic [.inr "a"] [.int 1]] (fun i S => ∃ s9 : Sl, S = ⟨[.val (.rol (ns.map W.int)), .val (.obj 0), .val t, s3, s4, s5, s6, .val (.str u), .un, s9], h5⟩)
      (fun o => ∃ s9 : Sl, o = .nx ⟨[.val (.rol (ns.map W.int)), .val (.obj 0), .val t, s3, s4, s5, s6, .val (.str u), .un, s9], h5⟩) ?_ ?_ _ ⟨_, rfl⟩
    · rintro S ⟨s9, rfl⟩
      exact ⟨s9, rfl⟩
    · rintro i w S ew ⟨s9, rfl⟩
      have hw : isTy w .str = some false := by
        have := List.mem_of_getElem? ew
        simp only [List.mem_cons, List.not_mem_nil, or_false] at this
        rcases this with rfl | rfl | rfl | rfl | rfl | rfl <;> rfl
      simp only [sSeq, sSet, sNil, sExp, sRet, sRetN, sCt, sBk, sIf, sAsg, sPar, sAug, sPut, ofG, cC, cNm, cP1, cP2, cP3, cM0, cM1, cNil, cCons, cTup, cLst, cIf, cNot, cAnd, cOr, cCall, cDGet, cDis, cObj, cDis0, cApp, cPopAt, cPop, cSlBo, cLc, tE, tNotT, tAndT, tOrT, tY, aE, aPk, iSeq, ofI, M.bind, M.thn, M.bindN, Fl.thn, Arg.get, R.sl, R.val, stSl, retO, gN, gsN, gsC, gSq, wipeS, mkFn, List.foldr_cons, List.foldr_nil, List.length_cons, List.length_nil, List.map_cons, List.map_nil, List.replicate, List.append_eq, List.cons_append, List.nil_append, List.getElem?_cons_zero, List.getElem?_cons_succ, List.set_cons_zero, List.set_cons_succ, if_true, if_false, Nat.zero_add, Nat.reduceAdd, Nat.reduceSub, Nat.reduceLT, Nat.reduceLeDiff, Nat.reduceEqDiff, Bool.not_true, Bool.not_false, Bool.false_eq_true, Option.map_some, Option.bind_some, and_self, true_and, and_true, reduceCtorEq, EvG, d1_law, odd_ev w h5 hw, nb, Turn]
      exact ⟨_, rfl⟩
  obtain ⟨s9, f6⟩ := f6
  refine ⟨h5, ?_⟩
  rw [show fn_law = mkFn 1 10 b_law from rfl]
  unfold mkFn b_law
  simp only [List.length_cons, List.length_nil, List.map_cons, List.map_nil, List.replicate, List.append_eq, List.cons_append, List.nil_append, if_true, if_false, Nat.zero_add, Nat.reduceAdd, Nat.reduceSub, Nat.reduceLT, Nat.reduceEqDiff]
  rw [seq_nx f1, seq_nx f2, seq_nx f3, seq_nx f4, seq_nx f5, seq_nx f6]
  simp only [sSeq, sSet, sNil, sExp, sRet, sRetN, sCt, sBk, sIf, sAsg, sPar, sAug, sPut, ofG, cC, cNm, cP1, cP2, cP3, cM0, cM1, cNil, cCons, cTup, cLst, cIf, cNot, cAnd, cOr, cCall, cDGet, cDis, cObj, cDis0, cApp, cPopAt, cPop, cSlBo, cLc, tE, tNotT, tAndT, tOrT, tY, aE, aPk, iSeq, ofI, M.bind, M.thn, M.bindN, Fl.thn, Arg.get, R.sl, R.val, stSl, retO, gN, gsN, gsC, gSq, wipeS, mkFn, List.foldr_cons, List.foldr_nil, List.length_cons, List.length_nil, List.map_cons, List.map_nil, List.replicate, List.append_eq, List.cons_append, List.nil_append, List.getElem?_cons_zero, List.getElem?_cons_succ, List.set_cons_zero, List.set_cons_succ, if_true, if_false, Nat.zero_add, Nat.reduceAdd, Nat.reduceSub, Nat.reduceLT, Nat.reduceLeDiff, Nat.reduceEqDiff, Bool.not_true, Bool.not_false, Bool.false_eq_true, Option.map_some, Option.bind_some, and_self, true_and, and_true, reduceCtorEq, w1, w2, w3, w4, w5, n1, n2, n3, n4, n5]
end W44

set_option Elab.async false
set_option linter.all false
set_option maxRecDepth 100000
set_option maxHeartbeats 0
namespace W44
open PySem PySem.Spec PyProof.Rows L2 Mi
theorem rvs_ints {K : PySem.W.Frag} {ρ : List Addr} {H : Hp} {B : Addr → Prop} : ∀ xs : List Int, RVs K ρ H B (xs.map W.int) (xs.map V.int)
  | [] => rfl
  | x :: xs => ⟨_, _, rfl, rfl, rvs_ints xs⟩
end W44
namespace W44
open PySem PySem.Spec PyProof.Rows L2 Mi
def dd_row_end : He.DefD := ⟨("row_end", none), "row_end", "row_end", defArgs (top 6), defBody (top 6), defScope (top 6), [], []⟩
def dd_letter_word : He.DefD := ⟨("letter_word", none), "letter_word", "letter_word", defArgs (top 7), defBody (top 7), defScope (top 7), [], []⟩
def dd_word_from : He.DefD := ⟨("word_from", none), "word_from", "word_from", defArgs (top 8), defBody (top 8), defScope (top 8), [], []⟩
def dd_words_in : He.DefD := ⟨("words_in", none), "words_in", "words_in", defArgs (top 9), defBody (top 9), defScope (top 9), [], []⟩
def dd_words_of : He.DefD := ⟨("words_of", none), "words_of", "words_of", defArgs (top 10), defBody (top 10), defScope (top 10), [], []⟩
def dd__law_pen : He.DefD := ⟨("_law_pen", none), "_law_pen", "_law_pen", defArgs (top 12), defBody (top 12), defScope (top 12), [], []⟩
def dd__law_draw : He.DefD := ⟨("_law_draw", none), "_law_draw", "_law_draw", defArgs (top 13), defBody (top 13), defScope (top 13), [], []⟩
def dd__law_pick : He.DefD := ⟨("_law_pick", none), "_law_pick", "_law_pick", defArgs (top 14), defBody (top 14), defScope (top 14), [], []⟩
def dd__law_shuffled : He.DefD := ⟨("_law_shuffled", none), "_law_shuffled", "_law_shuffled", defArgs (top 15), defBody (top 15), defScope (top 15), [], []⟩
def dd__law_is_int : He.DefD := ⟨("_law_is_int", none), "_law_is_int", "_law_is_int", defArgs (top 16), defBody (top 16), defScope (top 16), [], []⟩
def dd__law_body_drawn : He.DefD := ⟨("_law_body_drawn", none), "_law_body_drawn", "_law_body_drawn", defArgs (top 18), defBody (top 18), defScope (top 18), [], []⟩
def dd__law_statement_drawn : He.DefD := ⟨("_law_statement_drawn", none), "_law_statement_drawn", "_law_statement_drawn", defArgs (top 17), defBody (top 17), defScope (top 17), [], []⟩
def dd__law_begun : He.DefD := ⟨("_law_begun", none), "_law_begun", "_law_begun", defArgs (top 19), defBody (top 19), defScope (top 19), [], []⟩
def dd__law_book_of_sizes : He.DefD := ⟨("_law_book_of_sizes", none), "_law_book_of_sizes", "_law_book_of_sizes", defArgs (top 20), defBody (top 20), defScope (top 20), [], []⟩
def dd__law_all_statements : He.DefD := ⟨("_law_all_statements", none), "_law_all_statements", "_law_all_statements", defArgs (top 22), defBody (top 22), defScope (top 22), [], []⟩
def dd__law_book : He.DefD := ⟨("_law_book", none), "_law_book", "_law_book", defArgs (top 21), defBody (top 21), defScope (top 21), [], []⟩
def dd__law_body_text : He.DefD := ⟨("_law_body_text", none), "_law_body_text", "_law_body_text", defArgs (top 24), defBody (top 24), defScope (top 24), [], []⟩
def dd__law_statement_text : He.DefD := ⟨("_law_statement_text", none), "_law_statement_text", "_law_statement_text", defArgs (top 23), defBody (top 23), defScope (top 23), [], []⟩
def dd__law_proc_text : He.DefD := ⟨("_law_proc_text", none), "_law_proc_text", "_law_proc_text", defArgs (top 25), defBody (top 25), defScope (top 25), [], []⟩
def dd__law_printed : He.DefD := ⟨("_law_printed", none), "_law_printed", "_law_printed", defArgs (top 26), defBody (top 26), defScope (top 26), [], []⟩
def dd__law_parted : He.DefD := ⟨("_law_parted", none), "_law_parted", "_law_parted", defArgs (top 27), defBody (top 27), defScope (top 27), [], []⟩
def dd__law_text_of : He.DefD := ⟨("_law_text_of", none), "_law_text_of", "_law_text_of", defArgs (top 28), defBody (top 28), defScope (top 28), [], []⟩
def dd__law_gap : He.DefD := ⟨("_law_gap", none), "_law_gap", "_law_gap", defArgs (top 29), defBody (top 29), defScope (top 29), [], []⟩
def dd__law_loose_words : He.DefD := ⟨("_law_loose_words", none), "_law_loose_words", "_law_loose_words", defArgs (top 30), defBody (top 30), defScope (top 30), [], []⟩
def dd__law_loose_text : He.DefD := ⟨("_law_loose_text", none), "_law_loose_text", "_law_loose_text", defArgs (top 31), defBody (top 31), defScope (top 31), [], []⟩
def dd__law_words : He.DefD := ⟨("_law_words", none), "_law_words", "_law_words", defArgs (top 32), defBody (top 32), defScope (top 32), [], []⟩
def dd__law_spoilt : He.DefD := ⟨("_law_spoilt", none), "_law_spoilt", "_law_spoilt", defArgs (top 33), defBody (top 33), defScope (top 33), [], []⟩
def dd__law_told_ok : He.DefD := ⟨("_law_told_ok", none), "_law_told_ok", "_law_told_ok", defArgs (top 34), defBody (top 34), defScope (top 34), [], []⟩
def dd_law : He.DefD := ⟨("law", none), "law", "law", defArgs (top 35), defBody (top 35), defScope (top 35), [], []⟩
def hfn : List He.DefD := [dd_row_end, dd_letter_word, dd_word_from, dd_words_in, dd_words_of, dd__law_pen, dd__law_draw, dd__law_pick, dd__law_shuffled, dd__law_is_int, dd__law_body_drawn, dd__law_statement_drawn, dd__law_begun, dd__law_book_of_sizes, dd__law_all_statements, dd__law_book, dd__law_body_text, dd__law_statement_text, dd__law_proc_text, dd__law_printed, dd__law_parted, dd__law_text_of, dd__law_gap, dd__law_loose_words, dd__law_loose_text, dd__law_words, dd__law_spoilt, dd__law_told_ok, dd_law]
def hfa : List He.Fa := [.glo "row_end", .glo "letter_word", .glo "word_from", .glo "words_in", .glo "words_of", .glo "_law_pen", .glo "_law_draw", .glo "_law_pick", .glo "_law_shuffled", .glo "_law_is_int", .glo "_law_body_drawn", .glo "_law_statement_drawn", .glo "_law_begun", .glo "_law_book_of_sizes", .glo "_law_all_statements", .glo "_law_book", .glo "_law_body_text", .glo "_law_statement_text", .glo "_law_proc_text", .glo "_law_printed", .glo "_law_parted", .glo "_law_text_of", .glo "_law_gap", .glo "_law_loose_words", .glo "_law_loose_text", .glo "_law_words", .glo "_law_spoilt", .glo "_law_told_ok", .glo "law", .free "all", .free "bool", .free "int", .free "isinstance", .free "len", .free "list", .free "max", .free "range", .free "str", .free "tuple", .str "LETTERS" "abcdefghijklmnopqrstuvwxyzABCDEFGHIJKLMNOPQRSTUVWXYZ", .int "LONGEST_WORD" 12, .str "ONE_SIGNS" "=;,(){}", .glo "OWN_WORDS", .str "SIGNS" ("abcdefghijklmnopqrstuvwxyzABCDEFGHIJKLMNOPQRSTUVWXYZ" ++ "0123456789_")]
def tv_OWN_WORDS : List He.Dv := [.str "drop", .str "either", .str "give", .str "given", .str "look", .str "loop", .str "new", .str "only", .str "or", .str "out", .str "proc", .str "set", .str "use"]
def hex (K : PySem.W.Frag) : Bool := He.tupB K "OWN_WORDS" tv_OWN_WORDS
def looseN : List Str := (["LETTERS", "SIGNS", "OWN_WORDS", "ONE_SIGNS", "LONGEST_WORD", "row_end", "letter_word", "word_from", "words_in", "words_of", "_law_pen", "_law_draw", "_law_pick", "_law_shuffled", "_law_is_int", "_law_statement_drawn", "_law_body_drawn", "_law_begun", "_law_book_of_sizes", "_law_book"] : List Str) ++ (["_law_all_statements", "_law_statement_text", "_law_body_text", "_law_proc_text", "_law_printed", "_law_parted", "_law_text_of", "_law_gap", "_law_loose_words", "_law_loose_text", "_law_words", "_law_spoilt", "_law_told_ok"] : List Str)
abbrev R : PySem.W.OpenRow := PySem.W.OpenLaw.row PySem.Challenge.rw_lentonce_k44_words_of_texts
abbrev hk : PySem.W.Hook := He.hookX 4 hfa hfn [] [] hex
def ob (s : PySem.W.SharedT) : He.AlX := He.obsX 4 hfa hfn [] [] hex (HandSHeadRun.getT s)
theorem ob_eq (s : PySem.W.SharedT) : ob s = hk.obs s.abs := He.obsX_eq (HandSHeadRun.getT_eq s)
theorem run (w : World) : HandSHeadRun.RunEq R (PySem.W.view R.prog [35]) hk ob 3000 looseN w := by
  intro os
  kernel_rfl
theorem tup_OWN_WORDS {K : PySem.W.Frag} (h : hex K = true) : He.tupB K "OWN_WORDS" tv_OWN_WORDS = true := by
  unfold hex at h
  simpa using h
theorem hd_of {w : World} {K : PySem.W.Frag} {h : Heap} {mg : Str → Option Value} (X : K.In h) (G : h.Ns mainGlobals mg) (c : He.SaysX hfa hfn [] [] hex w h K) : Hd K mg := by
  have cd : He.SaysD hfa hfn K := c.t.d
  have gl : ∀ {x : Str}, He.Fa.glo x ∈ hfa → mg x = some (.ref (He.ga K x)) := fun m => He.glo_ok X G (cd.facts m)
  have fr : ∀ {x : Str}, He.Fa.free x ∈ hfa → mg x = none := fun m => He.free_ok X G (cd.facts m)
  refine {
    g_all := fr (by simp [hfa])
    g_bool := fr (by simp [hfa])
    g_int := fr (by simp [hfa])
    g_isinstance := fr (by simp [hfa])
    g_len := fr (by simp [hfa])
    g_list := fr (by simp [hfa])
    g_max := fr (by simp [hfa])
    g_range := fr (by simp [hfa])
    g_str := fr (by simp [hfa])
    g_tuple := fr (by simp [hfa])
    k_LETTERS := by
      obtain ⟨t, e⟩ := He.str_ok X G (cd.facts (f := .str "LETTERS" "abcdefghijklmnopqrstuvwxyzABCDEFGHIJKLMNOPQRSTUVWXYZ") (by simp [hfa]))
      exact ⟨_, e, .str "abcdefghijklmnopqrstuvwxyzABCDEFGHIJKLMNOPQRSTUVWXYZ", ⟨t, rfl⟩, fun _ _ _ => rfl⟩
    k_LONGEST_WORD := by
      obtain ⟨t, e⟩ := He.int_ok X G (cd.facts (f := .int "LONGEST_WORD" 12) (by simp [hfa]))
      exact ⟨_, e, .int 12, ⟨t, rfl⟩, fun _ _ _ => rfl⟩
    k_ONE_SIGNS := by
      obtain ⟨t, e⟩ := He.str_ok X G (cd.facts (f := .str "ONE_SIGNS" "=;,(){}") (by simp [hfa]))
      exact ⟨_, e, .str "=;,(){}", ⟨t, rfl⟩, fun _ _ _ => rfl⟩
    k_OWN_WORDS := by
      have b : He.tupB K "OWN_WORDS" tv_OWN_WORDS = true := tup_OWN_WORDS c.more
      exact ⟨_, gl (x := "OWN_WORDS") (by simp [hfa]), .ref (He.ga K "OWN_WORDS"), rfl, fun ρ H B => ⟨_, _, rfl, .inr (He.tupB_ok b (fun _ => none)), rvs_strs (["drop", "either", "give", "given", "look", "loop", "new", "only", "or", "out", "proc", "set", "use"] : List Str)⟩⟩
    k_SIGNS := by
      obtain ⟨t, e⟩ := He.str_ok X G (cd.facts (f := .str "SIGNS" ("abcdefghijklmnopqrstuvwxyzABCDEFGHIJKLMNOPQRSTUVWXYZ" ++ "0123456789_")) (by simp [hfa]))
      exact ⟨_, e, .str ("abcdefghijklmnopqrstuvwxyzABCDEFGHIJKLMNOPQRSTUVWXYZ" ++ "0123456789_"), ⟨t, rfl⟩, fun _ _ _ => rfl⟩
    d_row_end := by
      obtain ⟨fd, F⟩ := cd.defs (d := dd_row_end) (by simp [hfn])
      exact ⟨_, fd, F, gl (x := "row_end") (by simp [hfa])⟩
    d_letter_word := by
      obtain ⟨fd, F⟩ := cd.defs (d := dd_letter_word) (by simp [hfn])
      exact ⟨_, fd, F, gl (x := "letter_word") (by simp [hfa])⟩
    d_word_from := by
      obtain ⟨fd, F⟩ := cd.defs (d := dd_word_from) (by simp [hfn])
      exact ⟨_, fd, F, gl (x := "word_from") (by simp [hfa])⟩
    d_words_in := by
      obtain ⟨fd, F⟩ := cd.defs (d := dd_words_in) (by simp [hfn])
      exact ⟨_, fd, F, gl (x := "words_in") (by simp [hfa])⟩
    d_words_of := by
      obtain ⟨fd, F⟩ := cd.defs (d := dd_words_of) (by simp [hfn])
      exact ⟨_, fd, F, gl (x := "words_of") (by simp [hfa])⟩
    d__law_pen := by
      obtain ⟨fd, F⟩ := cd.defs (d := dd__law_pen) (by simp [hfn])
      exact ⟨_, fd, F, gl (x := "_law_pen") (by simp [hfa])⟩
    d__law_draw := by
      obtain ⟨fd, F⟩ := cd.defs (d := dd__law_draw) (by simp [hfn])
      exact ⟨_, fd, F, gl (x := "_law_draw") (by simp [hfa])⟩
    d__law_pick := by
      obtain ⟨fd, F⟩ := cd.defs (d := dd__law_pick) (by simp [hfn])
      exact ⟨_, fd, F, gl (x := "_law_pick") (by simp [hfa])⟩
    d__law_shuffled := by
      obtain ⟨fd, F⟩ := cd.defs (d := dd__law_shuffled) (by simp [hfn])
      exact ⟨_, fd, F, gl (x := "_law_shuffled") (by simp [hfa])⟩
    d__law_is_int := by
      obtain ⟨fd, F⟩ := cd.defs (d := dd__law_is_int) (by simp [hfn])
      exact ⟨_, fd, F, gl (x := "_law_is_int") (by simp [hfa])⟩
    d__law_body_drawn := by
      obtain ⟨fd, F⟩ := cd.defs (d := dd__law_body_drawn) (by simp [hfn])
      exact ⟨_, fd, F, gl (x := "_law_body_drawn") (by simp [hfa])⟩
    d__law_statement_drawn := by
      obtain ⟨fd, F⟩ := cd.defs (d := dd__law_statement_drawn) (by simp [hfn])
      exact ⟨_, fd, F, gl (x := "_law_statement_drawn") (by simp [hfa])⟩
    d__law_begun := by
      obtain ⟨fd, F⟩ := cd.defs (d := dd__law_begun) (by simp [hfn])
      exact ⟨_, fd, F, gl (x := "_law_begun") (by simp [hfa])⟩
    d__law_book_of_sizes := by
      obtain ⟨fd, F⟩ := cd.defs (d := dd__law_book_of_sizes) (by simp [hfn])
      exact ⟨_, fd, F, gl (x := "_law_book_of_sizes") (by simp [hfa])⟩
    d__law_all_statements := by
      obtain ⟨fd, F⟩ := cd.defs (d := dd__law_all_statements) (by simp [hfn])
      exact ⟨_, fd, F, gl (x := "_law_all_statements") (by simp [hfa])⟩
    d__law_book := by
      obtain ⟨fd, F⟩ := cd.defs (d := dd__law_book) (by simp [hfn])
      exact ⟨_, fd, F, gl (x := "_law_book") (by simp [hfa])⟩
    d__law_body_text := by
      obtain ⟨fd, F⟩ := cd.defs (d := dd__law_body_text) (by simp [hfn])
      exact ⟨_, fd, F, gl (x := "_law_body_text") (by simp [hfa])⟩
    d__law_statement_text := by
      obtain ⟨fd, F⟩ := cd.defs (d := dd__law_statement_text) (by simp [hfn])
      exact ⟨_, fd, F, gl (x := "_law_statement_text") (by simp [hfa])⟩
    d__law_proc_text := by
      obtain ⟨fd, F⟩ := cd.defs (d := dd__law_proc_text) (by simp [hfn])
      exact ⟨_, fd, F, gl (x := "_law_proc_text") (by simp [hfa])⟩
    d__law_printed := by
      obtain ⟨fd, F⟩ := cd.defs (d := dd__law_printed) (by simp [hfn])
      exact ⟨_, fd, F, gl (x := "_law_printed") (by simp [hfa])⟩
    d__law_parted := by
      obtain ⟨fd, F⟩ := cd.defs (d := dd__law_parted) (by simp [hfn])
      exact ⟨_, fd, F, gl (x := "_law_parted") (by simp [hfa])⟩
    d__law_text_of := by
      obtain ⟨fd, F⟩ := cd.defs (d := dd__law_text_of) (by simp [hfn])
      exact ⟨_, fd, F, gl (x := "_law_text_of") (by simp [hfa])⟩
    d__law_gap := by
      obtain ⟨fd, F⟩ := cd.defs (d := dd__law_gap) (by simp [hfn])
      exact ⟨_, fd, F, gl (x := "_law_gap") (by simp [hfa])⟩
    d__law_loose_words := by
      obtain ⟨fd, F⟩ := cd.defs (d := dd__law_loose_words) (by simp [hfn])
      exact ⟨_, fd, F, gl (x := "_law_loose_words") (by simp [hfa])⟩
    d__law_loose_text := by
      obtain ⟨fd, F⟩ := cd.defs (d := dd__law_loose_text) (by simp [hfn])
      exact ⟨_, fd, F, gl (x := "_law_loose_text") (by simp [hfa])⟩
    d__law_words := by
      obtain ⟨fd, F⟩ := cd.defs (d := dd__law_words) (by simp [hfn])
      exact ⟨_, fd, F, gl (x := "_law_words") (by simp [hfa])⟩
    d__law_spoilt := by
      obtain ⟨fd, F⟩ := cd.defs (d := dd__law_spoilt) (by simp [hfn])
      exact ⟨_, fd, F, gl (x := "_law_spoilt") (by simp [hfa])⟩
    d__law_told_ok := by
      obtain ⟨fd, F⟩ := cd.defs (d := dd__law_told_ok) (by simp [hfn])
      exact ⟨_, fd, F, gl (x := "_law_told_ok") (by simp [hfa])⟩
    d_law := by
      obtain ⟨fd, F⟩ := cd.defs (d := dd_law) (by simp [hfn])
      exact ⟨_, fd, F, gl (x := "law") (by simp [hfa])⟩ }
theorem law_sp {K : PySem.W.Frag} {C : Nat → Addr} (H : Hp) (a : Addr) (ns : List Int) (hns : ns.length ≤ 63) (h : SqL K H a (ns.map V.int)) : spF ⟨K, C⟩ 1 fn_law [.ref a] H (fun v _ => v = .bl true) fun _ _ _ => False := by
  refine ⟨rfl, [], [], [], [.rol (ns.map W.int)], ⟨rfl, (fun i w e => by cases i <;> cases e), (fun i w e => by cases i <;> cases e), rfl, List.nodup_nil, (fun k o e => by cases k <;> cases e), (fun p m => by cases m)⟩, ?_, ?_⟩
  · refine RVs.one ⟨a, _, rfl, ?_, rvs_ints ns⟩
    rcases h with h | h
    · refine .inl ⟨h, fun z => ?_⟩
      rcases z with z | z | ⟨i, w, e, _⟩
      · cases z
      · cases z
      · cases i <;> cases e
    · exact .inr (.inr h)
  · obtain ⟨h', e⟩ := law_true ns hns
    rw [e]
    intro v ρ' H' t x
    exact x.2
end W44
open PySem PySem.W PySem.Calls PyProof.Rows
theorem PySem.Challenge.cw_lentonce_k44_words_of_texts_holds : PySem.Challenge.rw_lentonce_k44_words_of_texts.Holds := by
  w_on; o_law
  refine HandSHeadRun.head_any (r := OpenLaw.row PySem.Challenge.rw_lentonce_k44_words_of_texts) (q := view (OpenLaw.row PySem.Challenge.rw_lentonce_k44_words_of_texts).prog [35]) (H := W44.hk) (ob := W44.ob) (M := 3000) (loose := W44.looseN) (d := HandSHeadRun.topDef (OpenLaw.row PySem.Challenge.rw_lentonce_k44_words_of_texts).prog 35) (kwd := [])
    W44.ob_eq
    (by kernel_rfl) (fun s => by kernel_rfl) W44.run (by kernel_rfl) (by kernel_rfl) (by kernel_rfl) (by rfl) (by first | assumption | decide +kernel) (by decide +kernel) ⟨rfl, rfl, rfl, rfl, rfl, by decide +kernel⟩ ?hw ?hc
  case hw => w_witness2
  case hc =>
    refine Mi.walk_w (l := PySem.Challenge.rw_lentonce_k44_words_of_texts) (n := 63) (k := 18) (x := "script") (CX := fun w => L2.CX PySem.Challenge.rw_lentonce_k44_words_of_texts.prog w) rfl (by decide) (by kernel_rfl) ⟨rfl, by decide, by decide⟩ ?F fun w H s e s' z => Mi.no_cx z
    intro w mg fa h Y G hmg0
    obtain ⟨K, KX, c⟩ := Y
    have hmg : mg ("law" : PySem.Str) = some (.ref fa) := by
      have e : (HandSHeadRun.topDef (OpenLaw.row PySem.Challenge.rw_lentonce_k44_words_of_texts).prog 35).name = ("law" : PySem.Str) := by kernel_rfl
      rw [← e]
      exact hmg0
    have hd := W44.hd_of KX G c
    obtain ⟨fa', fd, F, hm⟩ := hd.d_law
    cases hmg.symm.trans hm
    exact ⟨K, fd, _, KX, fun s v => F.bindsA (ps := ["script"]) (fun _ _ _ _ _ _ us hl => match us, hl with | [_], _ => rfl) s [v] rfl, fun H a ns hl _ hS => W44.law_sp (C := fun _ => 0) H a ns hl hS, fun base _ _ => W44.fnok_law hd F⟩

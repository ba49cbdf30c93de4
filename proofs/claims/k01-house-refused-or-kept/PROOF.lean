import PyProof.Rows.All
import Wide.All
import OpenK.AllK
import Wide.FinOn
import HandS.ForMost
import HandS.Exc
import HandS.ExcOwn
import HandS.TryOnly
import HandS.ExcIs
import HandS.Defaults
import HandS.CallSlots
import HandS.TupAny
import HandS.IsInst
import HandS.Style
import HandS.Deep
import HandS.FStr
import HandS.Comp
import HandS.RaiseMore
import HandS.Strs
import HandS.Zip
import HandS.DictComp
import HandS.Iter
import HandS.HeadHook1
import HandS.Words
import HandS.Head0
import HandS.Head1
import HandS.Head2
import HandS.HeadEnd
import HandS.HeadHook2
import HandS.HeadHook3
import HandS.HeadHook4
import HandS.ExcBuiltin
import KE.KStateDown
import PySem.Challenge.RW_everybodyout_k01_house_refused_or_kept
set_option Elab.async false
set_option linter.all false
set_option maxRecDepth 100000
namespace DL
open PySem L2
abbrev St := L2.St
/-- plain data -/
inductive P where
  | non | bl (b : Bool) | int (i : Int) | str (s : Str)
  | tup (xs : List P) | lst (xs : List P) | klst (xs : List P)
  | dK (kvs : List (Key × P)) | dT (kvs : List (List Key × P))
  | obj (C : Addr) (fs : List (Str × P))
  | exn (C : Addr) (fs : List (Str × P))
  | raw (v : V)
  | cell (n : Nat)
/-- the exception that a suite holds: its slot, its address, its class, its own dict -/
abbrev Hx := Option (Nat × Addr × Value × Option Addr)
mutual
def Rp (K : PySem.W.Frag) (io : List Addr) (G : Hp) : P → V → Prop
  | .non, v => v = .non
  | .bl b, v => v = .bl b
  | .int i, v => v = .int i
  | .str s, v => v = .str s
  | .tup xs, v => ∃ a vs, v = .ref a ∧ G a = some (.tup vs) ∧ Rps K io G xs vs
  | .lst xs, v => ∃ a vs, v = .ref a ∧ G a = some (.lst vs) ∧ Rps K io G xs vs
  | .klst xs, v => ∃ a vs, v = .ref a ∧ SqL K G a vs ∧ Rps K io G xs vs
  | .dK kvs, v => ∃ a hs, v = .ref a ∧ G a = some (.dK hs) ∧ RpK K io G kvs hs
  | .dT kvs, v => ∃ a hs, v = .ref a ∧ G a = some (.dT hs) ∧ RpT K io G kvs hs
  | .obj C fs, v => ∃ a dx hs, v = .ref a ∧ G a = some (.ins C dx hs) ∧ RpF K io G fs hs
  | .exn C fs, v => ∃ a, v = .ref a
  | .raw u, v => v = u
  | .cell n, v => ∃ a, io[n]? = some a ∧ v = .ref a
def Rps (K : PySem.W.Frag) (io : List Addr) (G : Hp) : List P → List V → Prop
  | [], vs => vs = []
  | x :: xs, vs => ∃ v r, vs = v :: r ∧ Rp K io G x v ∧ Rps K io G xs r
def RpK (K : PySem.W.Frag) (io : List Addr) (G : Hp) : List (Key × P) → List (Key × V) → Prop
  | [], vs => vs = []
  | (k, x) :: xs, vs => ∃ v r, vs = (k, v) :: r ∧ Rp K io G x v ∧ RpK K io G xs r
def RpT (K : PySem.W.Frag) (io : List Addr) (G : Hp) : List (List Key × P) → List (List Key × V) → Prop
  | [], vs => vs = []
  | (k, x) :: xs, vs => ∃ v r, vs = (k, v) :: r ∧ Rp K io G x v ∧ RpT K io G xs r
def RpF (K : PySem.W.Frag) (io : List Addr) (G : Hp) : List (Str × P) → List (Str × V) → Prop
  | [], vs => vs = []
  | (k, x) :: xs, vs => ∃ v r, vs = (k, v) :: r ∧ Rp K io G x v ∧ RpF K io G xs r
end
theorem SqT.mono {K : PySem.W.Frag} {G G' : Hp} (s : Same G G') {a : Addr} {vs : List V} (h : SqT K G a vs) : SqT K G' a vs := by
  rcases h with (h | ⟨o, h⟩) | h
  · exact .inl (.inl (s _ _ h))
  · exact .inl (.inr ⟨o, s _ _ h⟩)
  · exact .inr h
theorem pre_get {α : Type} {l l' : List α} (h : l <+: l') {n : Nat} {a : α} (e : l[n]? = some a) : l'[n]? = some a := by
  obtain ⟨t, rfl⟩ := h
  rw [List.getElem?_append_left (List.getElem?_eq_some_iff.mp e).1]
  exact e
section
variable {K : PySem.W.Frag} {hx : Hx} {io io' : List Addr} {G G' : Hp}
mutual
theorem Rp.mono (p : io <+: io') (s : Same G G') : ∀ {x : P} {v : V}, Rp K io G x v → Rp K io' G' x v
  | .non, _, h => by simpa only [Rp] using h
  | .bl _, _, h => by simpa only [Rp] using h
  | .int _, _, h => by simpa only [Rp] using h
  | .str _, _, h => by simpa only [Rp] using h
  | .raw _, _, h => by simpa only [Rp] using h
  | .cell n, _, h => by
    simp only [Rp] at h ⊢
    obtain ⟨a, e, q⟩ := h
    exact ⟨a, pre_get p e, q⟩
  | .tup xs, _, h => by
    simp only [Rp] at h ⊢
    obtain ⟨a, vs, e, q, r⟩ := h
    exact ⟨a, vs, e, s _ _ q, Rps.mono p s r⟩
  | .lst xs, _, h => by
    simp only [Rp] at h ⊢
    obtain ⟨a, vs, e, q, r⟩ := h
    exact ⟨a, vs, e, s _ _ q, Rps.mono p s r⟩
  | .klst xs, _, h => by
    simp only [Rp] at h ⊢
    obtain ⟨a, vs, e, q, r⟩ := h
    exact ⟨a, vs, e, s.seq q, Rps.mono p s r⟩
  | .dK xs, _, h => by
    simp only [Rp] at h ⊢
    obtain ⟨a, vs, e, q, r⟩ := h
    exact ⟨a, vs, e, s _ _ q, RpK.mono p s r⟩
  | .dT xs, _, h => by
    simp only [Rp] at h ⊢
    obtain ⟨a, vs, e, q, r⟩ := h
    exact ⟨a, vs, e, s _ _ q, RpT.mono p s r⟩
  | .obj C xs, _, h => by
    simp only [Rp] at h ⊢
    obtain ⟨a, dx, vs, e, q, r⟩ := h
    exact ⟨a, dx, vs, e, s _ _ q, RpF.mono p s r⟩
  | .exn C xs, _, h => by simpa only [Rp] using h
theorem Rps.mono (p : io <+: io') (s : Same G G') : ∀ {xs : List P} {vs : List V}, Rps K io G xs vs → Rps K io' G' xs vs
  | [], _, h => by simpa only [Rps] using h
  | _ :: _, _, h => by
    simp only [Rps] at h ⊢
    obtain ⟨v, r, e, q, t⟩ := h
    exact ⟨v, r, e, Rp.mono p s q, Rps.mono p s t⟩
theorem RpK.mono (p : io <+: io') (s : Same G G') : ∀ {xs : List (Key × P)} {vs : List (Key × V)}, RpK K io G xs vs → RpK K io' G' xs vs
  | [], _, h => by simpa only [RpK] using h
  | (_, _) :: _, _, h => by
    simp only [RpK] at h ⊢
    obtain ⟨v, r, e, q, t⟩ := h
    exact ⟨v, r, e, Rp.mono p s q, RpK.mono p s t⟩
theorem RpT.mono (p : io <+: io') (s : Same G G') : ∀ {xs : List (List Key × P)} {vs : List (List Key × V)}, RpT K io G xs vs → RpT K io' G' xs vs
  | [], _, h => by simpa only [RpT] using h
  | (_, _) :: _, _, h => by
    simp only [RpT] at h ⊢
    obtain ⟨v, r, e, q, t⟩ := h
    exact ⟨v, r, e, Rp.mono p s q, RpT.mono p s t⟩
theorem RpF.mono (p : io <+: io') (s : Same G G') : ∀ {xs : List (Str × P)} {vs : List (Str × V)}, RpF K io G xs vs → RpF K io' G' xs vs
  | [], _, h => by simpa only [RpF] using h
  | (_, _) :: _, _, h => by
    simp only [RpF] at h ⊢
    obtain ⟨v, r, e, q, t⟩ := h
    exact ⟨v, r, e, Rp.mono p s q, RpF.mono p s t⟩
end
end

/-! ### cells -/
inductive CO where
  | lst (xs : List P) | dK (kvs : List (Key × P)) | dT (kvs : List (List Key × P)) | obj (C : Addr) (fs : List (Str × P)) | dead
abbrev Cells := List CO
abbrev Env := List (Option P)

section
variable (K : PySem.W.Frag) (hx : Hx)
def COk (io : List Addr) (G H : Hp) (a : Addr) : CO → Prop
  | .lst xs => G a = none ∧ ∃ vs, H a = some (.lst vs) ∧ Rps K io G xs vs
  | .dK kvs => G a = none ∧ ∃ vs, H a = some (.dK vs) ∧ RpK K io G kvs vs
  | .dT kvs => G a = none ∧ ∃ vs, H a = some (.dT vs) ∧ RpT K io G kvs vs
  | .obj C fs => G a = none ∧ ∃ dx hs, H a = some (.ins C dx hs) ∧ RpF K io G fs hs
  | .dead => True
structure WOk (io : List Addr) (G H : Hp) (cs : Cells) : Prop where
  same : Same G H
  len : io.length = cs.length
  nd : io.Nodup
  al : ∀ a, a ∈ io → H a ≠ none
  live : ∀ (n : Nat) (a : Addr) (c : CO), io[n]? = some a → cs[n]? = some c → COk K io G H a c
def Slots (io : List Addr) (G : Hp) : Env → St → Prop
  | [], σ => σ = []
  | none :: e, σ => ∃ v r, σ = v :: r ∧ Slots io G e r
  | some d :: e, σ => ∃ v r, σ = some v :: r ∧ Rp K io G d v ∧ Slots io G e r
end
structure Le (io1 : List Addr) (G1 H1 : Hp) (io2 : List Addr) (G2 H2 : Hp) : Prop where
  io : io1 <+: io2
  g : Same G1 G2
  h : ∀ a o, H1 a = some o → H2 a = some o ∨ (G1 a = none ∧ a ∈ io1)
  gn : ∀ a o, G2 a = some o → G1 a = some o ∨ H1 a = none ∨ a ∈ io1
  ion : ∀ a, a ∈ io2 → a ∈ io1 ∨ H1 a = none
  al : ∀ a, H1 a ≠ none → H2 a ≠ none
theorem Le.refl {io : List Addr} {G H : Hp} : Le io G H io G H := ⟨List.prefix_refl _, fun _ _ h => h, fun _ _ h => .inl h, fun _ _ h => .inl h, fun _ h => .inl h, fun _ h => h⟩
theorem Le.trans {io1 io2 io3 : List Addr} {G1 H1 G2 H2 G3 H3 : Hp} (a : Le io1 G1 H1 io2 G2 H2) (b : Le io2 G2 H2 io3 G3 H3) : Le io1 G1 H1 io3 G3 H3 where
  io := a.io.trans b.io
  g := a.g.trans b.g
  h := fun x o e => by
    rcases a.h x o e with e2 | q
    · rcases b.h x o e2 with e3 | ⟨q1, q2⟩
      · exact .inl e3
      · refine .inr ⟨a.g.free q1, ?_⟩
        rcases a.ion x q2 with z | z
        · exact z
        · rw [e] at z; cases z
    · exact .inr q
  gn := fun x o e => by
    rcases b.gn x o e with z | z | z
    · exact a.gn x o z
    · refine .inr (.inl ?_)
      cases q : H1 x with
      | none => rfl
      | some u => exact absurd z (a.al x (by rw [q]; simp))
    · rcases a.ion x z with y | y
      · exact .inr (.inr y)
      · exact .inr (.inl y)
  ion := fun x e => by
    rcases b.ion x e with z | z
    · exact a.ion x z
    · right
      cases q : H1 x with
      | none => rfl
      | some u => exact absurd z (a.al x (by rw [q]; simp))
  al := fun x e => b.al x (a.al x e)

section
variable {K : PySem.W.Frag} {hx : Hx} {io io' : List Addr} {G G' H H' : Hp}
theorem Slots.mono (p : io <+: io') (s : Same G G') : ∀ {env : Env} {σ : St}, Slots K io G env σ → Slots K io' G' env σ
  | [], _, h => (h : _ = [])
  | none :: _, _, ⟨v, r, e, t⟩ => ⟨v, r, e, Slots.mono p s t⟩
  | some _ :: _, _, ⟨v, r, e, q, t⟩ => ⟨v, r, e, Rp.mono p s q, Slots.mono p s t⟩
theorem Slots.get : ∀ {env : Env} {σ : St} {i : Nat} {d : P}, Slots K io G env σ → env[i]? = some (some d) → ∃ v, σ[i]? = some (some v) ∧ Rp K io G d v
  | [], _, _, _, _, e => by simp at e
  | none :: _, _, 0, _, _, e => by simp at e
  | some d :: _, _, 0, _, ⟨v, r, e, q, _⟩, z => by
    simp at z; subst z; subst e
    exact ⟨v, rfl, q⟩
  | none :: _, _, i + 1, _, ⟨v, r, e, t⟩, z => by
    subst e
    obtain ⟨v', e', q⟩ := Slots.get (i := i) t (by simpa using z)
    exact ⟨v', by simpa using e', q⟩
  | some _ :: _, _, i + 1, _, ⟨v, r, e, _, t⟩, z => by
    subst e
    obtain ⟨v', e', q⟩ := Slots.get (i := i) t (by simpa using z)
    exact ⟨v', by simpa using e', q⟩
theorem Slots.set : ∀ {env : Env} {σ : St} (i : Nat) {d : P} {v : V}, Slots K io G env σ → Rp K io G d v → Slots K io G (env.set i (some d)) (σ.set i (some v))
  | [], _, _, _, _, h, _ => by
    have e : _ = [] := h
    subst e; rfl
  | none :: _, _, 0, d, v, ⟨_, r, e, t⟩, q => by subst e; exact ⟨v, r, rfl, q, t⟩
  | some _ :: _, _, 0, d, v, ⟨_, r, e, _, t⟩, q => by subst e; exact ⟨v, r, rfl, q, t⟩
  | none :: _, _, i + 1, d, v, ⟨w, r, e, t⟩, q => by subst e; exact ⟨w, _, rfl, Slots.set i t q⟩
  | some _ :: _, _, i + 1, d, v, ⟨w, r, e, q', t⟩, q => by subst e; exact ⟨w, _, rfl, q', Slots.set i t q⟩
theorem Slots.kill : ∀ {env : Env} {σ : St} (i : Nat), Slots K io G env σ → Slots K io G (env.set i none) σ
  | [], _, _, h => h
  | none :: _, _, 0, ⟨v, r, e, t⟩ => ⟨v, r, e, t⟩
  | some _ :: _, _, 0, ⟨v, r, e, _, t⟩ => ⟨some v, r, e, t⟩
  | none :: _, _, i + 1, ⟨w, r, e, t⟩ => ⟨w, r, e, Slots.kill i t⟩
  | some _ :: _, _, i + 1, ⟨w, r, e, q', t⟩ => ⟨w, r, e, q', Slots.kill i t⟩
def killAll (env : Env) : List Nat → Env
  | [] => env
  | i :: is => killAll (env.set i none) is
theorem Slots.kills : ∀ {env : Env} {σ : St} (is : List Nat), Slots K io G env σ → Slots K io G (killAll env is) σ
  | _, _, [], h => h
  | _, _, i :: is, h => Slots.kills is (h.kill i)
end
end DL

namespace DL
open PySem L2

/-- an exception: its class, its fields -/
structure Ex where
  C : Addr
  fs : List (Str × P)
inductive Rs (α : Type) where
  | ok (a : α) (cs : Cells) | ex (e : Ex) (cs : Cells) | stuck
inductive Out where
  | nx (env : Env) (cs : Cells) | rt (d : P) (cs : Cells) | bk (env : Env) (cs : Cells) | ct (env : Env) (cs : Cells) | ex (e : Ex) (env : Env) (cs : Cells) | stuck
abbrev DEn := Env → Cells → Rs P
abbrev DTn := Env → Cells → Rs Bool
abbrev DAn := Env → Cells → Rs (List P)
abbrev DFn := Env → Cells → Rs CO
abbrev DSn := Env → Cells → Out
abbrev Fn := List P → Cells → Rs P
def Rs.bind {α β : Type} (r : Rs α) (k : α → Cells → Rs β) : Rs β := match r with
  | .ok a cs => k a cs
  | .ex e cs => .ex e cs
  | .stuck => .stuck
@[simp] theorem Rs.bind_ok {α β : Type} (a : α) (cs : Cells) (k : α → Cells → Rs β) : (Rs.ok a cs).bind k = k a cs := rfl
@[simp] theorem Rs.bind_ex {α β : Type} (e : Ex) (cs : Cells) (k : α → Cells → Rs β) : (Rs.ex e cs : Rs α).bind k = .ex e cs := rfl
@[simp] theorem Rs.bind_stuck {α β : Type} (k : α → Cells → Rs β) : (Rs.stuck : Rs α).bind k = .stuck := rfl

section
variable (K : PySem.W.Frag) (hx : Hx)
def ExOk (io : List Addr) (G : Hp) (e : Ex) (cls : Value) (d : Option Addr) : Prop := cls = .ref e.C ∧ ((e.fs = [] ∧ d = none) ∨ e.fs ≠ [] ∧ ∃ dd hs, d = some dd ∧ G dd = some (.xd hs) ∧ RpF K io G e.fs hs)
/-- what is known of the exception that is held -/
def HxOk (io : List Addr) (G : Hp) (env : Env) (σ : St) : Prop := match hx with
  | none => True
  | some (i, a, cls, d) => σ[i]? = some (some (.ref a)) ∧ ∀ C fs, env[i]? = some (some (.exn C fs)) → ExOk K io G ⟨C, fs⟩ cls d
structure Sta (io : List Addr) (G H : Hp) (cs : Cells) (env : Env) (σ : St) : Prop where
  w : WOk K io G H cs
  s : Slots K io G env σ
  x : HxOk K hx io G env σ
/-- the common part of what is wanted behind an evaluation -/
def AfR {α : Type} (W : WX) (io : List Addr) (G H : Hp) (σ : St) (k : List Addr → Hp → Hp → Cells → α → Prop) : Rs α → Prop
  | .ok a cs => ∀ io' G' H', Le io G H io' G' H' → WOk K io' G' H' cs → k io' G' H' cs a
  | .ex e cs => ∀ io' G' H' cls d, Le io G H io' G' H' → WOk K io' G' H' cs → ExOk K io' G' e cls d → W cls d σ H'
  | .stuck => False
def DE (W : WX) (te : TE) (f : DEn) : Prop := ∀ io G H cs env σ Q, Sta K hx io G H cs env σ →
  AfR K W io G H σ (fun io' G' H' _ d => ∀ v, Rp K io' G' d v → Q v H') (f env cs) → te σ H Q
def DT (W : WX) (tt : TT) (f : DTn) : Prop := ∀ io G H cs env σ Q, Sta K hx io G H cs env σ →
  AfR K W io G H σ (fun _ _ H' _ b => Q b H') (f env cs) → tt σ H Q
def DA (W : WX) (ta : TA) (f : DAn) : Prop := ∀ io G H cs env σ Q, Sta K hx io G H cs env σ →
  AfR K W io G H σ (fun io' G' H' _ ds => ∀ vs, Rps K io' G' ds vs → Q vs H') (f env cs) → ta σ H Q
/-- a fresh object is made: it stands at p, nobody else knows it -/
def DF (W : WX) (te : TE) (f : DFn) : Prop := ∀ io G H cs env σ Q, Sta K hx io G H cs env σ →
  AfR K W io G H σ (fun io' G' H' _ c => ∀ p, H p = none → p ∉ io' → H' p ≠ none → COk K io' G' H' p c → c ≠ .dead → Q (.ref p) H') (f env cs) → te σ H Q
def AfS (W : WX) (D : Ends) (io : List Addr) (G H : Hp) : Out → Prop
  | .nx env cs => ∀ io' G' H' σ', Le io G H io' G' H' → Sta K hx io' G' H' cs env σ' → D.nx σ' H'
  | .bk env cs => ∀ io' G' H' σ', Le io G H io' G' H' → Sta K hx io' G' H' cs env σ' → D.bk σ' H'
  | .ct env cs => ∀ io' G' H' σ', Le io G H io' G' H' → Sta K hx io' G' H' cs env σ' → D.ct σ' H'
  | .rt d cs => ∀ io' G' H' v, Le io G H io' G' H' → WOk K io' G' H' cs → Rp K io' G' d v → D.rt v H'
  | .ex e env cs => ∀ io' G' H' σ' cls d, Le io G H io' G' H' → Sta K hx io' G' H' cs env σ' → ExOk K io' G' e cls d → W cls d σ' H'
  | .stuck => False
def DS (W : WX) (ts : TS) (f : DSn) : Prop := ∀ io G H cs env σ D, Sta K hx io G H cs env σ → AfS K hx W D io G H (f env cs) → ts D σ H
end
section
variable {K : PySem.W.Frag} {hx : Hx} {W : WX} {io io' : List Addr} {G G' H H' : Hp} {cs cs' : Cells} {env : Env} {σ : St}
theorem ExOk.mono {e : Ex} {cls : Value} {d : Option Addr} (p : io <+: io') (s : Same G G') (h : ExOk K io G e cls d) : ExOk K io' G' e cls d := by
  obtain ⟨e1, h⟩ := h
  refine ⟨e1, ?_⟩
  rcases h with h | ⟨ne, dd, hs, e2, e3, r⟩
  · exact .inl h
  · exact .inr ⟨ne, dd, hs, e2, s _ _ e3, r.mono p s⟩
theorem HxOk.mono (p : io <+: io') (s : Same G G') (h : HxOk K hx io G env σ) : HxOk K hx io' G' env σ := by
  unfold HxOk at h ⊢
  split at h
  · trivial
  · exact ⟨h.1, fun C fs e => (h.2 C fs e).mono p s⟩
theorem Sta.to (s : Sta K hx io G H cs env σ) (l : Le io G H io' G' H') (w : WOk K io' G' H' cs') : Sta K hx io' G' H' cs' env σ := ⟨w, s.s.mono l.io l.g, s.x.mono l.io l.g⟩
theorem AfR.mono {α : Type} {k : List Addr → Hp → Hp → Cells → α → Prop} {r : Rs α} (l : Le io G H io' G' H') (h : AfR K W io G H σ k r) : AfR K W io' G' H' σ k r := by
  cases r with
  | ok a cs => exact fun i g h' l' w => h i g h' (l.trans l') w
  | ex e cs => exact fun i g h' c d l' w x => h i g h' c d (l.trans l') w x
  | stuck => exact h
theorem AfS.mono {D : Ends} {o : Out} (l : Le io G H io' G' H') (h : AfS K hx W D io G H o) : AfS K hx W D io' G' H' o := by
  cases o with
  | nx e cs => exact fun i g h' s l' w => h i g h' s (l.trans l') w
  | bk e cs => exact fun i g h' s l' w => h i g h' s (l.trans l') w
  | ct e cs => exact fun i g h' s l' w => h i g h' s (l.trans l') w
  | rt d cs => exact fun i g h' v l' w r => h i g h' v (l.trans l') w r
  | ex e env cs => exact fun i g h' s c d l' w r => h i g h' s c d (l.trans l') w r
  | stuck => exact h
/-- a bind's end from its parts -/
theorem AfR.bind {α β : Type} {r : Rs α} {f : α → Cells → Rs β} {k : List Addr → Hp → Hp → Cells → β → Prop} (h : AfR K W io G H σ k (r.bind f)) :
    AfR K W io G H σ (fun io' G' H' cs a => AfR K W io' G' H' σ k (f a cs)) r := by
  cases r with
  | ok a cs => exact fun i g h' l w => AfR.mono l h
  | ex e cs => exact h
  | stuck => exact h
theorem AfR.imp {α : Type} {r : Rs α} {k k' : List Addr → Hp → Hp → Cells → α → Prop} (h : AfR K W io G H σ k r) (f : ∀ i g h' c a, Le io G H i g h' → WOk K i g h' c → k i g h' c a → k' i g h' c a) : AfR K W io G H σ k' r := by
  cases r with
  | ok a cs => exact fun i g h' l w => f _ _ _ _ _ l w (h i g h' l w)
  | ex e cs => exact h
  | stuck => exact h
theorem AfR.ok {α : Type} {a : α} {k : List Addr → Hp → Hp → Cells → α → Prop} (h : AfR K W io G H σ k (.ok a cs)) (w : WOk K io G H cs) : k io G H cs a := h _ _ _ .refl w

/-! ### the ways a world grows -/
theorem WOk.free (w : WOk K io G H cs) {p : Addr} (n : H p = none) : G p = none ∧ p ∉ io := ⟨w.same.free n, fun m => w.al p m n⟩
theorem same_upd {G : Hp} {p : Addr} {o : HO} (h : G p = none) : Same G (upd G p o) := fun b x e => by
  rw [upd_ne (ne_of_none e h)]
  exact e
theorem COk.keep {c : CO} {a : Addr} (h : COk K io G H a c) (p : io <+: io') (s : Same G G') (g : G' a = none) (e : H' a = H a) : COk K io' G' H' a c := by
  cases c with
  | lst xs => obtain ⟨_, vs, e1, r⟩ := h; exact ⟨g, vs, e.trans e1, Rps.mono p s r⟩
  | dK xs => obtain ⟨_, vs, e1, r⟩ := h; exact ⟨g, vs, e.trans e1, RpK.mono p s r⟩
  | dT xs => obtain ⟨_, vs, e1, r⟩ := h; exact ⟨g, vs, e.trans e1, RpT.mono p s r⟩
  | obj C fs => obtain ⟨_, dx, vs, e1, r⟩ := h; exact ⟨g, dx, vs, e.trans e1, RpF.mono p s r⟩
  | dead => trivial
theorem COk.g {c : CO} {a : Addr} (h : COk K io G H a c) (n : c ≠ .dead) : G a = none := by
  cases c with
  | dead => exact absurd rfl n
  | _ => exact h.1
/-- an address that nobody looks at is laid -/
theorem WOk.lay (w : WOk K io G H cs) {p : Addr} {o : HO} (n : H p = none) : WOk K io G (upd H p o) cs := by
  refine ⟨fun b u e => ?_, w.len, w.nd, fun a m => ?_, fun i a c e1 e2 => ?_⟩
  · rw [upd_ne (ne_of_none (w.same _ _ e) n)]; exact w.same _ _ e
  · rw [upd_ne fun z => w.al a m (by rw [z]; exact n)]; exact w.al a m
  · have ne : a ≠ p := fun z => w.al a (List.mem_of_getElem? e1) (by rw [z]; exact n)
    have q := w.live i a c e1 e2
    cases c with
    | dead => trivial
    | _ => exact q.keep (List.prefix_refl _) (fun _ _ h => h) q.1 (upd_ne ne)
theorem Le.lay {p : Addr} {o : HO} (n : H p = none) : Le io G H io G (upd H p o) :=
  ⟨List.prefix_refl _, fun _ _ h => h, fun a u e => .inl (by rw [upd_ne (ne_of_none e n)]; exact e), fun _ _ h => .inl h, fun _ h => .inl h, fun a e => by
    by_cases z : a = p
    · rw [z, upd_same]; simp
    · rw [upd_ne z]; exact e⟩
/-- an object that stands at p, unknown so far, is shared -/
theorem WOk.share (w : WOk K io G H cs) {p : Addr} {o : HO} (e : H p = some o) (np : p ∉ io) : WOk K io (upd G p o) H cs := by
  refine ⟨fun b u q => ?_, w.len, w.nd, w.al, fun i a c e1 e2 => ?_⟩
  · by_cases z : b = p
    · rw [z, upd_same] at q; rw [z, e]; exact q
    · rw [upd_ne z] at q; exact w.same _ _ q
  · have ne : a ≠ p := fun z => np (by rw [← z]; exact List.mem_of_getElem? e1)
    have q := w.live i a c e1 e2
    have sm : Same G (upd G p o) := fun b u q => by
      by_cases z : b = p
      · rw [z] at q ⊢; rw [upd_same]; exact e.symm.trans (w.same _ _ q)
      · rw [upd_ne z]; exact q
    cases c with
    | dead => trivial
    | _ => exact q.keep (List.prefix_refl _) sm (by rw [upd_ne ne]; exact q.1) rfl
theorem same_share (s : Same G H) {p : Addr} {o : HO} (e : H p = some o) : Same G (upd G p o) := fun b u q => by
  by_cases z : b = p
  · rw [z] at q ⊢; rw [upd_same]; exact e.symm.trans (s _ _ q)
  · rw [upd_ne z]; exact q
/-- it becomes a cell -/
theorem WOk.cell (w : WOk K io G H cs) {p : Addr} {c : CO} (np : p ∉ io) (h : COk K io G H p c) (hp : H p ≠ none) : WOk K (io ++ [p]) G H (cs ++ [c]) := by
  have pre : io <+: io ++ [p] := List.prefix_append _ _
  refine ⟨w.same, by rw [List.length_append, List.length_append, w.len]; rfl, ?_, fun a m => ?_, fun i a d e1 e2 => ?_⟩
  · rw [List.nodup_append]
    exact ⟨w.nd, by simp, fun a ha b hb => by
      rw [List.mem_singleton] at hb
      rw [hb]
      exact fun z => np (by rw [← z]; exact ha)⟩
  · rcases List.mem_append.mp m with m | m
    · exact w.al a m
    · rw [List.mem_singleton] at m; rw [m]; exact hp
  · by_cases z : i < io.length
    · rw [List.getElem?_append_left z] at e1
      rw [List.getElem?_append_left (by rw [← w.len]; exact z)] at e2
      have q := w.live i a d e1 e2
      cases d with
      | dead => trivial
      | _ => exact q.keep pre (fun _ _ h => h) q.1 rfl
    · rw [List.getElem?_append_right (by omega)] at e1
      rw [List.getElem?_append_right (by rw [← w.len]; omega)] at e2
      have z1 : i - io.length = 0 := by
        have := (List.getElem?_eq_some_iff.mp e1).1
        simp at this; omega
      have z2 : i - cs.length = 0 := by rw [← w.len]; exact z1
      rw [z1] at e1
      rw [z2] at e2
      simp at e1 e2
      subst e1 e2
      cases c with
      | dead => trivial
      | _ => exact h.keep pre (fun _ _ h => h) h.1 rfl
/-- a cell's object is changed -/
theorem WOk.put (w : WOk K io G H cs) {n : Nat} {a : Addr} {c : CO} {o : HO} (e : io[n]? = some a) (g : G a = none) (h : COk K io G (upd H a o) a c) : WOk K io G (upd H a o) (cs.set n c) := by
  refine ⟨fun b u q => ?_, by rw [List.length_set]; exact w.len, w.nd, fun b m => ?_, fun i b d e1 e2 => ?_⟩
  · rw [upd_ne fun z => by rw [z, g] at q; cases q]; exact w.same _ _ q
  · by_cases z : b = a
    · rw [z, upd_same]; simp
    · rw [upd_ne z]; exact w.al b m
  · by_cases z : i = n
    · subst z
      rw [e] at e1; cases e1
      have hl : i < cs.length := by rw [← w.len]; exact (List.getElem?_eq_some_iff.mp e).1
      rw [List.getElem?_set_self hl] at e2
      cases e2
      exact h
    · rw [List.getElem?_set_ne (Ne.symm z)] at e2
      have q := w.live i b d e1 e2
      have ne : b ≠ a := fun y => z (by
        subst y
        exact (nd_ix w.nd e1 e))
      cases d with
      | dead => trivial
      | _ => exact q.keep (List.prefix_refl _) (fun _ _ h => h) q.1 (upd_ne ne)
theorem Le.put {a : Addr} {o : HO} (m : a ∈ io) (g : G a = none) : Le io G H io G (upd H a o) :=
  ⟨List.prefix_refl _, fun _ _ h => h, fun b u e => by
    by_cases z : b = a
    · exact .inr ⟨by rw [z]; exact g, by rw [z]; exact m⟩
    · exact .inl (by rw [upd_ne z]; exact e), fun _ _ h => .inl h, fun _ h => .inl h, fun b e => by
    by_cases z : b = a
    · rw [z, upd_same]; simp
    · rw [upd_ne z]; exact e⟩
/-- from a fresh object: shared -/
theorem Le.shareNew (l : Le io G H io' G' H') {p : Addr} {o : HO} (w : WOk K io' G' H' cs) (n : H p = none) (e : H' p = some o) : Le io G H io' (upd G' p o) H' :=
  ⟨l.io, fun b u q => same_share w.same e _ _ (l.g _ _ q), fun a u q => l.h a u q, fun a u q => by
    by_cases z : a = p
    · exact .inr (.inl (by rw [z]; exact n))
    · rw [upd_ne z] at q; exact l.gn a u q, l.ion, l.al⟩
theorem Le.cellNew (l : Le io G H io' G' H') {p : Addr} (n : H p = none) : Le io G H (io' ++ [p]) G' H' :=
  ⟨l.io.trans (List.prefix_append _ _), l.g, l.h, l.gn, fun a m => by
    rcases List.mem_append.mp m with m | m
    · exact l.ion a m
    · rw [List.mem_singleton] at m; rw [m]; exact .inr n, l.al⟩
end

/-! ### the judgements: a term of the layer below, and what it comes to -/
section
variable (X : Cx) (W : WX) (hx : Hx)
def JE (e : Expr) (f : DEn) : Prop := ∃ te, PE X e te ∧ DE X.K hx W te f
def JT (e : Expr) (f : DTn) : Prop := ∃ tt, PT X e tt ∧ DT X.K hx W tt f
def JW (e : Expr) (f : DTn) : Prop := ∃ tt, PW X e tt ∧ DT X.K hx W tt f
def JA (es : List Expr) (f : DAn) : Prop := ∃ ta, PA X es ta ∧ DA X.K hx W ta f
def JF (e : Expr) (f : DFn) : Prop := ∃ te, PE X e te ∧ DF X.K hx W te f
def JS (st : Stmt) (f : DSn) : Prop := ∃ ts, PS X st ts ∧ DS X.K hx W ts f
def JB (st : List Stmt) (f : DSn) : Prop := ∃ ts, PSs X st ts ∧ DS X.K hx W ts f
end
end DL

namespace DL
open PySem L2

section
variable {K : PySem.W.Frag} {hx : Hx} {io : List Addr} {G H : Hp} {cs : Cells}
theorem Rps.length : ∀ {xs : List P} {vs : List V}, Rps K io G xs vs → vs.length = xs.length
  | [], _, h => by simp only [Rps] at h; subst h; rfl
  | _ :: _, _, h => by
    simp only [Rps] at h
    obtain ⟨v, r, e, _, t⟩ := h
    subst e
    simp [Rps.length t]
theorem Rps.get : ∀ {xs : List P} {vs : List V} {i : Nat} {x : P}, Rps K io G xs vs → xs[i]? = some x → ∃ v, vs[i]? = some v ∧ Rp K io G x v
  | [], _, _, _, _, e => by simp at e
  | y :: _, _, 0, x, h, e => by
    simp only [Rps] at h
    obtain ⟨v, r, e2, q, _⟩ := h
    subst e2
    simp at e; subst e
    exact ⟨v, rfl, q⟩
  | _ :: _, _, i + 1, x, h, e => by
    simp only [Rps] at h
    obtain ⟨v, r, e2, _, t⟩ := h
    subst e2
    simp at e
    obtain ⟨v', e', q'⟩ := Rps.get t e
    exact ⟨v', by simpa using e', q'⟩
theorem Rps.cons {x : P} {v : V} {xs : List P} {vs : List V} (h : Rp K io G x v) (t : Rps K io G xs vs) : Rps K io G (x :: xs) (v :: vs) := by
  simp only [Rps]; exact ⟨v, vs, rfl, h, t⟩
theorem Rps.nil : Rps K io G [] [] := by simp only [Rps]
theorem Rps.append : ∀ {xs ys : List P} {vs us : List V}, Rps K io G xs vs → Rps K io G ys us → Rps K io G (xs ++ ys) (vs ++ us)
  | [], _, _, _, h, t => by simp only [Rps] at h; subst h; exact t
  | _ :: _, _, _, _, h, t => by
    simp only [Rps] at h
    obtain ⟨v, r, e, q, z⟩ := h
    subst e
    exact Rps.cons q (Rps.append z t)
theorem Rps.take : ∀ {xs : List P} {vs : List V} (n : Nat), Rps K io G xs vs → Rps K io G (xs.take n) (vs.take n)
  | _, _, 0, _ => by simpa using Rps.nil
  | [], _, _ + 1, h => by simp only [Rps] at h; subst h; simpa using Rps.nil
  | _ :: _, _, n + 1, h => by
    simp only [Rps] at h
    obtain ⟨v, r, e, q, z⟩ := h
    subst e
    exact Rps.cons q (Rps.take n z)
theorem Rps.drop : ∀ {xs : List P} {vs : List V} (n : Nat), Rps K io G xs vs → Rps K io G (xs.drop n) (vs.drop n)
  | _, _, 0, h => h
  | [], _, _ + 1, h => by simp only [Rps] at h; subst h; simpa using Rps.nil
  | _ :: _, _, n + 1, h => by
    simp only [Rps] at h
    obtain ⟨v, r, e, q, z⟩ := h
    subst e
    exact Rps.drop n z
theorem Rps.set : ∀ {xs : List P} {vs : List V} (n : Nat) {x : P} {v : V}, Rps K io G xs vs → Rp K io G x v → Rps K io G (xs.set n x) (vs.set n v)
  | [], _, _, _, _, h, _ => by simp only [Rps] at h; subst h; simpa using Rps.nil
  | _ :: _, _, 0, _, _, h, q => by
    simp only [Rps] at h
    obtain ⟨v, r, e, _, z⟩ := h
    subst e
    exact Rps.cons q z
  | _ :: _, _, n + 1, _, _, h, q => by
    simp only [Rps] at h
    obtain ⟨v, r, e, q', z⟩ := h
    subst e
    exact Rps.cons q' (Rps.set n z q)
theorem Rps.reverse {xs : List P} {vs : List V} (h : Rps K io G xs vs) : Rps K io G xs.reverse vs.reverse := by
  induction xs generalizing vs with
  | nil => simp only [Rps] at h; subst h; exact Rps.nil
  | cons x xs ih =>
    simp only [Rps] at h
    obtain ⟨v, r, e, q, z⟩ := h
    subst e
    rw [List.reverse_cons, List.reverse_cons]
    exact (ih z).append (Rps.cons q Rps.nil)
theorem Rps.ints : ∀ {ns : List Int} {vs : List V}, Rps K io G (ns.map P.int) vs → vs = ns.map V.int
  | [], _, h => by simpa only [List.map_nil, Rps] using h
  | n :: ns, _, h => by
    simp only [List.map_cons, Rps, Rp] at h
    obtain ⟨v, r, e, q, z⟩ := h
    subst e q
    rw [Rps.ints z, List.map_cons]
theorem Rps.of_ints : ∀ (ns : List Int), Rps K io G (ns.map P.int) (ns.map V.int)
  | [] => Rps.nil
  | _ :: ns => Rps.cons (by simp only [Rp]) (Rps.of_ints ns)
end

/-- the items of a list or a tuple -/
def seqc (cs : Cells) : P → Option (List P)
  | (.lst xs) => some xs
  | (.klst xs) => some xs
  | (.tup xs) => some xs
  | .cell n => match cs[n]? with
    | some (.lst xs) => some xs
    | _ => none
  | _ => none
/-- the items of a list -/
def lstc (cs : Cells) : P → Option (List P)
  | (.lst xs) => some xs
  | .cell n => match cs[n]? with
    | some (.lst xs) => some xs
    | _ => none
  | _ => none
section
variable {K : PySem.W.Frag} {hx : Hx} {io : List Addr} {G H : Hp} {cs : Cells}
theorem WOk.cellAt (w : WOk K io G H cs) {n : Nat} {c : CO} {v : V} (e : cs[n]? = some c) (r : Rp K io G (.cell n) v) : ∃ a, io[n]? = some a ∧ v = .ref a ∧ COk K io G H a c := by
  simp only [Rp] at r
  obtain ⟨a, e1, e2⟩ := r
  exact ⟨a, e1, e2, w.live n a c e1 e⟩
theorem seqc_ok (w : WOk K io G H cs) {d : P} {v : V} {xs : List P} (h : seqc cs d = some xs) (r : Rp K io G d v) :
    ∃ a vs, v = .ref a ∧ (SqL K H a vs ∨ SqT K H a vs) ∧ Rps K io G xs vs := by
  cases d with
  | lst ys =>
    cases h
    simp only [Rp] at r
    obtain ⟨a, vs, e, q, t⟩ := r
    exact ⟨a, vs, e, .inl (SqL.of (w.same _ _ q)), t⟩
  | klst ys =>
    cases h
    simp only [Rp] at r
    obtain ⟨a, vs, e, q, t⟩ := r
    exact ⟨a, vs, e, .inl (w.same.seq q), t⟩
  | tup ys =>
    cases h
    simp only [Rp] at r
    obtain ⟨a, vs, e, q, t⟩ := r
    exact ⟨a, vs, e, .inr (SqT.of (w.same _ _ q)), t⟩
  | cell n =>
    simp only [seqc] at h
    split at h
    · rename_i ys e
      cases h
      obtain ⟨a, e1, e2, _, vs, e3, t⟩ := w.cellAt e r
      exact ⟨a, vs, e2, .inl (SqL.of e3), t⟩
    · cases h
  | _ => cases h
theorem lstc_ok (w : WOk K io G H cs) {d : P} {v : V} {xs : List P} (h : lstc cs d = some xs) (r : Rp K io G d v) :
    ∃ a vs, v = .ref a ∧ H a = some (.lst vs) ∧ Rps K io G xs vs := by
  cases d with
  | lst ys =>
    cases h
    simp only [Rp] at r
    obtain ⟨a, vs, e, q, t⟩ := r
    exact ⟨a, vs, e, w.same _ _ q, t⟩
  | cell n =>
    simp only [lstc] at h
    split at h
    · rename_i ys e
      cases h
      obtain ⟨a, e1, e2, _, vs, e3, t⟩ := w.cellAt e r
      exact ⟨a, vs, e2, e3, t⟩
    · cases h
  | _ => cases h
end

/-! ### operations on values -/
abbrev G2 := P → P → Cells → Rs P
/-- the rule r of the layer below serves g -/
def OpD (K : PySem.W.Frag) (r : R2) (g : G2) : Prop := ∀ (W : WX) io G H cs σ x y v u Q, WOk K io G H cs → Rp K io G x v → Rp K io G y u →
  AfR K W io G H σ (fun io' G' H' _ d => ∀ v, Rp K io' G' d v → Q v H') (g x y cs) → r v u H Q
def orG (g g' : G2) : G2 := fun x y cs => match g x y cs with
  | .stuck => g' x y cs
  | o => o
section
variable {K : PySem.W.Frag} {hx : Hx}
theorem OpD.or {r r' : R2} {g g' : G2} (h : OpD K r g) (h' : OpD K r' g') : OpD K (fun x y H Q => r x y H Q ∨ r' x y H Q) (orG g g') := by
  intro W io G H cs σ x y v u Q w rx ry k
  unfold orG at k
  split at k
  · exact .inr (h' W io G H cs σ x y v u Q w rx ry k)
  · exact .inl (h W io G H cs σ x y v u Q w rx ry k)
/-- two ints in, a plain value out -/
def gI (c : Int → Int → Bool) (f : Int → Int → P) : G2 := fun x y cs => match x, y with
  | (.int i), (.int j) => if c i j then .ok (f i j) cs else .stuck
  | _, _ => .stuck
theorem Rp.int {io : List Addr} {G : Hp} {i : Int} {v : V} (h : Rp K io G (.int i) v) : v = .int i := by
  have h : Rp K io G (.int i) v := h
  simpa only [Rp] using h
theorem Rp.str {io : List Addr} {G : Hp} {i : Str} {v : V} (h : Rp K io G (.str i) v) : v = .str i := by
  have h : Rp K io G (.str i) v := h
  simpa only [Rp] using h
theorem Rp.bl {io : List Addr} {G : Hp} {i : Bool} {v : V} (h : Rp K io G (.bl i) v) : v = .bl i := by
  have h : Rp K io G (.bl i) v := h
  simpa only [Rp] using h
theorem Rp.non {io : List Addr} {G : Hp} {v : V} (h : Rp K io G (.non) v) : v = .non := by
  have h : Rp K io G .non v := h
  simpa only [Rp] using h
theorem rsv_int {io : List Addr} {G : Hp} (i : Int) : Rp K io G (.int i) (.int i) := by
  show Rp K io G (.int i) _
  simp only [Rp]
theorem rsv_str {io : List Addr} {G : Hp} (i : Str) : Rp K io G (.str i) (.str i) := by
  show Rp K io G (.str i) _
  simp only [Rp]
theorem rsv_bl {io : List Addr} {G : Hp} (i : Bool) : Rp K io G (.bl i) (.bl i) := by
  show Rp K io G (.bl i) _
  simp only [Rp]
theorem rsv_non {io : List Addr} {G : Hp} : Rp K io G (.non) .non := by
  show Rp K io G .non _
  simp only [Rp]
theorem rsv_raw {io : List Addr} {G : Hp} (v : V) : Rp K io G (.raw v) v := by
  show Rp K io G (.raw v) _
  simp only [Rp]
theorem opd_I {C : Int → Int → Prop} {c : Int → Int → Bool} {fV : Int → Int → V} {f : Int → Int → P} (hc : ∀ i j, c i j = true → C i j) (hf : ∀ io G i j, Rp K io G (f i j) (fV i j)) : OpD K (rI C fV) (gI c f) := by
  intro W io G H cs σ x y v u Q w rx ry k
  unfold gI at k
  split at k
  · rename_i i j
    split at k
    · rename_i h
      cases rx.int
      cases ry.int
      exact ⟨i, j, rfl, rfl, hc i j h, k.ok w _ (hf _ _ _ _)⟩
    · exact k.elim
  · exact k.elim
theorem opd_I0 {fV : Int → Int → V} {f : Int → Int → P} (hf : ∀ io G i j, Rp K io G (f i j) (fV i j)) : OpD K (rI0 fV) (gI (fun _ _ => true) f) := by
  intro W io G H cs σ x y v u Q w rx ry k
  unfold gI at k
  split at k
  · rename_i i j
    cases rx.int
    cases ry.int
    exact ⟨i, j, rfl, rfl, k.ok w _ (hf _ _ _ _)⟩
  · exact k.elim
/-- a fresh tuple, shared at once -/
theorem share_tup {W : WX} {io : List Addr} {G H : Hp} {cs : Cells} {σ : L2.St} {Q : VK} {xs : List P} {vs : List V} (w : WOk K io G H cs) (r : Rps K io G xs vs)
    (k : AfR K W io G H σ (fun io' G' H' _ d => ∀ v, Rp K io' G' d v → Q v H') (.ok (.tup xs) cs)) {p : Addr} (n : H p = none) : Q (.ref p) (upd H p (.tup vs)) := by
  have w1 := w.lay (o := .tup vs) n
  have np := (w.free n).2
  have w2 := w1.share (p := p) upd_same np
  refine k io _ _ (Le.shareNew (Le.lay n) w1 n upd_same) w2 _ ?_
  show Rp K io _ (.tup xs) _
  simp only [Rp]
  exact ⟨p, vs, rfl, upd_same, Rps.mono (List.prefix_refl _) (same_share w1.same upd_same) r⟩
theorem share_lst {W : WX} {io : List Addr} {G H : Hp} {cs : Cells} {σ : L2.St} {Q : VK} {xs : List P} {vs : List V} (w : WOk K io G H cs) (r : Rps K io G xs vs)
    (k : AfR K W io G H σ (fun io' G' H' _ d => ∀ v, Rp K io' G' d v → Q v H') (.ok (.lst xs) cs)) {p : Addr} (n : H p = none) : Q (.ref p) (upd H p (.lst vs)) := by
  have w1 := w.lay (o := .lst vs) n
  have np := (w.free n).2
  have w2 := w1.share (p := p) upd_same np
  refine k io _ _ (Le.shareNew (Le.lay n) w1 n upd_same) w2 _ ?_
  show Rp K io _ (.lst xs) _
  simp only [Rp]
  exact ⟨p, vs, rfl, upd_same, Rps.mono (List.prefix_refl _) (same_share w1.same upd_same) r⟩
def mulOk (i j : Int) : Bool := (decide (-(2 ^ 64) < i) && decide (i < 2 ^ 64)) || (decide (-(2 ^ 64) < j) && decide (j < 2 ^ 64))
def divOk (_i j : Int) : Bool := decide (0 < j) && decide (j < 1073741824)
def powOk (i j : Int) : Bool := decide (0 ≤ j) && decide (j ≤ 1000000) && decide (i.natAbs < 2 ^ 64)
def gStr : G2 := fun x y cs => match x, y with
  | (.str a), (.str b) => if a.length + b.length ≤ sizeLine then .ok (.str (a ++ b)) cs else .stuck
  | _, _ => .stuck
def gCat : G2 := fun x y cs => match lstc cs x, lstc cs y with
  | some xs, some ys => if xs.length + ys.length ≤ sizeLine then .ok (.lst (xs ++ ys)) cs else .stuck
  | _, _ => .stuck
def gCatT : G2 := fun x y cs => match x, y with
  | (.tup xs), (.tup ys) => if xs.length + ys.length ≤ sizeLine then .ok (.tup (xs ++ ys)) cs else .stuck
  | _, _ => .stuck
def gAdd : G2 := orG (gI (fun _ _ => true) fun i j => .int (i + j)) (orG gStr (orG gCat gCatT))
def gSub : G2 := gI (fun _ _ => true) fun i j => .int (i - j)
def gMul : G2 := gI mulOk fun i j => .int (i * j)
def gDiv : G2 := gI divOk fun i j => .int (i / j)
def gMod : G2 := gI (fun _ j => decide (0 < j)) fun i j => .int (i % j)
def gPow : G2 := gI powOk fun i j => .int (i ^ j.toNat)
def gLt : G2 := gI (fun _ _ => true) fun i j => .bl (decide (i < j))
def gLe : G2 := gI (fun _ _ => true) fun i j => .bl (decide (i ≤ j))
def gGt : G2 := gI (fun _ _ => true) fun i j => .bl (decide (j < i))
def gGe : G2 := gI (fun _ _ => true) fun i j => .bl (decide (j ≤ i))
theorem opd_str : OpD K (fun x y H Q => ∃ i j, x = .str i ∧ y = .str j ∧ i.length + j.length ≤ sizeLine ∧ Q (.str (i ++ j)) H) gStr := by
  intro W io G H cs σ x y v u Q w rx ry k
  unfold gStr at k
  split at k
  · split at k
    · rename_i h
      cases rx.str
      cases ry.str
      exact ⟨_, _, rfl, rfl, h, k.ok w _ (rsv_str _)⟩
    · exact k.elim
  · exact k.elim
theorem opd_cat : OpD K rCat gCat := by
  intro W io G H cs σ x y v u Q w rx ry k
  unfold gCat at k
  split at k
  · rename_i xs ys e1 e2
    split at k
    · rename_i h
      obtain ⟨a, vs, rfl, h1, r1⟩ := lstc_ok w e1 rx
      obtain ⟨b, us, rfl, h2, r2⟩ := lstc_ok w e2 ry
      exact ⟨a, b, vs, us, rfl, rfl, h1, h2, by rw [r1.length, r2.length]; exact h, fun p n => share_lst w (r1.append r2) k n⟩
    · exact k.elim
  · exact k.elim
theorem opd_catT : OpD K (rCatA K) gCatT := by
  intro W io G H cs σ x y v u Q w rx ry k
  unfold gCatT at k
  split at k
  · rename_i xs ys
    split at k
    · rename_i h
      have rx' : Rp K io G (.tup xs) v := rx
      have ry' : Rp K io G (.tup ys) u := ry
      simp only [Rp] at rx' ry'
      obtain ⟨a, vs, rfl, h1, r1⟩ := rx'
      obtain ⟨b, us, rfl, h2, r2⟩ := ry'
      refine ⟨a, b, vs, us, rfl, rfl, SqT.of (w.same _ _ h1), SqT.of (w.same _ _ h2), by rw [r1.length, r2.length]; exact h, fun e => ?_, fun _ e => ?_, fun _ _ p n => share_tup w (r1.append r2) k n⟩
      · refine k.ok w _ ?_
        have z : xs = [] := List.eq_nil_of_length_eq_zero (by rw [← r1.length, e]; rfl)
        rw [z, List.nil_append]
        exact ry
      · refine k.ok w _ ?_
        have z : ys = [] := List.eq_nil_of_length_eq_zero (by rw [← r2.length, e]; rfl)
        rw [z, List.append_nil]
        exact rx
    · exact k.elim
  · exact k.elim
end
/-- rules for an operator -/
def BinD (X : Cx) (f : Value → Value → Sem Value) (g : G2) : Prop := ∃ r, OpR X f r ∧ OpD X.K r g
section
variable {X : Cx} {hx : Hx}
theorem bd_add : BinD X (binaryOp .Add) gAdd := ⟨_, op_add.or (op_add_str.or (op_cat.or op_catA)), (opd_I0 fun _ _ _ _ => rsv_int _).or (opd_str.or (opd_cat.or opd_catT))⟩
theorem bd_sub : BinD X (binaryOp .Sub) gSub := ⟨_, op_sub, opd_I0 fun _ _ _ _ => rsv_int _⟩
theorem bd_mul : BinD X (binaryOp .Mult) gMul := ⟨_, op_mul, opd_I (fun i j h => by
  simp only [mulOk, Bool.or_eq_true, Bool.and_eq_true, decide_eq_true_eq] at h
  exact h) fun _ _ _ _ => rsv_int _⟩
theorem bd_div : BinD X (binaryOp .FloorDiv) gDiv := ⟨_, op_fdiv, opd_I (fun i j h => by
  simp only [divOk, Bool.and_eq_true, decide_eq_true_eq] at h
  exact h) fun _ _ _ _ => rsv_int _⟩
theorem bd_mod : BinD X (binaryOp .Mod) gMod := ⟨_, op_mod, opd_I (fun i j h => by simpa using h) fun _ _ _ _ => rsv_int _⟩
theorem bd_pow : BinD X (binaryOp .Pow) gPow := ⟨_, op_pow, opd_I (fun i j h => by
  simp only [powOk, Bool.and_eq_true, decide_eq_true_eq] at h
  exact ⟨h.1.1, h.1.2, h.2⟩) fun _ _ _ _ => rsv_int _⟩
theorem bd_lt : BinD X (compareOp .Lt) gLt := ⟨_, op_lt, opd_I0 fun _ _ _ _ => rsv_bl _⟩
theorem bd_le : BinD X (compareOp .LtE) gLe := ⟨_, op_le, opd_I0 fun _ _ _ _ => rsv_bl _⟩
theorem bd_gt : BinD X (compareOp .Gt) gGt := ⟨_, op_gt, opd_I0 fun _ _ _ _ => rsv_bl _⟩
theorem bd_ge : BinD X (compareOp .GtE) gGe := ⟨_, op_ge, opd_I0 fun _ _ _ _ => rsv_bl _⟩
end

/-! ### expressions -/
def dVar (i : Nat) : DEn := fun env cs => match env[i]? with
  | some (some d) => .ok d cs
  | _ => .stuck
def dC (x : P) : DEn := fun _ cs => .ok x cs
def dBin (g : G2) (f f' : DEn) : DEn := fun env cs => (f env cs).bind fun x cs => (f' env cs).bind fun y cs => g x y cs
section
variable {X : Cx} {W : WX} {hx : Hx} {a b : Expr} {fa fb : DEn} {pos : Pos}
theorem je_var (i : Nat) {x : Str} (hN : X.N[i]? = some x := by rfl) (hv : Vis X.env.scope x := by first | exact Or.inl rfl | exact Or.inr (Or.inl rfl) | exact Or.inr (Or.inr rfl)) (hd : (x == ("__debug__" : Str)) = false := by decide)
    (hcd : (x == ("__classdict__" : Str)) = false := by decide) : JE X W hx (.Name x pos) (dVar i) := by
  refine ⟨_, pe_var hN hv hd hcd, ?_⟩
  intro io G H cs env σ Q s k
  unfold dVar at k
  split at k
  · rename_i d e
    obtain ⟨v, e1, r⟩ := s.s.get e
    exact ⟨v, e1, k.ok s.w v r⟩
  · exact k.elim
theorem je_int {i : Int} {j} : JE X W hx (.Constant (.int i) j pos) (dC (.int i)) := ⟨_, pe_int, fun _ _ _ _ _ _ _ s k => k.ok s.w _ (rsv_int i)⟩
theorem je_bl {i : Bool} {j} : JE X W hx (.Constant (.bool i) j pos) (dC (.bl i)) := ⟨_, pe_bl, fun _ _ _ _ _ _ _ s k => k.ok s.w _ (rsv_bl i)⟩
theorem je_non {j} : JE X W hx (.Constant .none j pos) (dC .non) := ⟨_, pe_non, fun _ _ _ _ _ _ _ s k => k.ok s.w _ rsv_non⟩
theorem je_str {i : Str} {j} : JE X W hx (.Constant (.str i) j pos) (dC (.str i)) := ⟨_, pe_str, fun _ _ _ _ _ _ _ s k => k.ok s.w _ (rsv_str i)⟩
theorem je_glob {x : Str} {v : V} {u : Value} (hg : Gl X x) (hm : X.mg x = some u) (r : RelV v u) (hd : (x == ("__debug__" : Str)) = false := by decide) : JE X W hx (.Name x pos) (dC (.raw v)) :=
  ⟨_, pe_glob hg hm r hd, fun _ _ _ _ _ _ _ s k => k.ok s.w _ (rsv_raw v)⟩
theorem je_gint {x : Str} {i : Int} (hg : Gl X x) (hm : ∃ t, X.mg x = some (.int i t)) (hd : (x == ("__debug__" : Str)) = false := by decide) : JE X W hx (.Name x pos) (dC (.int i)) := by
  obtain ⟨t, hm⟩ := hm
  exact ⟨_, pe_glob hg hm (v := .int i) ⟨t, rfl⟩ hd, fun _ _ _ _ _ _ _ s k => k.ok s.w _ (rsv_int i)⟩
theorem je_gstr {x : Str} {i : Str} (hg : Gl X x) (hm : ∃ t, X.mg x = some (.str i t)) (hd : (x == ("__debug__" : Str)) = false := by decide) : JE X W hx (.Name x pos) (dC (.str i)) := by
  obtain ⟨t, hm⟩ := hm
  exact ⟨_, pe_glob hg hm (v := .str i) ⟨t, rfl⟩ hd, fun _ _ _ _ _ _ _ s k => k.ok s.w _ (rsv_str i)⟩
theorem de_op {r : R2} {g : G2} {ta tb : TE} (ha : DE X.K hx W ta fa) (hb : DE X.K hx W tb fb) (ho : OpD X.K r g) : DE X.K hx W (tOp r ta tb) (dBin g fa fb) := by
  intro io G H cs env σ Q s h
  refine ha io G H cs env σ _ s (AfR.imp (AfR.bind h) fun i g1 h1 c x l w k v rv => ?_)
  refine hb i g1 h1 c env σ _ (s.to l w) (AfR.imp (AfR.bind k) fun i2 g2 h2 c2 y l2 w2 k2 u ru => ?_)
  exact ho W i2 g2 h2 c2 σ x y v u Q w2 (rv.mono l2.io l2.g) ru k2
theorem je_bin {op : Operator} {g : G2} (o : BinD X (binaryOp op) g) (ha : JE X W hx a fa) (hb : JE X W hx b fb) : JE X W hx (.BinOp a op b pos) (dBin g fa fb) := by
  obtain ⟨r, o1, o2⟩ := o
  obtain ⟨ta, a1, a2⟩ := ha
  obtain ⟨tb, b1, b2⟩ := hb
  exact ⟨_, pe_op o1 a1 b1, de_op a2 b2 o2⟩
theorem je_cmp {op : CmpOp} {g : G2} (o : BinD X (compareOp op) g) (ha : JE X W hx a fa) (hb : JE X W hx b fb) (hm : behindInMarks op b = false := by first | exact nomark _ | rfl) : JE X W hx (.Compare a [op] [b] pos) (dBin g fa fb) := by
  obtain ⟨r, o1, o2⟩ := o
  obtain ⟨ta, a1, a2⟩ := ha
  obtain ⟨tb, b1, b2⟩ := hb
  exact ⟨_, pe_cmpR o1 a1 b1 hm, de_op a2 b2 o2⟩
/-- a bool, as a test -/
def dTst (f : DEn) : DTn := fun env cs => (f env cs).bind fun d cs => match d with
  | (.bl b) => .ok b cs
  | _ => .stuck
theorem dt_tst {te : TE} (h : DE X.K hx W te fa) : DT X.K hx W (tTest te) (dTst fa) := by
  intro io G H cs env σ Q s k
  refine h io G H cs env σ _ s (AfR.imp (AfR.bind k) fun i g1 h1 c x l w k v rv => ?_)
  split at k
  · rename_i b
    exact ⟨b, rv.bl, k.ok w⟩
  · exact k.elim
theorem jt_cmp {op : CmpOp} {g : G2} (o : BinD X (compareOp op) g) (ha : JE X W hx a fa) (hb : JE X W hx b fb) (hm : behindInMarks op b = false := by first | exact nomark _ | rfl) : JT X W hx (.Compare a [op] [b] pos) (dTst (dBin g fa fb)) := by
  obtain ⟨r, o1, o2⟩ := o
  obtain ⟨ta, a1, a2⟩ := ha
  obtain ⟨tb, b1, b2⟩ := hb
  exact ⟨_, pt_cmpR o1 a1 b1 hm, dt_tst (de_op a2 b2 o2)⟩
/-- truth of any value -/
def tru (cs : Cells) : P → Option Bool
  | .non => some false
  | (.bl b) => some b
  | (.int i) => some (i != 0)
  | (.str s) => if s.length ≤ sizeLine then some ((s.length : Int) != 0) else none
  | (.dK kvs) => some (!kvs.isEmpty)
  | .cell n => match cs[n]? with
    | some (.lst xs) => some (!xs.isEmpty)
    | some (.dK kvs) => some (!kvs.isEmpty)
    | _ => none
  | d => (seqc cs d).map fun xs => !xs.isEmpty
def dTru (f : DEn) : DTn := fun env cs => (f env cs).bind fun d cs => match tru cs d with
  | some b => .ok b cs
  | none => .stuck
end
section
variable {K : PySem.W.Frag} {hx : Hx} {io : List Addr} {G H : Hp} {cs : Cells}
theorem Rps.isEmpty {xs : List P} {vs : List V} (h : Rps K io G xs vs) : vs.isEmpty = xs.isEmpty := by
  have e := h.length
  cases xs <;> cases vs <;> simp_all
theorem RpK.isEmpty {xs : List (Key × P)} {vs : List (Key × V)} (h : RpK K io G xs vs) : vs.isEmpty = xs.isEmpty := by
  cases xs with
  | nil => simp only [RpK] at h; subst h; rfl
  | cons a r => obtain ⟨k, x⟩ := a; simp only [RpK] at h; obtain ⟨v, t, e, _⟩ := h; subst e; rfl
theorem tru_sq (w : WOk K io G H cs) {d : P} {v : V} {b : Bool} (h : (seqc cs d).map (fun xs => !xs.isEmpty) = some b) (r : Rp K io G d v) : TruV K v H b := by
  cases e : seqc cs d with
  | none => rw [e] at h; cases h
  | some xs =>
    rw [e] at h
    obtain ⟨a, vs, rfl, q, t⟩ := seqc_ok w e r
    have eb : b = !vs.isEmpty := by rw [t.isEmpty]; exact (Option.some.inj h).symm
    rcases q with q | q
    · exact .inl ⟨vs, q, eb⟩
    · exact .inr (.inl ⟨vs, q, eb⟩)
theorem tru_is (w : WOk K io G H cs) {d : P} {v : V} {b : Bool} (h : tru cs d = some b) (r : Rp K io G d v) : TruV K v H b := by
  cases d with
  | non => cases h; rw [r.non]; rfl
  | bl c => cases h; rw [r.bl]; rfl
  | int i => cases h; rw [r.int]; rfl
  | str z =>
    simp only [tru] at h
    split at h
    · cases h
      rw [r.str]
      exact ⟨by assumption, rfl⟩
    · cases h
  | dK kvs =>
    cases h
    simp only [Rp] at r
    obtain ⟨a, hs, rfl, e, t⟩ := r
    exact .inr (.inr ⟨hs, w.same _ _ e, by rw [t.isEmpty]⟩)
  | lst xs => exact tru_sq (d := .lst xs) w (by simp only [tru] at h; exact h) r
  | tup xs => exact tru_sq (d := .tup xs) w (by simp only [tru] at h; exact h) r
  | klst xs => exact tru_sq (d := .klst xs) w (by simp only [tru] at h; exact h) r
  | cell n =>
    simp only [tru] at h
    split at h
    · rename_i xs e
      cases h
      obtain ⟨a, e1, rfl, _, vs, e3, t⟩ := w.cellAt e r
      exact .inl ⟨vs, SqL.of e3, by rw [t.isEmpty]⟩
    · rename_i xs e
      cases h
      obtain ⟨a, e1, rfl, _, vs, e3, t⟩ := w.cellAt e r
      exact .inr (.inr ⟨vs, e3, by rw [t.isEmpty]⟩)
    · cases h
  | _ => cases h
end
section
variable {X : Cx} {W : WX} {hx : Hx} {a b c : Expr} {fa fb : DEn} {ft fu : DTn} {pos : Pos} {rest : List Expr}
theorem jt_tru (h : JE X W hx a fa) (he : ∀ whole, isTrue a X.env whole = (do let v ← whole; standAt a.pos; holding [v] (truthy v)) := by intro _; rfl) : JT X W hx a (dTru fa) := by
  obtain ⟨ta, a1, a2⟩ := h
  refine ⟨_, pt_truth a1 he, ?_⟩
  intro io G H cs env σ Q s k
  refine a2 io G H cs env σ _ s (AfR.imp (AfR.bind k) fun i g1 h1 c x l w k v rv => ?_)
  split at k
  · rename_i b e
    exact ⟨b, tru_is w e rv, k.ok w⟩
  · exact k.elim
theorem jt_val (h : JE X W hx a fa) (he : ∀ whole, isTrue a X.env whole = (do let v ← whole; standAt a.pos; holding [v] (truthy v)) := by intro _; rfl) : JT X W hx a (dTst fa) := by
  obtain ⟨ta, a1, a2⟩ := h
  exact ⟨_, pt_val a1 he, dt_tst a2⟩
def dNot (f : DTn) : DTn := fun env cs => (f env cs).bind fun b cs => .ok (!b) cs
def dAnd (f g : DTn) : DTn := fun env cs => (f env cs).bind fun b cs => if b = true then g env cs else .ok false cs
def dOr (f g : DTn) : DTn := fun env cs => (f env cs).bind fun b cs => if b = true then .ok true cs else g env cs
theorem jt_not (h : JT X W hx a ft) : JT X W hx (.UnaryOp .Not a pos) (dNot ft) := by
  obtain ⟨t, a1, a2⟩ := h
  refine ⟨_, pt_not a1, ?_⟩
  intro io G H cs env σ Q s k
  exact a2 io G H cs env σ _ s (AfR.imp (AfR.bind k) fun i g1 h1 c x l w k => k.ok w)
theorem jw_and1 (h : JT X W hx a ft) : JW X W hx (.BoolOp .And [a] pos) ft := by
  obtain ⟨t, a1, a2⟩ := h
  exact ⟨_, pw_and1 a1, a2⟩
theorem jw_or1 (h : JT X W hx a ft) : JW X W hx (.BoolOp .Or [a] pos) ft := by
  obtain ⟨t, a1, a2⟩ := h
  exact ⟨_, pw_or1 a1, a2⟩
theorem jw_and (h : JT X W hx a ft) (h' : JW X W hx (.BoolOp .And (b :: rest) pos) fu) : JW X W hx (.BoolOp .And (a :: b :: rest) pos) (dAnd ft fu) := by
  obtain ⟨t, a1, a2⟩ := h
  obtain ⟨u, b1, b2⟩ := h'
  refine ⟨_, pw_and a1 b1, ?_⟩
  intro io G H cs env σ Q s k
  refine a2 io G H cs env σ _ s (AfR.imp (AfR.bind k) fun i g1 h1 c x l w k => ?_)
  cases x with
  | true => rw [if_pos rfl] at k ⊢; exact b2 _ _ _ _ _ _ _ (s.to l w) k
  | false => rw [if_neg Bool.false_ne_true] at k ⊢; exact k.ok w
theorem jw_or (h : JT X W hx a ft) (h' : JW X W hx (.BoolOp .Or (b :: rest) pos) fu) : JW X W hx (.BoolOp .Or (a :: b :: rest) pos) (dOr ft fu) := by
  obtain ⟨t, a1, a2⟩ := h
  obtain ⟨u, b1, b2⟩ := h'
  refine ⟨_, pw_or a1 b1, ?_⟩
  intro io G H cs env σ Q s k
  refine a2 io G H cs env σ _ s (AfR.imp (AfR.bind k) fun i g1 h1 c x l w k => ?_)
  cases x with
  | false => rw [if_neg Bool.false_ne_true] at k ⊢; exact b2 _ _ _ _ _ _ _ (s.to l w) k
  | true => rw [if_pos rfl] at k ⊢; exact k.ok w
theorem jt_w (h : JW X W hx a ft) : JT X W hx a ft := by
  obtain ⟨t, a1, a2⟩ := h
  exact ⟨_, a1.pt, a2⟩
/-- and, or, not as values of bools -/
def dAndV (f g : DEn) : DEn := fun env cs => (f env cs).bind fun d cs => match d with
  | (.bl b) => if b = true then g env cs else .ok (.bl false) cs
  | _ => .stuck
def dOrV (f g : DEn) : DEn := fun env cs => (f env cs).bind fun d cs => match d with
  | (.bl b) => if b = true then .ok (.bl true) cs else g env cs
  | _ => .stuck
def dNotV (f : DEn) : DEn := fun env cs => (f env cs).bind fun d cs => match d with
  | (.bl b) => .ok ((.bl (!b))) cs
  | _ => .stuck
theorem je_one {op} (h : JE X W hx a fa) : JE X W hx (.BoolOp op [a] pos) fa := by
  obtain ⟨t, a1, a2⟩ := h
  exact ⟨_, pe_one a1, a2⟩
theorem je_and (h : JE X W hx a fa) (h' : JE X W hx (.BoolOp .And (b :: rest) pos) fb) : JE X W hx (.BoolOp .And (a :: b :: rest) pos) (dAndV fa fb) := by
  obtain ⟨t, a1, a2⟩ := h
  obtain ⟨u, b1, b2⟩ := h'
  refine ⟨_, pe_and a1 b1, ?_⟩
  intro io G H cs env σ Q s k
  refine a2 io G H cs env σ _ s (AfR.imp (AfR.bind k) fun i g1 h1 c x l w k v rv => ?_)
  split at k
  · rename_i b
    refine ⟨b, rv.bl, ?_⟩
    cases b with
    | true => rw [if_pos rfl] at k ⊢; exact b2 _ _ _ _ _ _ _ (s.to l w) k
    | false => rw [if_neg Bool.false_ne_true] at k ⊢; exact k.ok w _ (rsv_bl _)
  · exact k.elim
theorem je_or (h : JE X W hx a fa) (h' : JE X W hx (.BoolOp .Or (b :: rest) pos) fb) : JE X W hx (.BoolOp .Or (a :: b :: rest) pos) (dOrV fa fb) := by
  obtain ⟨t, a1, a2⟩ := h
  obtain ⟨u, b1, b2⟩ := h'
  refine ⟨_, pe_or a1 b1, ?_⟩
  intro io G H cs env σ Q s k
  refine a2 io G H cs env σ _ s (AfR.imp (AfR.bind k) fun i g1 h1 c x l w k v rv => ?_)
  split at k
  · rename_i b
    refine ⟨b, rv.bl, ?_⟩
    cases b with
    | false => rw [if_neg Bool.false_ne_true] at k ⊢; exact b2 _ _ _ _ _ _ _ (s.to l w) k
    | true => rw [if_pos rfl] at k ⊢; exact k.ok w _ (rsv_bl _)
  · exact k.elim
theorem je_not (h : JE X W hx a fa) : JE X W hx (.UnaryOp .Not a pos) (dNotV fa) := by
  obtain ⟨t, a1, a2⟩ := h
  refine ⟨_, pe_not a1, ?_⟩
  intro io G H cs env σ Q s k
  refine a2 io G H cs env σ _ s (AfR.imp (AfR.bind k) fun i g1 h1 c x l w k v rv => ?_)
  split at k
  · rename_i b
    exact ⟨b, rv.bl, k.ok w _ (rsv_bl _)⟩
  · exact k.elim
/-- -a -/
def dNeg (f : DEn) : DEn := fun env cs => (f env cs).bind fun d cs => match d with
  | (.int i) => .ok ((.int (-i))) cs
  | _ => .stuck
theorem je_neg (h : JE X W hx a fa) : JE X W hx (.UnaryOp .USub a pos) (dNeg fa) := by
  obtain ⟨t, a1, a2⟩ := h
  refine ⟨_, pe_un un_neg a1, ?_⟩
  intro io G H cs env σ Q s k
  refine a2 io G H cs env σ _ s (AfR.imp (AfR.bind k) fun i g1 h1 c x l w k v rv => ?_)
  split at k
  · rename_i b
    exact ⟨b, rv.int, k.ok w _ (rsv_int _)⟩
  · exact k.elim
/-- a if t else b -/
def dIfE (t : DTn) (f g : DEn) : DEn := fun env cs => (t env cs).bind fun b cs => if b = true then f env cs else g env cs
theorem je_if (h : JT X W hx c ft) (ha : JE X W hx a fa) (hb : JE X W hx b fb) : JE X W hx (.IfExp c a b pos) (dIfE ft fa fb) := by
  obtain ⟨t, c1, c2⟩ := h
  obtain ⟨u, a1, a2⟩ := ha
  obtain ⟨z, b1, b2⟩ := hb
  refine ⟨_, pe_ifExp c1 a1 b1, ?_⟩
  intro io G H cs env σ Q s k
  refine c2 io G H cs env σ _ s (AfR.imp (AfR.bind k) fun i g1 h1 c x l w k => ?_)
  cases x with
  | true => rw [if_pos rfl] at k ⊢; exact a2 _ _ _ _ _ _ _ (s.to l w) k
  | false => rw [if_neg Bool.false_ne_true] at k ⊢; exact b2 _ _ _ _ _ _ _ (s.to l w) k
end
end DL

namespace L2
open PySem PySem.Spec PyProof.Rows
/-- d[y], by values -/
def rIxDx : R2 := fun x y H Q => ∃ a v, x = .ref a ∧ DGet H a y (some v) ∧ Q v H
theorem ix_dictx {X : Cx} (hu : X.A.units + 1 < cLine) : IxR X rIxDx := by
  intro value slice pins s σ H x y v u Q I rx ry h hs
  obtain ⟨a, z, ex, g, q⟩ := h
  subst ex
  obtain rfl : v = Value.ref a := rx
  have hT := dict_typeIs I g
  unfold subscriptTail
  refine wpAny_bind ?_
  rw [getitemInPython_of_ne hT.not_modules]
  refine wpAny_bind (wpAny_specialOf hT PySem.F.slot_dict_getitem.lookup ?_)
  have h2 : wpAny (model X.prog X.w) X.A (getItem (.ref a) u) (EP X pins σ Q) X.xe s := d_getItem hu I g ry fun w' s3 I3 rw' => ⟨z, H, I3, rw', q⟩
  have fin : wpAny (model X.prog X.w) X.A (subscripted slice false (.ref a) u) (fun r s₃ => wpAny (model X.prog X.w) X.A (letTemporaryGo value (.ref a) r >>= fun _ => pure r) (EP X pins σ Q) X.xe s₃) X.xe s := by
    rw [hs]
    exact wpAny_operating (wpAny_mono h2 (fun r s₃ h₃ => wpAny_bind (wpAny_letTemporaryGo (wpAny_pure h₃))) fun _ _ x => x)
  first
    | exact wpAny_pure (wpAny_bind fin)
    | exact wpAny_bind (wpAny_pure (wpAny_bind fin))
    | exact wpAny_bind fin
/-- y in d, y not in d, by values -/
def rInDkx (neg : Bool) : R2 := fun x y H Q => ∃ a o, y = .ref a ∧ DGet H a x o ∧ Q (.bl (if neg then !o.isSome else o.isSome)) H
theorem op_inDkx {X : Cx} (hu : X.A.units + 1 < cLine) : OpR X (compareOp .In) (rInDkx false) := by
  intro pins s σ H x y v u Q I rx ry h
  obtain ⟨a, o, ex, g, q⟩ := h
  subst ex
  obtain rfl : u = Value.ref a := ry
  exact d_in hu I g rx fun s3 I3 => ⟨.bl o.isSome, H, I3, rfl, q⟩
theorem op_notinDkx {X : Cx} (hu : X.A.units + 1 < cLine) : OpR X (compareOp .NotIn) (rInDkx true) := by
  intro pins s σ H x y v u Q I rx ry h
  obtain ⟨a, o, ex, g, q⟩ := h
  subst ex
  obtain rfl : u = Value.ref a := ry
  exact d_notIn hu I g rx fun s3 I3 => ⟨.bl (!o.isSome), H, I3, rfl, q⟩
/-- d[y] = v, by values -/
def rSetDx : V → V → V → Hp → (Hp → Prop) → Prop := fun o i v H Q => ∃ a H', o = .ref a ∧ DPut H a i v H' ∧ Q H'
theorem set_dictx {X : Cx} (hu : X.A.units + 1 < cLine) : PSet X rSetDx := by
  intro pins s σ H o i v ov iv u Q I ro ri rv h
  obtain ⟨a, H', ex, g, q⟩ := h
  subst ex
  obtain rfl : ov = Value.ref a := ro
  exact d_setItem hu I g ri rv fun s4 I4 => ⟨H', I4, q⟩
theorem PSet.or {X : Cx} {t t' : TSet} (h : PSet X t) (h' : PSet X t') : PSet X (fun o i v H Q => t o i v H Q ∨ t' o i v H Q) := by
  intro pins s σ H o i v ov iv u Q I ro ri rv q
  rcases q with q | q
  · exact h pins s σ H o i v ov iv u Q I ro ri rv q
  · exact h' pins s σ H o i v ov iv u Q I ro ri rv q
end L2
namespace DL
open PySem L2

/-! ### keys -/
def keyP : P → Option Key
  | .int i => some (.inl i)
  | .str s => some (.inr s)
  | _ => none
def keysP : List P → Option (List Key)
  | [] => some []
  | x :: xs => match keyP x, keysP xs with
    | some k, some ks => some (k :: ks)
    | _, _ => none
def valP {κ : Type} [DecidableEq κ] {α : Type} (kvs : List (κ × α)) (k : κ) : Option α := (kvs.find? fun kv => decide (kv.1 = k)).map (·.2)
section
variable {K : PySem.W.Frag} {hx : Hx} {io : List Addr} {G H : Hp} {cs : Cells}
theorem keyP_ok {x : P} {k : Key} {v : V} (h : keyP x = some k) (r : Rp K io G x v) : v = kV k := by
  cases x with
  | int i => cases h; simp only [Rp] at r; rw [r]; rfl
  | str i => cases h; simp only [Rp] at r; rw [r]; rfl
  | _ => cases h
theorem keysP_ok : ∀ {xs : List P} {ks : List Key} {vs : List V}, keysP xs = some ks → Rps K io G xs vs → vs = ks.map kV
  | [], _, _, h, r => by cases h; simp only [Rps] at r; rw [r]; rfl
  | x :: xs, ks, vs, h, r => by
    simp only [keysP] at h
    split at h
    · rename_i k ks' e1 e2
      cases h
      simp only [Rps] at r
      obtain ⟨v, t, rfl, r1, r2⟩ := r
      rw [keyP_ok e1 r1, keysP_ok e2 r2]
      rfl
    · cases h
theorem valP_nil {κ α : Type} [DecidableEq κ] {k : κ} : valP ([] : List (κ × α)) k = none := rfl
theorem valP_cons {κ α : Type} [DecidableEq κ] {k : κ} {p : κ × α} {r : List (κ × α)} : valP (p :: r) k = if p.1 = k then some p.2 else valP r k := by
  unfold valP
  rw [List.find?_cons]
  by_cases e : p.1 = k
  · rw [if_pos e]; simp [e]
  · rw [if_neg e]; simp [e]
theorem RpK.val : ∀ {kvs : List (Key × P)} {hs : List (Key × V)} (k : Key), RpK K io G kvs hs → (match valP kvs k with
    | none => valV hs k = none
    | some x => ∃ v, valV hs k = some v ∧ Rp K io G x v)
  | [], _, k, h => by simp only [RpK] at h; subst h; exact valV_nil
  | (j, x) :: r, _, k, h => by
    simp only [RpK] at h
    obtain ⟨v, t, rfl, r1, r2⟩ := h
    rw [valP_cons]
    by_cases e : j = k
    · rw [if_pos e]
      exact ⟨v, valV_pos e, r1⟩
    · rw [if_neg e]
      have q := RpK.val k r2
      split
      · rename_i z; rw [z] at q; rw [valV_neg e]; exact q
      · rename_i y z; rw [z] at q; rw [valV_neg e]; exact q
theorem RpT.val : ∀ {kvs : List (List Key × P)} {hs : List (List Key × V)} (k : List Key), RpT K io G kvs hs → (match valP kvs k with
    | none => valV hs k = none
    | some x => ∃ v, valV hs k = some v ∧ Rp K io G x v)
  | [], _, k, h => by simp only [RpT] at h; subst h; exact valV_nil
  | (j, x) :: r, _, k, h => by
    simp only [RpT] at h
    obtain ⟨v, t, rfl, r1, r2⟩ := h
    rw [valP_cons]
    by_cases e : j = k
    · rw [if_pos e]
      exact ⟨v, valV_pos e, r1⟩
    · rw [if_neg e]
      have q := RpT.val k r2
      split
      · rename_i z; rw [z] at q; rw [valV_neg e]; exact q
      · rename_i y z; rw [z] at q; rw [valV_neg e]; exact q
end
def RpO (K : PySem.W.Frag) (io : List Addr) (G : Hp) : Option P → Option V → Prop
  | none, o => o = none
  | some d, o => ∃ v, o = some v ∧ Rp K io G d v
/-- what a dict holds at a key (outer none: not a dict, or no key) -/
def dgetK (kvs : List (Key × P)) (k : P) : Option (Option P) := match keyP k with
  | some k => some (valP kvs k)
  | none => none
def dgetT (kvs : List (List Key × P)) (k : P) : Option (Option P) := match k with
  | .tup xs => match keysP xs with
    | some k => some (valP kvs k)
    | none => none
  | _ => none
def dget (cs : Cells) (d k : P) : Option (Option P) := match d with
  | .dK kvs => dgetK kvs k
  | .dT kvs => dgetT kvs k
  | .cell n => match cs[n]? with
    | some (.dK kvs) => dgetK kvs k
    | some (.dT kvs) => dgetT kvs k
    | _ => none
  | _ => none
section
variable {K : PySem.W.Frag} {hx : Hx} {io : List Addr} {G H : Hp} {cs : Cells}
theorem dgetK_ok (s : Same G H) {kvs : List (Key × P)} {k : P} {o : Option P} {a : Addr} {hs : List (Key × V)} {u : V} (h : dgetK kvs k = some o) (e : H a = some (.dK hs)) (r : RpK K io G kvs hs) (ru : Rp K io G k u) :
    ∃ o', DGet H a u o' ∧ RpO K io G o o' := by
  unfold dgetK at h
  split at h
  · rename_i k' ek
    cases h
    have eu := keyP_ok ek ru
    subst eu
    have q := RpK.val k' r
    cases z : valP kvs k' with
    | none => rw [z] at q; exact ⟨none, by rw [← q]; exact DGet.k e, rfl⟩
    | some y => rw [z] at q; obtain ⟨v, e1, e2⟩ := q; exact ⟨some v, by rw [← e1]; exact DGet.k e, v, rfl, e2⟩
  · cases h
theorem dgetT_ok (s : Same G H) {kvs : List (List Key × P)} {k : P} {o : Option P} {a : Addr} {hs : List (List Key × V)} {u : V} (h : dgetT kvs k = some o) (e : H a = some (.dT hs)) (r : RpT K io G kvs hs) (ru : Rp K io G k u) :
    ∃ o', DGet H a u o' ∧ RpO K io G o o' := by
  unfold dgetT at h
  split at h
  · split at h
    · rename_i xs k' ek
      cases h
      simp only [Rp] at ru
      obtain ⟨b, vs, rfl, eb, rt⟩ := ru
      have eb := s _ _ eb
      rw [keysP_ok ek rt] at eb
      have q := RpT.val k' r
      cases z : valP kvs k' with
      | none => rw [z] at q; exact ⟨none, by rw [← q]; exact DGet.t e eb, rfl⟩
      | some y => rw [z] at q; obtain ⟨v, e1, e2⟩ := q; exact ⟨some v, by rw [← e1]; exact DGet.t e eb, v, rfl, e2⟩
    · cases h
  · cases h
theorem dget_ok (w : WOk K io G H cs) {d k : P} {o : Option P} {v u : V} (h : dget cs d k = some o) (rd : Rp K io G d v) (ru : Rp K io G k u) :
    ∃ a o', v = .ref a ∧ DGet H a u o' ∧ RpO K io G o o' := by
  cases d with
  | dK kvs =>
    simp only [Rp] at rd
    obtain ⟨a, hs, rfl, e, r⟩ := rd
    obtain ⟨o', q⟩ := dgetK_ok w.same h (w.same _ _ e) r ru
    exact ⟨a, o', rfl, q⟩
  | dT kvs =>
    simp only [Rp] at rd
    obtain ⟨a, hs, rfl, e, r⟩ := rd
    obtain ⟨o', q⟩ := dgetT_ok w.same h (w.same _ _ e) r ru
    exact ⟨a, o', rfl, q⟩
  | cell n =>
    simp only [dget] at h
    split at h
    · rename_i kvs e
      obtain ⟨a, e1, rfl, _, hs, e3, t⟩ := w.cellAt e rd
      obtain ⟨o', q⟩ := dgetK_ok w.same h e3 t ru
      exact ⟨a, o', rfl, q⟩
    · rename_i kvs e
      obtain ⟨a, e1, rfl, _, hs, e3, t⟩ := w.cellAt e rd
      obtain ⟨o', q⟩ := dgetT_ok w.same h e3 t ru
      exact ⟨a, o', rfl, q⟩
    · cases h
  | _ => cases h
end

/-! ### subscripts -/
def gIxS : G2 := fun x y cs => match x, y with
  | (.str z), (.int i) => if z.length ≤ sizeLine then (match atI z.cps.toList i with
    | some c => .ok ((.str ⟨#[c]⟩)) cs
    | none => .stuck) else .stuck
  | _, _ => .stuck
def gIxL : G2 := fun x y cs => match y with
  | (.int i) => (match seqc cs x with
    | some xs => (match atI xs i with
      | some d => .ok d cs
      | none => .stuck)
    | none => .stuck)
  | _ => .stuck
def gIxD : G2 := fun x y cs => match dget cs x y with
  | some (some d) => .ok d cs
  | _ => .stuck
def gIx : G2 := orG gIxL (orG gIxS gIxD)
section
variable {K : PySem.W.Frag} {hx : Hx} {io : List Addr} {G H : Hp} {cs : Cells}
theorem Rps.atI {xs : List P} {vs : List V} {i : Int} {x : P} (h : Rps K io G xs vs) (e : L2.atI xs i = some x) : ∃ v, L2.atI vs i = some v ∧ Rp K io G x v := by
  unfold L2.atI at e ⊢
  rw [h.length]
  cases z : ixN xs.length i with
  | none => rw [z] at e; cases e
  | some j =>
    rw [z] at e
    rw [Option.bind_some] at e ⊢
    exact h.get e
theorem opd_ixL : OpD K (fun x y H Q => rIxL K x y H Q ∨ rIxT K x y H Q) gIxL := by
  intro W io G H cs σ x y v u Q w rx ry k
  unfold gIxL at k
  split at k
  · rename_i i
    split at k
    · rename_i xs e1
      split at k
      · rename_i d e2
        obtain ⟨a, vs, rfl, q, t⟩ := seqc_ok w e1 rx
        obtain ⟨z, e3, r3⟩ := t.atI e2
        cases ry.int
        rcases q with q | q
        · exact .inl ⟨a, vs, i, z, rfl, rfl, q, e3, k.ok w _ r3⟩
        · exact .inr ⟨a, vs, i, z, rfl, rfl, q, e3, k.ok w _ r3⟩
      · exact k.elim
    · exact k.elim
  · exact k.elim
theorem opd_ixS : OpD K rIxS gIxS := by
  intro W io G H cs σ x y v u Q w rx ry k
  unfold gIxS at k
  split at k
  · rename_i z i
    split at k
    · rename_i hz
      split at k
      · rename_i c e
        cases rx.str
        cases ry.int
        exact ⟨z, i, c, rfl, rfl, hz, e, k.ok w _ (rsv_str _)⟩
      · exact k.elim
    · exact k.elim
  · exact k.elim
theorem opd_ixD : OpD K rIxDx gIxD := by
  intro W io G H cs σ x y v u Q w rx ry k
  unfold gIxD at k
  split at k
  · rename_i d e
    obtain ⟨a, o', rfl, g, z, rfl, r⟩ := dget_ok w e rx ry
    exact ⟨a, z, rfl, g, k.ok w _ r⟩
  · exact k.elim
end
section
variable {X : Cx} {W : WX} {hx : Hx} {a b : Expr} {fa fb : DEn} {pos : Pos}
theorem je_ix (hu : X.A.units + 1 < cLine) (ha : JE X W hx a fa) (hb : JE X W hx b fb) (hs : PlainIx b := by exact fun _ _ => rfl) : JE X W hx (.Subscript a b pos) (dBin gIx fa fb) := by
  obtain ⟨ta, a1, a2⟩ := ha
  obtain ⟨tb, b1, b2⟩ := hb
  exact ⟨_, pe_ix ((ix_list.or ix_tup).or (ix_str.or (ix_dictx hu))) a1 b1 hs, de_op a2 b2 (opd_ixL.or (opd_ixS.or opd_ixD))⟩
end

/-! ### in, ==, is -/
def flatP : P → Bool
  | .non => true | .bl _ => true | .int _ => true | .str _ => true
  | _ => false
def eqF : P → P → Bool
  | .non, .non => true
  | .bl a, .bl b => a == b
  | .bl a, .int j => (if a then 1 else 0) == j
  | .int i, .bl b => i == (if b then 1 else 0)
  | .int i, .int j => i == j
  | .str x, .str y => x == y
  | _, _ => false

section
variable {K : PySem.W.Frag} {hx : Hx} {io : List Addr} {G H : Hp} {cs : Cells}
theorem flat_eq {x y : P} {v u : V} (fx : flatP x = true) (fy : flatP y = true) (rx : Rp K io G x v) (ry : Rp K io G y u) : flatV v = true ∧ flatV u = true ∧ eqV v u = eqF x y := by
  cases x <;> first
    | exact absurd (show false = true from fx) Bool.false_ne_true
    | (cases y <;> first
        | exact absurd (show false = true from fy) Bool.false_ne_true
        | (simp only [Rp] at rx ry
           subst rx ry
           exact ⟨rfl, rfl, rfl⟩))
theorem flat_in {x : P} {v : V} (fx : flatP x = true) (rx : Rp K io G x v) : ∀ {xs : List P} {vs : List V}, xs.all flatP = true → Rps K io G xs vs → vs.all flatV = true ∧ inV v vs = xs.any fun y => eqF y x
  | [], _, _, r => by simp only [Rps] at r; subst r; exact ⟨rfl, rfl⟩
  | y :: ys, _, f, r => by
    simp only [Rps] at r
    obtain ⟨u, t, rfl, r1, r2⟩ := r
    rw [List.all_cons, Bool.and_eq_true] at f
    obtain ⟨q1, q2⟩ := flat_in fx rx f.2 r2
    obtain ⟨z1, z2, z3⟩ := flat_eq f.1 fx r1 rx
    refine ⟨by rw [List.all_cons, z1, q1]; rfl, ?_⟩
    unfold inV at q2 ⊢
    rw [List.any_cons, List.any_cons, z3, q2]
end
def gInL (neg : Bool) : G2 := fun x y cs => match seqc cs y with
  | some xs => if flatP x = true ∧ xs.all flatP = true then .ok (.bl (if neg then !(xs.any fun y => eqF y x) else xs.any fun y => eqF y x)) cs else .stuck
  | none => .stuck
/-- one sign of a text in a text -/
def gInS (neg : Bool) : G2 := fun x y cs => match x, y with
  | .str a, .str b => .ok (.bl (if neg then !(!(Builtin.Str.occurrences b a 0 b.length 1).isEmpty) else !(Builtin.Str.occurrences b a 0 b.length 1).isEmpty)) cs
  | _, _ => .stuck
def gInD (neg : Bool) : G2 := fun x y cs => match dget cs y x with
  | some o => .ok (.bl (if neg then !o.isSome else o.isSome)) cs
  | none => .stuck
def gIn (neg : Bool) : G2 := orG (gInL neg) (orG (gInS neg) (gInD neg))
/-- is None -/
def isNon : P → Option Bool
  | .raw _ => none
  | .non => some true
  | _ => some false
def gIsN (neg : Bool) : G2 := fun x y cs => match y, isNon x with
  | .non, some b => .ok (.bl (if neg then !b else b)) cs
  | _, _ => .stuck
def gIsB (neg : Bool) : G2 := fun x y cs => match x, y with
  | .bl a, .bl b => .ok (.bl (if neg then !decide (a = b) else decide (a = b))) cs
  | _, _ => .stuck
section
variable {K : PySem.W.Frag} {hx : Hx}
theorem opd_inL (neg : Bool) : OpD K (rIn K neg) (gInL neg) := by
  intro W io G H cs σ x y v u Q w rx ry k
  unfold gInL at k
  split at k
  · rename_i xs e
    split at k
    · rename_i f
      obtain ⟨a, vs, rfl, q, t⟩ := seqc_ok w e ry
      obtain ⟨q1, q2⟩ := flat_in f.1 rx f.2 t
      refine ⟨a, vs, rfl, q, ?_, q1, ?_⟩
      · exact (flat_eq f.1 (show flatP .non = true from rfl) rx (show Rp K io G .non .non by simp only [Rp])).1
      · rw [q2]
        exact k.ok w _ (rsv_bl _)
    · exact k.elim
  · exact k.elim
theorem opd_inS : OpD K (fun x y H Q => ∃ i j, x = .str i ∧ y = .str j ∧ Q (.bl (!(Builtin.Str.occurrences j i 0 j.length 1).isEmpty)) H) (gInS false) := by
  intro W io G H cs σ x y v u Q w rx ry k
  unfold gInS at k
  split at k
  · cases rx.str
    cases ry.str
    exact ⟨_, _, rfl, rfl, k.ok w _ (rsv_bl _)⟩
  · exact k.elim
theorem opd_notInS : OpD K (fun x y H Q => ∃ i j, x = .str i ∧ y = .str j ∧ Q (.bl (!(!(Builtin.Str.occurrences j i 0 j.length 1).isEmpty))) H) (gInS true) := by
  intro W io G H cs σ x y v u Q w rx ry k
  unfold gInS at k
  split at k
  · cases rx.str
    cases ry.str
    exact ⟨_, _, rfl, rfl, k.ok w _ (rsv_bl _)⟩
  · exact k.elim
theorem opd_inD (neg : Bool) : OpD K (rInDkx neg) (gInD neg) := by
  intro W io G H cs σ x y v u Q w rx ry k
  unfold gInD at k
  split at k
  · rename_i o e
    obtain ⟨a, o', rfl, g, z⟩ := dget_ok w e ry rx
    refine ⟨a, o', rfl, g, ?_⟩
    cases o with
    | none =>
      have z : o' = none := z
      subst z
      exact k.ok w _ (rsv_bl _)
    | some d =>
      obtain ⟨v', rfl, _⟩ := z
      exact k.ok w _ (rsv_bl _)
  · exact k.elim
theorem opd_isN : OpD K (fun x y H Q => y = .non ∧ Q (.bl (decide (x = .non))) H) (gIsN false) := by
  intro W io G H cs σ x y v u Q w rx ry k
  unfold gIsN at k
  split at k
  · rename_i b e
    refine ⟨ry.non, ?_⟩
    have hb : decide (v = .non) = b := by
      cases x <;> first
        | cases e
        | skip
      all_goals simp only [Rp] at rx
      all_goals first
        | (subst rx; rfl)
        | (obtain ⟨a, vs, rfl, _⟩ := rx; rfl)
        | (obtain ⟨a, vs, _, rfl, _⟩ := rx; rfl)
        | (obtain ⟨a, _, rfl⟩ := rx; rfl)
    rw [hb]
    exact k.ok w _ (rsv_bl _)
  · exact k.elim
theorem opd_notN : OpD K (fun x y H Q => y = .non ∧ Q (.bl (!decide (x = .non))) H) (gIsN true) := by
  intro W io G H cs σ x y v u Q w rx ry k
  unfold gIsN at k
  split at k
  · rename_i b e
    refine ⟨ry.non, ?_⟩
    have hb : decide (v = .non) = b := by
      cases x <;> first
        | cases e
        | skip
      all_goals simp only [Rp] at rx
      all_goals first
        | (subst rx; rfl)
        | (obtain ⟨a, vs, rfl, _⟩ := rx; rfl)
        | (obtain ⟨a, vs, _, rfl, _⟩ := rx; rfl)
        | (obtain ⟨a, _, rfl⟩ := rx; rfl)
    rw [hb]
    exact k.ok w _ (rsv_bl _)
  · exact k.elim
theorem opd_isB : OpD K rIsB (gIsB false) := by
  intro W io G H cs σ x y v u Q w rx ry k
  unfold gIsB at k
  split at k
  · cases rx.bl
    cases ry.bl
    exact ⟨_, _, rfl, rfl, k.ok w _ (rsv_bl _)⟩
  · exact k.elim
theorem opd_notB : OpD K rNotB (gIsB true) := by
  intro W io G H cs σ x y v u Q w rx ry k
  unfold gIsB at k
  split at k
  · cases rx.bl
    cases ry.bl
    exact ⟨_, _, rfl, rfl, k.ok w _ (rsv_bl _)⟩
  · exact k.elim
end
section
variable {X : Cx} {hx : Hx}
theorem bd_in (hu : X.A.units + 1 < cLine) : BinD X (compareOp .In) (gIn false) := ⟨_, op_in_seq.or (op_in_str.or (op_inDkx hu)), (opd_inL false).or (opd_inS.or (opd_inD false))⟩
theorem bd_notin (hu : X.A.units + 1 < cLine) : BinD X (compareOp .NotIn) (gIn true) := ⟨_, op_notIn_seq.or (op_notIn_str.or (op_notinDkx hu)), (opd_inL true).or (opd_notInS.or (opd_inD true))⟩
theorem bd_is : BinD X (compareOp .Is) (orG (gIsN false) (gIsB false)) := ⟨_, op_isN.or op_isBl, opd_isN.or opd_isB⟩
theorem bd_isnot : BinD X (compareOp .IsNot) (orG (gIsN true) (gIsB true)) := ⟨_, op_notN.or op_notBl, opd_notN.or opd_notB⟩
end
end DL

namespace DL
open PySem L2

/-! ### argument lists, displays -/
def dNil : DAn := fun _ cs => .ok [] cs
def dCons (f : DEn) (g : DAn) : DAn := fun env cs => (f env cs).bind fun x cs => (g env cs).bind fun xs cs => .ok (x :: xs) cs
/-- a fresh object: shared at once, or a cell of one's own -/
def pubC : CO → Option P
  | .lst xs => some (.lst xs)
  | .dK kvs => some (.dK kvs)
  | .dT kvs => some (.dT kvs)
  | .obj C fs => some (.obj C fs)
  | .dead => none
def dPub (f : DFn) : DEn := fun env cs => (f env cs).bind fun c cs => match pubC c with
  | some x => .ok x cs
  | none => .stuck
def dOwn (f : DFn) : DEn := fun env cs => (f env cs).bind fun c cs => .ok (.cell cs.length) (cs ++ [c])
def dTup (f : DAn) : DEn := fun env cs => (f env cs).bind fun xs cs => if xs.length ≤ sizeLine then .ok (.tup xs) cs else .stuck
def dLst (f : DAn) : DFn := fun env cs => (f env cs).bind fun xs cs => if xs.length ≤ sizeLine then .ok (.lst xs) cs else .stuck
section
variable {K : PySem.W.Frag} {hx : Hx} {W : WX} {io io' : List Addr} {G G' H H' : Hp} {cs : Cells} {σ : L2.St}
theorem COk.pub {c : CO} {x : P} {p : Addr} (h : COk K io G H p c) (w : WOk K io G H cs) (e : pubC c = some x) (np : p ∉ io) : ∃ o, H p = some o ∧ WOk K io (upd G p o) H cs ∧ Rp K io (upd G p o) x (.ref p) := by
  have pr := List.prefix_refl io
  cases c with
  | lst xs =>
    obtain ⟨g, vs, e1, r⟩ := h
    cases e
    refine ⟨_, e1, w.share e1 np, ?_⟩
    simp only [Rp]
    exact ⟨p, vs, rfl, upd_same, r.mono pr (same_share w.same e1)⟩
  | dK xs =>
    obtain ⟨g, vs, e1, r⟩ := h
    cases e
    refine ⟨_, e1, w.share e1 np, ?_⟩
    simp only [Rp]
    exact ⟨p, vs, rfl, upd_same, r.mono pr (same_share w.same e1)⟩
  | dT xs =>
    obtain ⟨g, vs, e1, r⟩ := h
    cases e
    refine ⟨_, e1, w.share e1 np, ?_⟩
    simp only [Rp]
    exact ⟨p, vs, rfl, upd_same, r.mono pr (same_share w.same e1)⟩
  | obj C fs =>
    obtain ⟨g, dx, vs, e1, r⟩ := h
    cases e
    refine ⟨_, e1, w.share e1 np, ?_⟩
    simp only [Rp]
    exact ⟨p, dx, vs, rfl, upd_same, r.mono pr (same_share w.same e1)⟩
  | dead => cases e
theorem de_pub {te : TE} {f : DFn} (h : DF K hx W te f) : DE K hx W te (dPub f) := by
  intro io G H cs env σ Q s k
  refine h io G H cs env σ Q s ?_
  unfold dPub at k
  cases e : f env cs with
  | stuck => rw [e] at k; exact k
  | ex x c => rw [e] at k; exact k
  | ok c cs1 =>
    rw [e, Rs.bind_ok] at k
    intro i g h' l w p n np hp co nd
    split at k
    · rename_i d ed
      obtain ⟨o, e1, w2, r⟩ := co.pub w ed np
      exact k i _ h' (l.shareNew w n e1) w2 _ r
    · exact k.elim
theorem de_own {te : TE} {f : DFn} (h : DF K hx W te f) : DE K hx W te (dOwn f) := by
  intro io G H cs env σ Q s k
  refine h io G H cs env σ Q s ?_
  unfold dOwn at k
  cases e : f env cs with
  | stuck => rw [e] at k; exact k
  | ex x c => rw [e] at k; exact k
  | ok c cs1 =>
    rw [e, Rs.bind_ok] at k
    intro i g h' l w p n np hp co nd
    refine k _ _ _ (l.cellNew n) (w.cell np co hp) _ ?_
    simp only [Rp]
    refine ⟨p, ?_, rfl⟩
    rw [List.getElem?_append_right (by rw [w.len]; exact Nat.le_refl _), w.len, Nat.sub_self]
    rfl
/-- a list that is laid behind all else -/
theorem laid_lst {xs : List P} {vs : List V} (w : WOk K io G H cs) (r : Rps K io G xs vs) {io0 : List Addr} {G0 H0 : Hp} (l : Le io0 G0 H0 io G H) {p : Addr} (n : H p = none) :
    WOk K io G (upd H p (.lst vs)) cs ∧ Le io0 G0 H0 io G (upd H p (.lst vs)) ∧ H0 p = none ∧ p ∉ io ∧ upd H p (.lst vs) p ≠ none ∧ COk K io G (upd H p (.lst vs)) p (.lst xs) := by
  obtain ⟨g, np⟩ := w.free n
  refine ⟨w.lay n, l.trans (Le.lay n), ?_, np, by rw [upd_same]; simp, g, vs, upd_same, r⟩
  cases q : H0 p with
  | none => rfl
  | some u => exact absurd n (l.al p (by rw [q]; simp))
end
section
variable {X : Cx} {W : WX} {hx : Hx} {e : Expr} {es : List Expr} {f : DEn} {g : DAn} {ff : DFn} {pos : Pos}
theorem je_pub (h : JF X W hx e ff) : JE X W hx e (dPub ff) := by
  obtain ⟨t, a1, a2⟩ := h
  exact ⟨t, a1, de_pub a2⟩
theorem je_own (h : JF X W hx e ff) : JE X W hx e (dOwn ff) := by
  obtain ⟨t, a1, a2⟩ := h
  exact ⟨t, a1, de_own a2⟩
theorem ja_nil : JA X W hx [] dNil := ⟨_, pa_nil, fun _ _ _ _ _ _ _ s k => k.ok s.w _ Rps.nil⟩
theorem ja_cons (h : JE X W hx e f) (h' : JA X W hx es g) (hs : starEach (e :: es) X.env = (false, eval e X.env) :: starEach es X.env := by rfl) : JA X W hx (e :: es) (dCons f g) := by
  obtain ⟨t, a1, a2⟩ := h
  obtain ⟨u, b1, b2⟩ := h'
  refine ⟨_, pa_cons a1 b1 hs, ?_⟩
  intro io G H cs env σ Q s k
  refine a2 io G H cs env σ _ s (AfR.imp (AfR.bind k) fun i g1 h1 c x l w k v rv => ?_)
  refine b2 i g1 h1 c env σ _ (s.to l w) (AfR.imp (AfR.bind k) fun i2 g2 h2 c2 xs l2 w2 k2 vs rs => ?_)
  exact k2.ok w2 _ (Rps.cons (rv.mono l2.io l2.g) rs)
theorem je_tup {x1} (h : JA X W hx es g) : JE X W hx (.Tuple es x1 pos) (dTup g) := by
  obtain ⟨t, a1, a2⟩ := h
  refine ⟨_, pe_tup a1, ?_⟩
  intro io G H cs env σ Q s k
  refine a2 io G H cs env σ _ s (AfR.imp (AfR.bind k) fun i g1 h1 c xs l w k vs rs => ?_)
  split at k
  · rename_i hl
    exact ⟨by rw [rs.length]; exact hl, fun p n => share_tup w rs k n⟩
  · exact k.elim
theorem jf_lst (h : JA X W hx es g) : JF X W hx (.List es pos) (dLst g) := by
  obtain ⟨t, a1, a2⟩ := h
  refine ⟨_, pe_lst a1, ?_⟩
  intro io G H cs env σ Q s k
  refine a2 io G H cs env σ _ s ?_
  unfold dLst at k
  cases e : g env cs with
  | stuck => rw [e] at k; exact k
  | ex x c => rw [e] at k; exact k
  | ok xs cs1 =>
    rw [e, Rs.bind_ok] at k
    intro i g1 h1 l w vs rs
    split at k
    · rename_i hl
      refine ⟨by rw [rs.length]; exact hl, fun p n => ?_⟩
      obtain ⟨q1, q2, q3, q4, q5, q6⟩ := laid_lst w rs l n
      exact k _ _ _ q2 q1 p q3 q4 q5 q6 (fun z => nomatch z)
    · exact k.elim
end

/-! ### == of data -/
def mapO {α β : Type} (f : α → Option β) : List α → Option (List β)
  | [] => some []
  | x :: xs => match f x, mapO f xs with
    | some y, some ys => some (y :: ys)
    | _, _ => none
/-- the data of a value, cells opened, to a depth -/
def pdc (cs : Cells) : Nat → P → Option PyData
  | _, .non => some .none
  | _, .bl b => some (.bool b)
  | _, .int i => some (.int i)
  | _, .str s => if PyData.strOk s = true then some (.str s) else none
  | n + 1, .tup xs => (mapO (pdc cs n) xs).map .tuple
  | n + 1, .lst xs => (mapO (pdc cs n) xs).map .list
  | n + 1, .klst xs => (mapO (pdc cs n) xs).map .list
  | n + 1, .cell k => match cs[k]? with
    | some (.lst xs) => (mapO (pdc cs n) xs).map .list
    | _ => none
  | _, _ => none
section
variable {K : PySem.W.Frag} {hx : Hx} {io : List Addr} {G H : Hp} {cs : Cells}
theorem mapO_dp {n : Nat} (ih : ∀ {x : P} {d : PyData} {v : V}, pdc cs n x = some d → Rp K io G x v → Dp K H v d ∧ d.canLay0 = true ∧ d.depth ≤ n) :
    ∀ {xs : List P} {ds : List PyData} {vs : List V}, mapO (pdc cs n) xs = some ds → Rps K io G xs vs → DpAll K H vs ds ∧ PyData.canLayAll0 ds = true ∧ PyData.depthAll ds ≤ n
  | [], ds, vs, h, r => by
    cases h
    simp only [Rps] at r
    subst r
    exact ⟨.nil, by simp only [PyData.canLayAll0], by simp only [PyData.depthAll]; exact Nat.zero_le _⟩
  | x :: xs, ds, vs, h, r => by
    simp only [Rps] at r
    obtain ⟨v, t, rfl, r1, r2⟩ := r
    simp only [mapO] at h
    split at h
    · rename_i y ys e1 e2
      cases h
      obtain ⟨q1, q2, q3⟩ := ih e1 r1
      obtain ⟨z1, z2, z3⟩ := mapO_dp ih e2 r2
      refine ⟨.cons q1 z1, by simp only [PyData.canLayAll0, q2, z2, Bool.and_self], ?_⟩
      simp only [PyData.depthAll]
      exact Nat.max_le.mpr ⟨q3, z3⟩
    · cases h
theorem map_some {α β : Type} {o : Option α} {f : α → β} {b : β} (h : o.map f = some b) : ∃ a, o = some a ∧ f a = b := by
  cases o with
  | none => cases h
  | some a => exact ⟨a, rfl, Option.some.inj h⟩
theorem pdc_ok (w : WOk K io G H cs) : ∀ {n : Nat} {x : P} {d : PyData} {v : V}, pdc cs n x = some d → Rp K io G x v → Dp K H v d ∧ d.canLay0 = true ∧ d.depth ≤ n := by
  intro n
  induction n with
  | zero =>
    intro x d v h r
    cases x with
    | non => simp only [pdc] at h; cases h; rw [r.non]; exact ⟨.non, by simp only [PyData.canLay0], by simp only [PyData.depth]; exact Nat.le_refl _⟩
    | bl b => simp only [pdc] at h; cases h; rw [r.bl]; exact ⟨.bl _, by simp only [PyData.canLay0], by simp only [PyData.depth]; exact Nat.le_refl _⟩
    | int b => simp only [pdc] at h; cases h; rw [r.int]; exact ⟨.int _, by simp only [PyData.canLay0], by simp only [PyData.depth]; exact Nat.le_refl _⟩
    | str b =>
      simp only [pdc] at h
      split at h
      · cases h; rw [r.str]; exact ⟨.str _, by simp only [PyData.canLay0]; assumption, by simp only [PyData.depth]; exact Nat.le_refl _⟩
      · cases h
    | _ => simp only [pdc] at h; cases h
  | succ n ih =>
    intro x d v h r
    cases x with
    | non => simp only [pdc] at h; cases h; rw [r.non]; exact ⟨.non, by simp only [PyData.canLay0], by simp only [PyData.depth]; exact Nat.zero_le _⟩
    | bl b => simp only [pdc] at h; cases h; rw [r.bl]; exact ⟨.bl _, by simp only [PyData.canLay0], by simp only [PyData.depth]; exact Nat.zero_le _⟩
    | int b => simp only [pdc] at h; cases h; rw [r.int]; exact ⟨.int _, by simp only [PyData.canLay0], by simp only [PyData.depth]; exact Nat.zero_le _⟩
    | str b =>
      simp only [pdc] at h
      split at h
      · cases h; rw [r.str]; exact ⟨.str _, by simp only [PyData.canLay0]; assumption, by simp only [PyData.depth]; exact Nat.zero_le _⟩
      · cases h
    | tup xs =>
      simp only [pdc] at h
      obtain ⟨ds, e, rfl⟩ := map_some h
      simp only [Rp] at r
      obtain ⟨a, vs, rfl, q, t⟩ := r
      obtain ⟨z1, z2, z3⟩ := mapO_dp ih e t
      exact ⟨.tup (SqT.of (w.same _ _ q)) z1, by simpa only [PyData.canLay0] using z2, by simp only [PyData.depth]; exact Nat.succ_le_succ z3⟩
    | lst xs =>
      simp only [pdc] at h
      obtain ⟨ds, e, rfl⟩ := map_some h
      simp only [Rp] at r
      obtain ⟨a, vs, rfl, q, t⟩ := r
      obtain ⟨z1, z2, z3⟩ := mapO_dp ih e t
      exact ⟨.lst (SqL.of (w.same _ _ q)) z1, by simpa only [PyData.canLay0] using z2, by simp only [PyData.depth]; exact Nat.succ_le_succ z3⟩
    | klst xs =>
      simp only [pdc] at h
      obtain ⟨ds, e, rfl⟩ := map_some h
      simp only [Rp] at r
      obtain ⟨a, vs, rfl, q, t⟩ := r
      obtain ⟨z1, z2, z3⟩ := mapO_dp ih e t
      exact ⟨.lst (w.same.seq q) z1, by simpa only [PyData.canLay0] using z2, by simp only [PyData.depth]; exact Nat.succ_le_succ z3⟩
    | cell k =>
      simp only [pdc] at h
      split at h
      · rename_i xs ek
        obtain ⟨ds, e, rfl⟩ := map_some h
        obtain ⟨a, e1, rfl, _, vs, q, t⟩ := w.cellAt ek r
        obtain ⟨z1, z2, z3⟩ := mapO_dp ih e t
        exact ⟨.lst (SqL.of q) z1, by simpa only [PyData.canLay0] using z2, by simp only [PyData.depth]; exact Nat.succ_le_succ z3⟩
      · cases h
    | _ => simp only [pdc] at h; cases h
end
/-- scalars -/
def scP : P → P → Bool
  | .non, .non => true | .non, .int _ => true | .int _, .non => true | .non, .bl _ => true | .bl _, .non => true | .non, .str _ => true | .str _, .non => true
  | .int _, .int _ => true | .bl _, .bl _ => true | .str _, .str _ => true
  | .int _, .str _ => true | .str _, .int _ => true | .bl _, .str _ => true | .str _, .bl _ => true
  | _, _ => false
def eqS : P → P → Bool
  | .non, .non => true
  | .int i, .int j => decide (i = j)
  | .bl i, .bl j => decide (i = j)
  | .str i, .str j => decide (i = j)
  | _, _ => false
def gEqS (neg : Bool) : G2 := fun x y cs => if scP x y = true then .ok (.bl (if neg then !eqS x y else eqS x y)) cs else .stuck
def gEqD (neg : Bool) : G2 := fun x y cs => match pdc cs 8 x, pdc cs 8 y with
  | some d, some e => .ok (.bl (if neg then !PyData.eqv d e else PyData.eqv d e)) cs
  | _, _ => .stuck
def gEq (neg : Bool) : G2 := orG (gEqS neg) (gEqD neg)
section
variable {K : PySem.W.Frag} {hx : Hx}
theorem sc_ok {io : List Addr} {G : Hp} {x y : P} {v u : V} (h : scP x y = true) (rx : Rp K io G x v) (ry : Rp K io G y u) : scal v u = true ∧ decide (v = u) = eqS x y := by
  cases x <;> first
    | exact absurd (show false = true from h) Bool.false_ne_true
    | (cases y <;> first
        | exact absurd (show false = true from h) Bool.false_ne_true
        | (simp only [Rp] at rx ry
           subst rx ry
           refine ⟨rfl, ?_⟩
           simp [eqS]))
theorem opd_eqS : OpD K rEq (gEqS false) := by
  intro W io G H cs σ x y v u Q w rx ry k
  unfold gEqS at k
  split at k
  · rename_i h
    obtain ⟨h1, h2⟩ := sc_ok h rx ry
    refine ⟨h1, ?_⟩
    rw [h2]
    exact k.ok w _ (rsv_bl _)
  · exact k.elim
theorem opd_neS : OpD K rNe (gEqS true) := by
  intro W io G H cs σ x y v u Q w rx ry k
  unfold gEqS at k
  split at k
  · rename_i h
    obtain ⟨h1, h2⟩ := sc_ok h rx ry
    refine ⟨h1, ?_⟩
    rw [h2]
    exact k.ok w _ (rsv_bl _)
  · exact k.elim
theorem shaped_of {d : PyData} (h1 : d.canLay0 = true) (h2 : d.depth ≤ 8) : SeqAt.shaped d = true := by
  unfold SeqAt.shaped
  rw [h1, decide_eq_true (Nat.le_trans h2 (by decide))]
  rfl
theorem opd_eqD : OpD K (rEqD K) (gEqD false) := by
  intro W io G H cs σ x y v u Q w rx ry k
  unfold gEqD at k
  split at k
  · rename_i d e h1 h2
    obtain ⟨a1, a2, a3⟩ := pdc_ok w h1 rx
    obtain ⟨b1, b2, b3⟩ := pdc_ok w h2 ry
    exact ⟨d, e, a1, b1, shaped_of a2 a3, shaped_of b2 b3, k.ok w _ (rsv_bl _)⟩
  · exact k.elim
theorem opd_neD : OpD K (rNeD K) (gEqD true) := by
  intro W io G H cs σ x y v u Q w rx ry k
  unfold gEqD at k
  split at k
  · rename_i d e h1 h2
    obtain ⟨a1, a2, a3⟩ := pdc_ok w h1 rx
    obtain ⟨b1, b2, b3⟩ := pdc_ok w h2 ry
    exact ⟨d, e, a1, b1, shaped_of a2 a3, shaped_of b2 b3, k.ok w _ (rsv_bl _)⟩
  · exact k.elim
end
section
variable {X : Cx} {hx : Hx}
theorem bd_eq (hu : X.A.units + 64 < cLine) : BinD X (compareOp .Eq) (gEq false) := ⟨_, op_eq.or (op_eqD hu), opd_eqS.or opd_eqD⟩
theorem bd_ne (hu : X.A.units + 64 < cLine) : BinD X (compareOp .NotEq) (gEq true) := ⟨_, op_ne.or (op_neD hu), opd_neS.or opd_neD⟩
end

/-! ### slices -/
def cutP {α : Type} (xs : List α) (lo hi : Option Int) : List α := (xs.drop (HT.sIx xs.length 0 lo)).take (HT.sIx xs.length xs.length hi - HT.sIx xs.length 0 lo)
abbrev DOn := Env → Cells → Rs (Option Int)
section
variable (X : Cx) (W : WX) (hx : Hx)
def JO (e : Option Expr) (f : DOn) : Prop := ∃ t, PO X e t ∧ ∀ io G H cs env σ Q, Sta X.K hx io G H cs env σ →
  AfR X.K W io G H σ (fun _ _ H' _ o => Q o H') (f env cs) → t σ H Q
end
def dNoP : DOn := fun _ cs => .ok none cs
def dPart (f : DEn) : DOn := fun env cs => (f env cs).bind fun d cs => match d with
  | .int i => .ok (some i) cs
  | _ => .stuck
abbrev GSl := P → Option Int → Option Int → Cells → Rs P
def dSl (g : GSl) (f : DEn) (l h : DOn) : DEn := fun env cs => (f env cs).bind fun x cs => (l env cs).bind fun lo cs => (h env cs).bind fun hi cs => g x lo hi cs
def gSlL : GSl := fun x lo hi cs => match lstc cs x with
  | some xs => .ok (.lst (cutP xs lo hi)) cs
  | none => .stuck
def gSlT : GSl := fun x lo hi cs => match x with
  | .tup xs => .ok (.tup (cutP xs lo hi)) cs
  | _ => .stuck
def gSlS : GSl := fun x lo hi cs => match x with
  | .str z => if z.length ≤ sizeLine then .ok (.str (cutS z lo hi)) cs else .stuck
  | _ => .stuck
def orS (g g' : GSl) : GSl := fun x lo hi cs => match g x lo hi cs with
  | .stuck => g' x lo hi cs
  | o => o
def gSl : GSl := orS gSlL (orS gSlT gSlS)
/-- a fresh list -/
def dSlF (f : DEn) (l h : DOn) : DFn := fun env cs => (f env cs).bind fun x cs => (l env cs).bind fun lo cs => (h env cs).bind fun hi cs => match lstc cs x with
  | some xs => .ok (.lst (cutP xs lo hi)) cs
  | none => .stuck
section
variable {K : PySem.W.Frag} {hx : Hx} {W : WX} {io : List Addr} {G H : Hp} {cs : Cells} {σ : L2.St}
theorem Rps.cut {xs : List P} {vs : List V} (r : Rps K io G xs vs) (lo hi : Option Int) : Rps K io G (cutP xs lo hi) (cutV vs lo hi) := by
  unfold cutP cutV
  rw [r.length]
  exact (r.drop _).take _
def SlD (K : PySem.W.Frag) (r : V → Option Int → Option Int → Hp → VK → Prop) (g : GSl) : Prop := ∀ (W : WX) io G H cs σ x v lo hi Q, WOk K io G H cs → Rp K io G x v →
  AfR K W io G H σ (fun io' G' H' _ d => ∀ v, Rp K io' G' d v → Q v H') (g x lo hi cs) → r v lo hi H Q
theorem SlD.or {r r' : V → Option Int → Option Int → Hp → VK → Prop} {g g' : GSl} (h : SlD K r g) (h' : SlD K r' g') : SlD K (fun x lo hi H Q => r x lo hi H Q ∨ r' x lo hi H Q) (orS g g') := by
  intro W io G H cs σ x v lo hi Q w rx k
  unfold orS at k
  split at k
  · exact .inr (h' W io G H cs σ x v lo hi Q w rx k)
  · exact .inl (h W io G H cs σ x v lo hi Q w rx k)
theorem sld_lst : SlD K (rSlL K) gSlL := by
  intro W io G H cs σ x v lo hi Q w rx k
  unfold gSlL at k
  split at k
  · rename_i xs e
    obtain ⟨a, vs, rfl, q, r⟩ := lstc_ok w e rx
    exact ⟨a, vs, rfl, SqL.of q, fun p n => share_lst w (r.cut lo hi) k n⟩
  · exact k.elim
theorem sld_tup : SlD K (rSlA K) gSlT := by
  intro W io G H cs σ x v lo hi Q w rx k
  unfold gSlT at k
  split at k
  · rename_i xs
    have rx' := rx
    simp only [Rp] at rx'
    obtain ⟨a, vs, rfl, q, r⟩ := rx'
    refine ⟨a, vs, rfl, SqT.of (w.same _ _ q), fun e => k.ok w _ ?_, fun _ p n => share_tup w (r.cut lo hi) k n⟩
    have z : cutP xs lo hi = xs := by
      unfold cutP
      rw [r.length] at e
      rw [e.1, e.2, Nat.sub_zero, List.drop_zero, List.take_length]
    rw [z]
    exact rx
  · exact k.elim
theorem sld_str : SlD K rSlS gSlS := by
  intro W io G H cs σ x v lo hi Q w rx k
  unfold gSlS at k
  split at k
  · split at k
    · rename_i hz
      exact ⟨_, rx.str, hz, k.ok w _ (rsv_str _)⟩
    · exact k.elim
  · exact k.elim
end
section
variable {X : Cx} {W : WX} {hx : Hx} {e : Expr} {lo hi : Option Expr} {f : DEn} {fl fh : DOn} {pos p2 : Pos}
theorem jo_none : JO X W hx none dNoP := ⟨_, po_none, fun _ _ _ _ _ _ _ s k => k.ok s.w⟩
theorem jo_some (h : JE X W hx e f) : JO X W hx (some e) (dPart f) := by
  obtain ⟨t, a1, a2⟩ := h
  refine ⟨_, po_some a1, ?_⟩
  intro io G H cs env σ Q s k
  refine a2 io G H cs env σ _ s (AfR.imp (AfR.bind k) fun i g1 h1 c x l w k v rv => ?_)
  split at k
  · exact ⟨_, rv.int, k.ok w⟩
  · exact k.elim
theorem je_slice (he : JE X W hx e f) (hl : JO X W hx lo fl) (hh : JO X W hx hi fh) : JE X W hx (.Subscript e (.Slice lo hi none p2) pos) (dSl gSl f fl fh) := by
  obtain ⟨t, a1, a2⟩ := he
  obtain ⟨tl, b1, b2⟩ := hl
  obtain ⟨th, c1, c2⟩ := hh
  refine ⟨_, pe_slice (sl_list.or (sl_tupA.or sl_str)) a1 b1 c1, ?_⟩
  intro io G H cs env σ Q s k
  refine a2 io G H cs env σ _ s (AfR.imp (AfR.bind k) fun i g1 h1 c x l w k v rv => ?_)
  refine b2 i g1 h1 c env σ _ (s.to l w) (AfR.imp (AfR.bind k) fun i2 g2 h2 cc2 o1 l2 w2 k => ?_)
  refine c2 i2 g2 h2 cc2 env σ _ ((s.to l w).to l2 w2) (AfR.imp (AfR.bind k) fun i3 g3 h3 cc3 o2 l3 w3 k => ?_)
  exact (sld_lst.or (sld_tup.or sld_str)) W i3 g3 h3 cc3 σ x v o1 o2 Q w3 (rv.mono (l2.io.trans l3.io) (l2.g.trans l3.g)) k
theorem jf_slice (he : JE X W hx e f) (hl : JO X W hx lo fl) (hh : JO X W hx hi fh) : JF X W hx (.Subscript e (.Slice lo hi none p2) pos) (dSlF f fl fh) := by
  obtain ⟨t, a1, a2⟩ := he
  obtain ⟨tl, b1, b2⟩ := hl
  obtain ⟨th, c1, c2⟩ := hh
  refine ⟨_, pe_slice sl_list a1 b1 c1, ?_⟩
  intro io G H cs env σ Q s k
  unfold dSlF at k
  refine a2 io G H cs env σ _ s ?_
  cases e1 : f env cs with
  | stuck => rw [e1] at k; exact k
  | ex x c => rw [e1] at k; exact k
  | ok x cs1 =>
    rw [e1, Rs.bind_ok] at k
    intro i g1 h1 l w v rv
    refine b2 i g1 h1 cs1 env σ _ (s.to l w) ?_
    cases e2 : fl env cs1 with
    | stuck => rw [e2] at k; exact k
    | ex y c => rw [e2] at k; exact AfR.mono (r := (.ex y c : Rs (Option Int))) (k := fun _ _ H' _ o => _) l k
    | ok o1 cs2 =>
      rw [e2, Rs.bind_ok] at k
      intro i2 g2 h2 l2 w2
      refine c2 i2 g2 h2 cs2 env σ _ ((s.to l w).to l2 w2) ?_
      cases e3 : fh env cs2 with
      | stuck => rw [e3] at k; exact k
      | ex y c => rw [e3] at k; exact AfR.mono (r := (.ex y c : Rs (Option Int))) (k := fun _ _ H' _ o => _) (l.trans l2) k
      | ok o2 cs3 =>
        rw [e3, Rs.bind_ok] at k
        intro i3 g3 h3 l3 w3
        split at k
        · rename_i xs ex
          obtain ⟨a, vs, rfl, q, r⟩ := lstc_ok w3 ex (rv.mono (l2.io.trans l3.io) (l2.g.trans l3.g))
          refine ⟨a, vs, rfl, SqL.of q, fun p n => ?_⟩
          obtain ⟨q1, q2, q3, q4, q5, q6⟩ := laid_lst w3 (r.cut o1 o2) ((l.trans l2).trans l3) n
          exact k _ _ _ q2 q1 p q3 q4 q5 q6 (fun z => nomatch z)
        · exact k.elim
end
end DL

namespace DL
open PySem L2
open Classical in
/-- the class at C lets its instances' attribute f be read and written plainly -/
def FldOk (K : PySem.W.Frag) (C : Addr) (f : Str) : Prop := Cls K C ∧ NoAttr K C f

/-! ### attributes -/
def objc (cs : Cells) : P → Option (Addr × List (Str × P))
  | .obj C fs => some (C, fs)
  | .cell n => match cs[n]? with
    | some (.obj C fs) => some (C, fs)
    | _ => none
  | _ => none
open Classical in
noncomputable def dFld (K : PySem.W.Frag) (x : Str) (f : DEn) : DEn := fun env cs => (f env cs).bind fun d cs => match objc cs d with
  | some (C, fs) => if FldOk K C x then (match fs.lookup x with
    | some y => .ok y cs
    | none => .stuck) else .stuck
  | none => .stuck
section
variable {K : PySem.W.Frag} {hx : Hx} {io : List Addr} {G H : Hp} {cs : Cells}
theorem RpF.look {x : Str} : ∀ {fs : List (Str × P)} {hs : List (Str × V)}, RpF K io G fs hs → (match fs.lookup x with
    | none => hs.lookup x = none
    | some y => ∃ v, hs.lookup x = some v ∧ Rp K io G y v)
  | [], _, h => by simp only [RpF] at h; subst h; rfl
  | (k, y) :: r, _, h => by
    simp only [RpF] at h
    obtain ⟨v, t, rfl, r1, r2⟩ := h
    have q := RpF.look (x := x) r2
    by_cases e : x = k
    · subst e
      simp only [List.lookup, beq_self_eq_true]
      exact ⟨v, rfl, r1⟩
    · have e' : (x == k) = false := by simpa using e
      simp only [List.lookup, e']
      exact q
theorem objc_ok (w : WOk K io G H cs) {d : P} {v : V} {C : Addr} {fs : List (Str × P)} (h : objc cs d = some (C, fs)) (r : Rp K io G d v) :
    ∃ a dx hs, v = .ref a ∧ H a = some (.ins C dx hs) ∧ RpF K io G fs hs := by
  cases d with
  | obj C' fs' =>
    cases h
    simp only [Rp] at r
    obtain ⟨a, dx, hs, e, q, t⟩ := r
    exact ⟨a, dx, hs, e, w.same _ _ q, t⟩
  | cell n =>
    simp only [objc] at h
    split at h
    · rename_i C' fs' e
      cases h
      obtain ⟨a, e1, e2, _, dx, hs, e3, t⟩ := w.cellAt e r
      exact ⟨a, dx, hs, e2, e3, t⟩
    · cases h
  | _ => cases h
end
section
variable {X : Cx} {W : WX} {hx : Hx} {e : Expr} {f : DEn} {x : Str} {pos : Pos}
theorem je_fld (h : JE X W hx e f) (hb : attributeBase e x X.env (eval e X.env) = eval e X.env := by rfl) : JE X W hx (.Attribute e x pos) (dFld X.K x f) := by
  obtain ⟨t, a1, a2⟩ := h
  refine ⟨_, pe_fld a1 hb, ?_⟩
  intro io G H cs env σ Q s k
  refine a2 io G H cs env σ _ s (AfR.imp (AfR.bind k) fun i g1 h1 c d l w k v rv => ?_)
  split at k
  · rename_i C fs e1
    split at k
    · rename_i hf
      obtain ⟨a, dx, hs, rfl, e2, r⟩ := objc_ok w e1 rv
      have q := r.look (x := x)
      split at k
      · rename_i y ey
        rw [ey] at q
        obtain ⟨u, e3, r3⟩ := q
        exact ⟨a, C, dx, hs, u, rfl, e2, hf.1, hf.2, e3, k.ok w _ r3⟩
      · exact k.elim
    · exact k.elim
  · exact k.elim
end

/-! ### calls of built-ins by values -/
abbrev GC := List P → Cells → Rs P
def CallD (K : PySem.W.Frag) (r : List V → Hp → VK → Prop) (g : GC) : Prop := ∀ (W : WX) io G H cs σ xs vs Q, WOk K io G H cs → Rps K io G xs vs →
  AfR K W io G H σ (fun io' G' H' _ d => ∀ v, Rp K io' G' d v → Q v H') (g xs cs) → r vs H Q
def BltD (X : Cx) (f : Value) (g : GC) : Prop := ∃ r, CallR X f r ∧ CallD X.K r g
/-- a fresh object comes of it -/
abbrev GCF := List P → Cells → Rs CO
def CallF (K : PySem.W.Frag) (r : List V → Hp → VK → Prop) (g : GCF) : Prop := ∀ (W : WX) io G H cs σ xs vs Q, WOk K io G H cs → Rps K io G xs vs →
  AfR K W io G H σ (fun io' G' H' _ c => ∀ p, H p = none → p ∉ io' → H' p ≠ none → COk K io' G' H' p c → c ≠ .dead → Q (.ref p) H') (g xs cs) → r vs H Q
def BltF (X : Cx) (f : Value) (g : GCF) : Prop := ∃ r, CallR X f r ∧ CallF X.K r g
def orC (g g' : GC) : GC := fun xs cs => match g xs cs with
  | .stuck => g' xs cs
  | o => o
def dCallB (g : GC) (fa : DAn) : DEn := fun env cs => (fa env cs).bind fun xs cs => g xs cs
def dCallF (g : GCF) (fa : DAn) : DFn := fun env cs => (fa env cs).bind fun xs cs => g xs cs
section
variable {X : Cx} {W : WX} {hx : Hx} {e : Expr} {es : List Expr} {f : DAn} {x : Str} {p pos : Pos} {id T : String} {g : GC} {gf : GCF}
theorem BltD.or {f : Value} {g g' : GC} (h : BltD X f g) (h' : BltD X f g') : BltD X f (orC g g') := by
  obtain ⟨r, a1, a2⟩ := h
  obtain ⟨r', b1, b2⟩ := h'
  refine ⟨_, a1.or b1, ?_⟩
  intro W io G H cs σ xs vs Q w rx k
  unfold orC at k
  split at k
  · exact .inr (b2 W io G H cs σ xs vs Q w rx k)
  · exact .inl (a2 W io G H cs σ xs vs Q w rx k)
theorem de_cb {r : List V → Hp → VK → Prop} {t : TA} (h : DA X.K hx W t f) (hc : CallD X.K r g) : DE X.K hx W (tCB r t) (dCallB g f) := by
  intro io G H cs env σ Q s k
  refine h io G H cs env σ _ s (AfR.imp (AfR.bind k) fun i g1 h1 c xs l w k vs rs => ?_)
  exact hc W i g1 h1 c σ xs vs Q w rs k
theorem df_cb {r : List V → Hp → VK → Prop} {t : TA} (h : DA X.K hx W t f) (hc : CallF X.K r gf) : DF X.K hx W (tCB r t) (dCallF gf f) := by
  intro io G H cs env σ Q s k
  refine h io G H cs env σ _ s ?_
  unfold dCallF at k
  cases e : f env cs with
  | stuck => rw [e] at k; exact k
  | ex x c => rw [e] at k; exact k
  | ok xs cs1 =>
    rw [e, Rs.bind_ok] at k
    intro i g1 h1 l w vs rs
    refine hc W i g1 h1 cs1 σ xs vs Q w rs (AfR.imp (AfR.mono l k) fun i2 g2 h2 c2 o l2 w2 k2 p n np hp co nd => ?_)
    refine k2 p ?_ np hp co nd
    cases q : H p with
    | none => rfl
    | some u => exact absurd n (l.al p (by rw [q]; simp))
theorem je_callB (hc : BltD X (.builtin id) g) (hg : Gl X x) (hm : X.mg x = none) (hv : bootBuiltins x = some (.builtin id)) (ha : JA X W hx (e :: es) f) (hn : x ≠ "__name__" := by decide) (hdb : (x == ("__debug__" : Str)) = false := by decide)
    (he : starEach (e :: es) X.env = (false, eval e X.env) :: starEach es X.env := by rfl) (hpl : (backTo pos (starEach es X.env)).any (·.1) = false := by rfl) : JE X W hx (.Call (.Name x p) (e :: es) [] pos) (dCallB g f) := by
  obtain ⟨r, c1, c2⟩ := hc
  obtain ⟨t, a1, a2⟩ := ha
  exact ⟨_, pe_callB c1 hg hm hv a1 hn hdb he hpl, de_cb a2 c2⟩
theorem je_callTy (hc : BltD X (.type T) g) (hg : Gl X x) (hm : X.mg x = none) (hv : bootBuiltins x = some (.type T)) (ha : JA X W hx (e :: es) f) (hn : x ≠ "__name__" := by decide) (hdb : (x == ("__debug__" : Str)) = false := by decide)
    (he : starEach (e :: es) X.env = (false, eval e X.env) :: starEach es X.env := by rfl) (hpl : (backTo pos (starEach es X.env)).any (·.1) = false := by rfl) : JE X W hx (.Call (.Name x p) (e :: es) [] pos) (dCallB g f) := by
  obtain ⟨r, c1, c2⟩ := hc
  obtain ⟨t, a1, a2⟩ := ha
  exact ⟨_, pe_callTy c1 hg hm hv a1 hn hdb he hpl, de_cb a2 c2⟩
theorem jf_callTy (hc : BltF X (.type T) gf) (hg : Gl X x) (hm : X.mg x = none) (hv : bootBuiltins x = some (.type T)) (ha : JA X W hx (e :: es) f) (hn : x ≠ "__name__" := by decide) (hdb : (x == ("__debug__" : Str)) = false := by decide)
    (he : starEach (e :: es) X.env = (false, eval e X.env) :: starEach es X.env := by rfl) (hpl : (backTo pos (starEach es X.env)).any (·.1) = false := by rfl) : JF X W hx (.Call (.Name x p) (e :: es) [] pos) (dCallF gf f) := by
  obtain ⟨r, c1, c2⟩ := hc
  obtain ⟨t, a1, a2⟩ := ha
  exact ⟨_, pe_callTy c1 hg hm hv a1 hn hdb he hpl, df_cb a2 c2⟩
theorem jf_callB (hc : BltF X (.builtin id) gf) (hg : Gl X x) (hm : X.mg x = none) (hv : bootBuiltins x = some (.builtin id)) (ha : JA X W hx (e :: es) f) (hn : x ≠ "__name__" := by decide) (hdb : (x == ("__debug__" : Str)) = false := by decide)
    (he : starEach (e :: es) X.env = (false, eval e X.env) :: starEach es X.env := by rfl) (hpl : (backTo pos (starEach es X.env)).any (·.1) = false := by rfl) : JF X W hx (.Call (.Name x p) (e :: es) [] pos) (dCallF gf f) := by
  obtain ⟨r, c1, c2⟩ := hc
  obtain ⟨t, a1, a2⟩ := ha
  exact ⟨_, pe_callB c1 hg hm hv a1 hn hdb he hpl, df_cb a2 c2⟩
end

/-! ### len, min, max, abs, int, str, list, tuple, sum -/
def gLen : GC := fun xs cs => match xs with
  | [.str z] => if z.length ≤ sizeLine then .ok (.int z.length) cs else .stuck
  | [x] => (match seqc cs x with
    | some ys => .ok (.int ys.length) cs
    | none => .stuck)
  | _ => .stuck
def dkc (cs : Cells) : P → Option (List (Key × P))
  | .dK kvs => some kvs
  | .cell n => match cs[n]? with
    | some (.dK kvs) => some kvs
    | _ => none
  | _ => none
def gLenD : GC := fun xs cs => match xs with
  | [x] => (match dkc cs x with
    | some kvs => .ok (.int kvs.length) cs
    | none => .stuck)
  | _ => .stuck
def gMin2 : GC := fun xs cs => match xs with
  | [.int i, .int j] => .ok (.int (if j < i then j else i)) cs
  | _ => .stuck
def gMax2 : GC := fun xs cs => match xs with
  | [.int i, .int j] => .ok (.int (if j > i then j else i)) cs
  | _ => .stuck
def gAbs : GC := fun xs cs => match xs with
  | [.int i] => .ok (.int (if i < 0 then -i else i)) cs
  | _ => .stuck
def gInt : GC := fun xs cs => match xs with
  | [.int i] => .ok (.int i) cs
  | [.bl b] => .ok (.int (if b then 1 else 0)) cs
  | _ => .stuck
def gIntS : GC := fun xs cs => match xs with
  | [.str z] => (match PySem.intText? z with
    | some n => if z.length ≤ 640 then .ok (.int n) cs else .stuck
    | none => .stuck)
  | _ => .stuck
def gStrI : GC := fun xs cs => match xs with
  | [.int i] => if i.natAbs.log2 < 1920 then .ok (.str (toString i)) cs else .stuck
  | _ => .stuck
def gStrS : GC := fun xs cs => match xs with
  | [.str z] => .ok (.str z) cs
  | _ => .stuck
def gTuple : GC := fun xs cs => match xs with
  | [.tup ys] => .ok (.tup ys) cs
  | [x] => (match seqc cs x with
    | some ys => .ok (.tup ys) cs
    | none => .stuck)
  | _ => .stuck
def gList : GCF := fun xs cs => match xs with
  | [x] => (match seqc cs x with
    | some ys => .ok (.lst ys) cs
    | none => .stuck)
  | _ => .stuck
def intsP : List P → Option (List Int)
  | [] => some []
  | .int i :: xs => match intsP xs with
    | some r => some (i :: r)
    | none => none
  | _ => none
theorem intsP_ok {K : PySem.W.Frag} {io : List Addr} {G : Hp} : ∀ {xs : List P} {ns : List Int} {vs : List V}, intsP xs = some ns → Rps K io G xs vs → vs = ns.map V.int
  | [], _, _, h, r => by cases h; simp only [Rps] at r; exact r
  | x :: xs, ns, vs, h, r => by
    cases x with
    | int i =>
      simp only [intsP] at h
      split at h
      · rename_i q e
        cases h
        simp only [Rps] at r
        obtain ⟨v, t, rfl, r1, r2⟩ := r
        rw [r1.int, intsP_ok e r2]
        rfl
      · cases h
    | _ => simp only [intsP] at h; cases h
/-- sum of a list of ints (a list, not a tuple) -/
def lstk (cs : Cells) : P → Option (List P)
  | .klst xs => some xs
  | d => lstc cs d
theorem lstk_ok {K : PySem.W.Frag} {io : List Addr} {G H : Hp} {cs : Cells} (w : WOk K io G H cs) {d : P} {v : V} {xs : List P} (h : lstk cs d = some xs) (r : Rp K io G d v) :
    ∃ a vs, v = .ref a ∧ SqL K H a vs ∧ Rps K io G xs vs := by
  cases d with
  | klst ys =>
    cases h
    simp only [Rp] at r
    obtain ⟨a, vs, e, q, t⟩ := r
    exact ⟨a, vs, e, w.same.seq q, t⟩
  | lst ys =>
    obtain ⟨a, vs, e, q, t⟩ := lstc_ok (d := .lst ys) w h r
    exact ⟨a, vs, e, SqL.of q, t⟩
  | cell n =>
    obtain ⟨a, vs, e, q, t⟩ := lstc_ok (d := .cell n) w (by simp only [lstk] at h; exact h) r
    exact ⟨a, vs, e, SqL.of q, t⟩
  | _ => cases h
def gSum : GC := fun xs cs => match xs with
  | [x] => (match lstk cs x with
    | some ys => (match intsP ys with
      | some ns => .ok (.int ns.sum) cs
      | none => .stuck)
    | none => .stuck)
  | _ => .stuck
section
variable {K : PySem.W.Frag} {hx : Hx} {io : List Addr} {G H : Hp} {cs : Cells}
theorem Rps.one {x : P} {vs : List V} (h : Rps K io G [x] vs) : ∃ v, vs = [v] ∧ Rp K io G x v := by
  simp only [Rps] at h
  obtain ⟨v, r, rfl, q, rfl⟩ := h
  exact ⟨v, rfl, q⟩
theorem Rps.two {x y : P} {vs : List V} (h : Rps K io G [x, y] vs) : ∃ v u, vs = [v, u] ∧ Rp K io G x v ∧ Rp K io G y u := by
  simp only [Rps] at h
  obtain ⟨v, r, rfl, q, u, r2, rfl, q2, rfl⟩ := h
  exact ⟨v, u, rfl, q, q2⟩
theorem lstk_some {d : P} {xs : List P} (h : seqc cs d = some xs) (hs : ∀ ys, d ≠ .tup ys) : lstk cs d = some xs := by
  cases d with
  | tup ys => exact absurd rfl (hs ys)
  | cell n => simpa only [lstk, lstc, seqc] using h
  | _ => first | exact h | cases h
theorem dkc_ok (w : WOk K io G H cs) {d : P} {v : V} {kvs : List (Key × P)} (h : dkc cs d = some kvs) (r : Rp K io G d v) : ∃ a hs, v = .ref a ∧ H a = some (.dK hs) ∧ RpK K io G kvs hs := by
  cases d with
  | dK ys =>
    cases h
    simp only [Rp] at r
    obtain ⟨a, hs, e, q, t⟩ := r
    exact ⟨a, hs, e, w.same _ _ q, t⟩
  | cell n =>
    simp only [dkc] at h
    split at h
    · rename_i ys e
      cases h
      obtain ⟨a, e1, e2, _, vs, e3, t⟩ := w.cellAt e r
      exact ⟨a, vs, e2, e3, t⟩
    · cases h
  | _ => cases h
theorem RpK.length : ∀ {xs : List (Key × P)} {vs : List (Key × V)}, RpK K io G xs vs → vs.length = xs.length
  | [], _, h => by simp only [RpK] at h; subst h; rfl
  | (_, _) :: _, _, h => by
    simp only [RpK] at h
    obtain ⟨v, r, e, _, t⟩ := h
    subst e
    simp [RpK.length t]
end
section
variable {X : Cx} {hx : Hx}
theorem b_len : BltD X (.builtin "len") gLen := by
  refine ⟨_, call_len, ?_⟩
  intro W io G H cs σ xs vs Q w rx k
  unfold gLen at k
  split at k
  · split at k
    · rename_i hz
      obtain ⟨v, rfl, r⟩ := rx.one
      rw [r.str]
      exact ⟨_, _, rfl, ⟨hz, rfl⟩, k.ok w _ (rsv_int _)⟩
    · exact k.elim
  · split at k
    · rename_i ys e
      obtain ⟨v, rfl, r⟩ := rx.one
      obtain ⟨a, us, rfl, q, t⟩ := seqc_ok w e r
      refine ⟨_, ys.length, rfl, ?_, k.ok w _ (rsv_int _)⟩
      rcases q with q | q
      · exact .inl ⟨us, q, t.length.symm⟩
      · exact .inr ⟨us, q, t.length.symm⟩
    · exact k.elim
  · exact k.elim
theorem b_lenD : BltD X (.builtin "len") gLenD := by
  refine ⟨_, call_lenD, ?_⟩
  intro W io G H cs σ xs vs Q w rx k
  unfold gLenD at k
  split at k
  · split at k
    · rename_i ys e
      obtain ⟨v, rfl, r⟩ := rx.one
      obtain ⟨a, us, rfl, q, t⟩ := dkc_ok w e r
      exact ⟨a, us, rfl, q, by rw [t.length]; exact k.ok w _ (rsv_int _)⟩
    · exact k.elim
  · exact k.elim
theorem b_lenA : BltD X (.builtin "len") (orC gLen gLenD) := b_len.or b_lenD
theorem b_min2 (hc : X.calm = true) : BltD X (.builtin "min") gMin2 := by
  refine ⟨_, call_min2 hc, ?_⟩
  intro W io G H cs σ xs vs Q w rx k
  unfold gMin2 at k
  split at k
  · obtain ⟨v, u, rfl, r1, r2⟩ := rx.two
    rw [r1.int, r2.int]
    exact ⟨_, _, rfl, k.ok w _ (rsv_int _)⟩
  · exact k.elim
theorem b_max2 (hc : X.calm = true) : BltD X (.builtin "max") gMax2 := by
  refine ⟨_, call_max2 hc, ?_⟩
  intro W io G H cs σ xs vs Q w rx k
  unfold gMax2 at k
  split at k
  · obtain ⟨v, u, rfl, r1, r2⟩ := rx.two
    rw [r1.int, r2.int]
    exact ⟨_, _, rfl, k.ok w _ (rsv_int _)⟩
  · exact k.elim
theorem b_abs : BltD X (.builtin "abs") gAbs := by
  refine ⟨_, call_abs, ?_⟩
  intro W io G H cs σ xs vs Q w rx k
  unfold gAbs at k
  split at k
  · obtain ⟨v, rfl, r1⟩ := rx.one
    rw [r1.int]
    exact ⟨_, rfl, k.ok w _ (rsv_int _)⟩
  · exact k.elim
theorem b_int1 : BltD X (.type "int") gInt := by
  refine ⟨_, call_int1, ?_⟩
  intro W io G H cs σ xs vs Q w rx k
  unfold gInt at k
  split at k
  · obtain ⟨v, rfl, r1⟩ := rx.one
    rw [r1.int]
    exact .inl ⟨_, rfl, k.ok w _ (rsv_int _)⟩
  · obtain ⟨v, rfl, r1⟩ := rx.one
    rw [r1.bl]
    exact .inr ⟨_, rfl, k.ok w _ (rsv_int _)⟩
  · exact k.elim
theorem b_intS : BltD X (.type "int") gIntS := by
  refine ⟨_, call_int_str, ?_⟩
  intro W io G H cs σ xs vs Q w rx k
  unfold gIntS at k
  split at k
  · split at k
    · rename_i z n e
      split at k
      · rename_i hz
        obtain ⟨v, rfl, r1⟩ := rx.one
        rw [r1.str]
        exact ⟨_, n, rfl, e, hz, k.ok w _ (rsv_int _)⟩
      · exact k.elim
    · exact k.elim
  · exact k.elim
theorem b_int : BltD X (.type "int") (orC gInt gIntS) := b_int1.or b_intS
theorem b_strI : BltD X (.type "str") gStrI := by
  refine ⟨_, call_str_int, ?_⟩
  intro W io G H cs σ xs vs Q w rx k
  unfold gStrI at k
  split at k
  · split at k
    · rename_i hz
      obtain ⟨v, rfl, r1⟩ := rx.one
      rw [r1.int]
      exact ⟨_, rfl, hz, k.ok w _ (rsv_str _)⟩
    · exact k.elim
  · exact k.elim
theorem b_tuple : BltD X (.type "tuple") gTuple := by
  refine ⟨_, call_tuple_of, ?_⟩
  intro W io G H cs σ xs vs Q w rx k
  unfold gTuple at k
  split at k
  · obtain ⟨v, rfl, r1⟩ := rx.one
    have r1' := r1
    simp only [Rp] at r1'
    obtain ⟨a, us, rfl, q, t⟩ := r1'
    exact ⟨a, us, rfl, .inr ⟨SqT.of (w.same _ _ q), k.ok w _ r1⟩⟩
  · rename_i x hx'
    split at k
    · rename_i ys e
      obtain ⟨v, rfl, r1⟩ := rx.one
      obtain ⟨a, us, rfl, q, t⟩ := lstk_ok w (lstk_some e fun ys z => hx' ys z) r1
      exact ⟨a, us, rfl, .inl ⟨q, fun l n => share_tup w t k n⟩⟩
    · exact k.elim
  · exact k.elim
theorem b_list : BltF X (.type "list") gList := by
  refine ⟨_, call_list_of, ?_⟩
  intro W io G H cs σ xs vs Q w rx k
  unfold gList at k
  split at k
  · split at k
    · rename_i ys e
      obtain ⟨v, rfl, r1⟩ := rx.one
      obtain ⟨a, us, rfl, q, t⟩ := seqc_ok w e r1
      refine ⟨a, us, rfl, q, fun l n => ?_⟩
      obtain ⟨q1, q2, q3, q4, q5, q6⟩ := laid_lst w t Le.refl n
      exact k _ _ _ q2 q1 l q3 q4 q5 q6 (fun z => nomatch z)
    · exact k.elim
  · exact k.elim
theorem b_sum (hc : X.calm = true) : BltD X (.builtin "sum") gSum := by
  refine ⟨_, cr_sum hc, ?_⟩
  intro W io G H cs σ xs vs Q w rx k
  unfold gSum at k
  split at k
  · split at k
    · rename_i ys e
      split at k
      · rename_i ns e2
        obtain ⟨v, rfl, r1⟩ := rx.one
        obtain ⟨a, us, rfl, q, t⟩ := lstk_ok w e r1
        rw [intsP_ok e2 t] at q
        exact ⟨a, ns, rfl, q, k.ok w _ (rsv_int _)⟩
      · exact k.elim
    · exact k.elim
  · exact k.elim
end

/-! ### isinstance -/
/-- an own class whose instances isinstance may ask -/
def IsiC (K : PySem.W.Frag) (C : Addr) : Prop := Cls K C ∧ PySem.W.findIn K (.ref C) "__class__" = some (some (.builtin "object.__class__")) ∧
  PySem.W.specialIn K (.builtin "object.__class__") "__get__" = some (some (.builtin "getset_descriptor.__get__")) ∧ PySem.W.takesIn K (.builtin "object.__class__") = some true ∧ PySem.W.mroIn K C (.type "object") = some true
open Classical in
noncomputable def tyP (K : PySem.W.Frag) (cs : Cells) : P → Option Value
  | .non => some (.type "NoneType")
  | .bl _ => some (.type "bool")
  | .int _ => some (.type "int")
  | .str _ => some (.type "str")
  | .tup _ => some (.type "tuple")
  | .lst _ => some (.type "list")
  | .dK _ => some (.type "dict")
  | .dT _ => some (.type "dict")
  | .obj C _ => if IsiC K C then some (.ref C) else none
  | .cell n => (match cs[n]? with
    | some (.lst _) => some (.type "list")
    | some (.dK _) => some (.type "dict")
    | some (.dT _) => some (.type "dict")
    | some (.obj C _) => if IsiC K C then some (.ref C) else none
    | _ => none)
  | _ => none
def clsP : P → Option Value
  | .raw (.ref C) => some (.ref C)
  | .raw (.ty n) => some (.type n)
  | _ => none
section
variable {K : PySem.W.Frag} {hx : Hx} {io : List Addr} {G H : Hp} {cs : Cells}
theorem tyP_ins {a C dx : Addr} {hs : List (Str × V)} (e : H a = some (.ins C dx hs)) (h : IsiC K C) : TyX K H (.ref a) (.ref C) := .base (.ins e h.1 h.2.1 h.2.2.1 h.2.2.2.1 h.2.2.2.2)
theorem tyP_ok (w : WOk K io G H cs) {d : P} {v : V} {t : Value} (h : tyP K cs d = some t) (r : Rp K io G d v) : TyX K H v t := by
  cases d with
  | non => cases h; rw [r.non]; exact .base .non
  | bl b => cases h; rw [r.bl]; exact .base (.bl _)
  | int b => cases h; rw [r.int]; exact .base (.int _)
  | str b => cases h; rw [r.str]; exact .base (.str _)
  | tup xs => cases h; simp only [Rp] at r; obtain ⟨a, vs, rfl, q, _⟩ := r; exact .base (.tup (w.same _ _ q))
  | lst xs => cases h; simp only [Rp] at r; obtain ⟨a, vs, rfl, q, _⟩ := r; exact .base (.lst (w.same _ _ q))
  | dK xs => cases h; simp only [Rp] at r; obtain ⟨a, vs, rfl, q, _⟩ := r; exact .base (.dK (w.same _ _ q))
  | dT xs => cases h; simp only [Rp] at r; obtain ⟨a, vs, rfl, q, _⟩ := r; exact .base (.dT (w.same _ _ q))
  | obj C fs =>
    simp only [tyP] at h
    split at h
    · rename_i hc
      cases h
      simp only [Rp] at r
      obtain ⟨a, dx, hs, rfl, q, _⟩ := r
      exact tyP_ins (w.same _ _ q) hc
    · cases h
  | cell n =>
    simp only [tyP] at h
    split at h
    · rename_i xs e
      cases h
      obtain ⟨a, e1, rfl, _, vs, e3, t⟩ := w.cellAt e r
      exact .base (.lst e3)
    · rename_i xs e
      cases h
      obtain ⟨a, e1, rfl, _, vs, e3, t⟩ := w.cellAt e r
      exact .base (.dK e3)
    · rename_i xs e
      cases h
      obtain ⟨a, e1, rfl, _, vs, e3, t⟩ := w.cellAt e r
      exact .base (.dT e3)
    · rename_i C fs e
      split at h
      · rename_i hc
        cases h
        obtain ⟨a, e1, rfl, _, dx, vs, e3, t⟩ := w.cellAt e r
        exact tyP_ins e3 hc
      · cases h
    · cases h
  | _ => simp only [tyP] at h; cases h
theorem clsP_ok {d : P} {v : V} {u : Value} (h : clsP d = some u) (r : Rp K io G d v) : ClsV v u := by
  cases d with
  | raw x =>
    simp only [Rp] at r
    subst r
    cases v with
    | ref C => cases h; exact .own C
    | ty n => cases h; exact .ty n
    | _ => cases h
  | _ => cases h
theorem clsPs_ok : ∀ {xs : List P} {vs : List V} {us : List Value}, mapO clsP xs = some us → Rps K io G xs vs → Paired ClsV vs us
  | [], _, _, h, r => by cases h; simp only [Rps] at r; subst r; exact .nil
  | x :: xs, vs, us, h, r => by
    simp only [mapO] at h
    split at h
    · rename_i y ys e1 e2
      cases h
      simp only [Rps] at r
      obtain ⟨v, t, rfl, r1, r2⟩ := r
      exact .cons (clsP_ok e1 r1) (clsPs_ok e2 r2)
    · cases h
end
noncomputable def gIsi (K : PySem.W.Frag) : GC := fun xs cs => match xs with
  | [x, .tup zs] => (match tyP K cs x, mapO clsP zs with
    | some t, some us => (match PySem.W.kitAny K t us with
      | some b => .ok (.bl b) cs
      | none => .stuck)
    | _, _ => .stuck)
  | [x, c] => (match tyP K cs x, clsP c with
    | some t, some u => (match PySem.W.kitOne K t u with
      | some b => .ok (.bl b) cs
      | none => .stuck)
    | _, _ => .stuck)
  | _ => .stuck
section
variable {X : Cx} {hx : Hx}
theorem b_isi : BltD X (.builtin "isinstance") (gIsi X.K) := by
  refine ⟨_, call_isi.or call_isiT, ?_⟩
  intro W io G H cs σ xs vs Q w rx k
  unfold gIsi at k
  split at k
  · rename_i x zs
    split at k
    · rename_i t us e1 e2
      split at k
      · rename_i b e3
        obtain ⟨v, u, rfl, r1, r2⟩ := rx.two
        simp only [Rp] at r2
        obtain ⟨a, ws, rfl, q, rt⟩ := r2
        exact .inr ⟨v, a, ws, t, us, b, rfl, w.same _ _ q, clsPs_ok e2 rt, tyP_ok w e1 r1, e3, k.ok w _ (rsv_bl _)⟩
      · exact k.elim
    · exact k.elim
  · split at k
    · rename_i t u e1 e2
      split at k
      · rename_i b e3
        obtain ⟨v, z, rfl, r1, r2⟩ := rx.two
        exact .inl ⟨v, z, t, u, b, rfl, clsP_ok e2 r2, tyP_ok w e1 r1, e3, k.ok w _ (rsv_bl _)⟩
      · exact k.elim
    · exact k.elim
  · exact k.elim
/-- a built-in's name as a value -/
theorem je_ty {W : WX} {x : Str} {n : String} {pos : Pos} (hg : Gl X x) (hm : X.mg x = none) (hv : bootBuiltins x = some (.type n)) (hn : x ≠ "__name__" := by decide) (hd : (x == ("__debug__" : Str)) = false := by decide) : JE X W hx (.Name x pos) (dC (.raw (.ty n))) :=
  ⟨_, pe_bltn (v := .ty n) hg hm hv rfl hn hd, fun _ _ _ _ _ _ _ s k => k.ok s.w _ (rsv_raw _)⟩
end
end DL

namespace DL
open PySem L2

/-! ### statements -/
def dNext : DSn := fun env cs => .nx env cs
def dSeq (f g : DSn) : DSn := fun env cs => match f env cs with
  | .nx e c => g e c
  | o => o
def dTo (f : DEn) (k : P → DSn) : DSn := fun env cs => match f env cs with
  | .ok d c => k d env c
  | .ex e c => .ex e env c
  | .stuck => .stuck
def dIf (t : DTn) (f g : DSn) : DSn := fun env cs => match t env cs with
  | .ok b c => if b = true then f env c else g env c
  | .ex e c => .ex e env c
  | .stuck => .stuck
def dRet (f : DEn) : DSn := dTo f fun d _ c => .rt d c
def dRetN : DSn := fun _ cs => .rt .non cs
def dDrop (f : DEn) : DSn := dTo f fun _ env c => .nx env c
def dSet (i : Nat) (f : DEn) : DSn := dTo f fun d env c => .nx (env.set i (some d)) c
def dBk : DSn := fun env cs => .bk env cs
def dCt : DSn := fun env cs => .ct env cs
abbrev DGn := P → Env → Cells → Option Env
def dAsg (f : DEn) (g : DGn) : DSn := dTo f fun d env c => match g d env c with
  | some e => .nx e c
  | none => .stuck
def gNm (i : Nat) : DGn := fun d env _ => some (env.set i (some d))
def gsNil : List P → Env → Cells → Option Env := fun ds env _ => match ds with
  | [] => some env
  | _ => none
def gsCons (g : DGn) (h : List P → Env → Cells → Option Env) : List P → Env → Cells → Option Env := fun ds env cs => match ds with
  | [] => none
  | d :: r => match g d env cs with
    | some e => h r e cs
    | none => none
def gTp (h : List P → Env → Cells → Option Env) : DGn := fun d env cs => match d with
  | .tup ds => h ds env cs
  | _ => none
/-- a variable is locked: its list is not changed any more -/
def dFz (i : Nat) (f : DSn) : DSn := fun env cs => match env[i]? with
  | some (some (.cell n)) => (match cs[n]? with
    | some c => (match pubC c with
      | some x => f (env.set i (some x)) (cs.set n .dead)
      | none => .stuck)
    | none => .stuck)
  | _ => f env cs
section
variable {K : PySem.W.Frag} {hx : Hx} {W : WX} {io : List Addr} {G H : Hp} {cs : Cells} {σ : L2.St} {env : Env} {te : TE} {f : DEn}
def DG (K : PySem.W.Frag) (hx : Hx) (t : TG) (g : DGn) : Prop := ∀ io G H cs env σ d v Q env', Sta K hx io G H cs env σ → Rp K io G d v → g d env cs = some env' → (∀ σ', Sta K hx io G H cs env' σ' → Q σ' H) → t v σ H Q
def DGs (K : PySem.W.Frag) (hx : Hx) (t : TGs) (g : List P → Env → Cells → Option Env) : Prop := ∀ io G H cs env σ ds vs Q env', Sta K hx io G H cs env σ → Rps K io G ds vs → g ds env cs = some env' → (∀ σ', Sta K hx io G H cs env' σ' → Q σ' H) → t vs σ H Q
/-- slot i is not the exception's -/
def FreeX (hx : Hx) (i : Nat) : Prop := ∀ q, hx = some q → q.1 ≠ i
theorem freeX0 {i : Nat} : FreeX none i := fun _ h => nomatch h
theorem freeX1 {i j : Nat} {r : Addr × Value × Option Addr} (h : j ≠ i) : FreeX (some (j, r)) i := fun _ e => by cases e; exact h
theorem Sta.set (s : Sta K hx io G H cs env σ) (i : Nat) (hi : FreeX hx i) {d : P} {v : V} (r : Rp K io G d v) : Sta K hx io G H cs (env.set i (some d)) (σ.set i (some v)) := by
  refine ⟨s.w, s.s.set i r, ?_⟩
  have q := s.x
  unfold HxOk at q ⊢
  split at q
  · trivial
  · rename_i j a cls dd
    have ne : i ≠ j := fun z => hi _ rfl z.symm
    exact ⟨by rw [List.getElem?_set_ne ne]; exact q.1, fun C fs e => q.2 C fs (by rw [List.getElem?_set_ne ne] at e; exact e)⟩
theorem killAll_get : ∀ (T : List Nat) (env : Env) (i : Nat) (d : P), (killAll env T)[i]? = some (some d) → env[i]? = some (some d)
  | [], _, _, _, h => h
  | t :: T, env, i, d, h => by
    have q := killAll_get T (env.set t none) i d h
    by_cases e : t = i
    · subst e
      by_cases z : t < env.length
      · rw [List.getElem?_set_self z] at q; cases q
      · rw [List.getElem?_eq_none (by rw [List.length_set]; omega)] at q; cases q
    · rw [List.getElem?_set_ne e] at q; exact q
theorem Sta.kills (s : Sta K hx io G H cs env σ) (T : List Nat) : Sta K hx io G H cs (killAll env T) σ := by
  refine ⟨s.w, s.s.kills T, ?_⟩
  have q := s.x
  unfold HxOk at q ⊢
  split at q
  · trivial
  · exact ⟨q.1, fun C fs e => q.2 C fs (killAll_get _ _ _ _ e)⟩
theorem AfS.nx {D : Ends} (k : AfS K hx W D io G H (.nx env cs)) (s : Sta K hx io G H cs env σ) : D.nx σ H := k _ _ _ _ .refl s
/-- an expression, then what is done with its value -/
theorem ds_to {D : Ends} {k : P → DSn} {R : V → Hp → Prop} (he : DE K hx W te f) (s : Sta K hx io G H cs env σ) (h : AfS K hx W D io G H (dTo f k env cs))
    (hk : ∀ io' G' H' c d v, Le io G H io' G' H' → Sta K hx io' G' H' c env σ → Rp K io' G' d v → AfS K hx W D io' G' H' (k d env c) → R v H') : te σ H R := by
  refine he io G H cs env σ R s ?_
  unfold dTo at h
  cases e : f env cs with
  | stuck => rw [e] at h; exact h
  | ex x c => rw [e] at h; exact fun i g h' cl dd l w xo => h i g h' σ cl dd l (s.to l w) xo
  | ok d c => rw [e] at h; exact fun i g h' l w v rv => hk i g h' c d v l (s.to l w) rv (AfS.mono l h)
end
section
variable {X : Cx} {W : WX} {hx : Hx} {e c : Expr} {es : List Expr} {st : Stmt} {rest a b : List Stmt} {f : DEn} {ft : DTn} {fs gs : DSn} {g : DGn} {gg : List P → Env → Cells → Option Env} {pos : Pos} {x : Str}
variable (X hx) in
def JG (tg : Expr) (g : DGn) : Prop := ∃ t, PG X tg t ∧ DG X.K hx t g
variable (X hx) in
def JGs (tg : List Expr) (g : List P → Env → Cells → Option Env) : Prop := ∃ t, PGs X tg t ∧ DGs X.K hx t g
theorem jb_nil : JB X W hx [] dNext := ⟨_, pss_nil, fun _ _ _ _ _ _ _ s k => AfS.nx k s⟩
theorem jb_one (h : JS X W hx st fs) : JB X W hx [st] fs := by
  obtain ⟨t, a1, a2⟩ := h
  exact ⟨t, pss_one a1, a2⟩
theorem jb_cons (h : JS X W hx st fs) (h' : JB X W hx rest gs) : JB X W hx (st :: rest) (dSeq fs gs) := by
  obtain ⟨t, a1, a2⟩ := h
  obtain ⟨u, b1, b2⟩ := h'
  refine ⟨_, pss_cons a1 b1, ?_⟩
  intro io G H cs env σ D s k
  refine a2 io G H cs env σ _ s ?_
  unfold dSeq at k
  cases e : fs env cs with
  | nx e1 c1 => rw [e] at k; exact fun i g h s' l st => b2 i g h c1 e1 s' D st (AfS.mono l k)
  | rt d c1 => rw [e] at k; exact k
  | bk e1 c1 => rw [e] at k; exact k
  | ct e1 c1 => rw [e] at k; exact k
  | ex x e1 c1 => rw [e] at k; exact k
  | stuck => rw [e] at k; exact k
theorem js_pass : JS X W hx (.Pass pos) dNext := ⟨_, ps_pass, fun _ _ _ _ _ _ _ s k => AfS.nx k s⟩
theorem js_break : JS X W hx (.Break pos) dBk := ⟨_, ps_break, fun _ _ _ _ _ _ _ s k => k _ _ _ _ .refl s⟩
theorem js_continue : JS X W hx (.Continue pos) dCt := ⟨_, ps_continue, fun _ _ _ _ _ _ _ s k => k _ _ _ _ .refl s⟩
theorem js_ret (h : JE X W hx e f) : JS X W hx (.Return (some e) pos) (dRet f) := by
  obtain ⟨t, a1, a2⟩ := h
  refine ⟨_, ps_ret a1, ?_⟩
  intro io G H cs env σ D s k
  exact ds_to a2 s k fun i g h c d v l st rv k => k _ _ _ v .refl st.w rv
theorem js_retN : JS X W hx (.Return none pos) dRetN := ⟨_, ps_retN, fun _ _ _ _ _ _ _ s k => k _ _ _ _ .refl s.w rsv_non⟩
theorem js_expr (h : JE X W hx e f) (hs : swapsWith e none pos.line X.env = pure false := by rfl) : JS X W hx (.Expr e pos) (dDrop f) := by
  obtain ⟨t, a1, a2⟩ := h
  refine ⟨_, ps_expr a1 hs, ?_⟩
  intro io G H cs env σ D s k
  exact ds_to a2 s k fun i g h c d v l st rv k => AfS.nx k st
theorem js_set (i : Nat) {pos' : Pos} (hN : X.N.Nodup) (hi : X.N[i]? = some x) (hl : Loc X.env.scope x) (h : JE X W hx e f) (hs : swapsWith e (some (.Name x pos')) pos.line X.env = pure false := by rfl)
    (hf : X.fn x = true ∨ X.env.scope.names.lookup x = some .local := by first | exact .inl rfl | exact .inr rfl | assumption) (hfr : FreeX hx i := by first | exact freeX0 | exact freeX1 (by decide)) : JS X W hx (.Assign [.Name x pos'] e pos) (dSet i f) := by
  obtain ⟨t, a1, a2⟩ := h
  refine ⟨_, ps_set hN hi hl a1 hs hf, ?_⟩
  intro io G H cs env σ D s k
  exact ds_to a2 s k fun i g h c d v l st rv k => AfS.nx k (st.set _ hfr rv)
theorem jg_name (i : Nat) (hN : X.N.Nodup) (hi : X.N[i]? = some x) (hl : Loc X.env.scope x)
    (hf : X.fn x = true ∨ X.env.scope.names.lookup x = some .local := by first | exact .inl rfl | exact .inr rfl | assumption) (hfr : FreeX hx i := by first | exact freeX0 | exact freeX1 (by decide)) : JG X hx (.Name x pos) (gNm i) := by
  refine ⟨_, pg_name hN hi hl hf, ?_⟩
  intro io G H cs env σ d v Q env' s r e k
  cases e
  exact k _ (s.set i hfr r)
theorem jgs_nil : JGs X hx [] gsNil := by
  refine ⟨_, pgs_nil, ?_⟩
  intro io G H cs env σ ds vs Q env' s r e k
  unfold gsNil at e
  split at e
  · cases e
    simp only [Rps] at r
    exact ⟨r, k _ s⟩
  · cases e
theorem jgs_cons (h : JG X hx e g) (h' : JGs X hx es gg) (hs : (assignEach (e :: es) X.env).map (·.2) = assign e X.env :: (assignEach es X.env).map (·.2) := by rfl) : JGs X hx (e :: es) (gsCons g gg) := by
  obtain ⟨t, a1, a2⟩ := h
  obtain ⟨u, b1, b2⟩ := h'
  refine ⟨_, pgs_cons a1 b1 hs, ?_⟩
  intro io G H cs env σ ds vs Q env' s r ee k
  unfold gsCons at ee
  split at ee
  · cases ee
  · split at ee
    · rename_i e1 h1
      simp only [Rps] at r
      obtain ⟨v, r', rfl, r1, r2⟩ := r
      refine ⟨v, r', rfl, a2 _ _ _ _ _ _ _ _ _ _ s r1 h1 fun σ1 s1 => b2 _ _ _ _ _ _ _ _ _ _ s1 r2 ee k⟩
    · cases ee
theorem jg_tup {k : Nat} {n : Nat} (hc : X.calm = true) (h : JGs X hx es gg) (hn : (assignEach es X.env).length = n := by rfl) (hst : (assignEach es X.env).findIdx? (·.1) = none := by rfl)
    (hl : ∀ ds env cs env', gg ds env cs = some env' → ds.length = n) : JG X hx (.Tuple es k pos) (gTp gg) := by
  obtain ⟨t, a1, a2⟩ := h
  refine ⟨_, pg_tup hc a1 hn hst, ?_⟩
  intro io G H cs env σ d v Q env' s r e kk
  unfold gTp at e
  split at e
  · simp only [Rp] at r
    obtain ⟨a, vs, rfl, q, t⟩ := r
    exact ⟨a, vs, rfl, SqT.of (s.w.same _ _ q), by rw [t.length]; exact hl _ _ _ _ e, a2 _ _ _ _ _ _ _ _ _ _ s t e kk⟩
  · cases e
theorem gl_nil : ∀ ds env cs env', gsNil ds env cs = some env' → ds.length = 0 := fun ds env cs env' h => by
  unfold gsNil at h
  split at h
  · rfl
  · cases h
theorem gl_cons {n : Nat} (h : ∀ ds env cs env', gg ds env cs = some env' → ds.length = n) : ∀ ds env cs env', gsCons g gg ds env cs = some env' → ds.length = n + 1 := fun ds env cs env' e => by
  unfold gsCons at e
  split at e
  · cases e
  · split at e
    · rw [List.length_cons, h _ _ _ _ e]
    · cases e
theorem js_asg {tg : Expr} (h : JE X W hx e f) (hg : JG X hx tg g) (hs : swapsWithSole [tg] e pos.line X.env = pure false := by rfl) (hw : swappedStores [tg] e X.env = pure none := by rfl)
    (h1 : (assignEach [tg] X.env).map (·.2) = [assign tg X.env] := by rfl) : JS X W hx (.Assign [tg] e pos) (dAsg f g) := by
  obtain ⟨t, a1, a2⟩ := h
  obtain ⟨u, b1, b2⟩ := hg
  refine ⟨_, ps_asg a1 b1 hs hw h1, ?_⟩
  intro io G H cs env σ D s k
  refine ds_to a2 s k fun i g1 h c d v l st rv k => ?_
  cases ee : g d env c with
  | none => rw [ee] at k; exact k.elim
  | some e1 =>
    rw [ee] at k
    exact b2 _ _ _ _ _ _ _ _ _ _ st rv ee fun σ' s' => AfS.nx k s'
theorem js_if (hc : JT X W hx c ft) (ha : JB X W hx a fs) (hb : JB X W hx b gs) : JS X W hx (.If c a b pos) (dIf ft fs gs) := by
  obtain ⟨t, a1, a2⟩ := hc
  obtain ⟨u, b1, b2⟩ := ha
  obtain ⟨z, c1, c2⟩ := hb
  refine ⟨_, ps_if a1 b1 c1, ?_⟩
  intro io G H cs env σ D s k
  refine a2 io G H cs env σ _ s ?_
  unfold dIf at k
  cases e : ft env cs with
  | stuck => rw [e] at k; exact k
  | ex x c => rw [e] at k; exact fun i g h' cl dd l w xo => k i g h' σ cl dd l (s.to l w) xo
  | ok d c =>
    rw [e] at k
    dsimp only at k
    intro i g h' l w
    cases d with
    | true => rw [if_pos rfl] at k ⊢; exact b2 _ _ _ _ _ _ _ (s.to l w) (AfS.mono l k)
    | false => rw [if_neg Bool.false_ne_true] at k ⊢; exact c2 _ _ _ _ _ _ _ (s.to l w) (AfS.mono l k)
/-- ahead of a statement a variable's object is locked -/
theorem js_fz (i : Nat) (h : JS X W hx st fs) (hfr : FreeX hx i := by first | exact freeX0 | exact freeX1 (by decide)) : JS X W hx st (dFz i fs) := by
  obtain ⟨t, a1, a2⟩ := h
  refine ⟨t, a1, ?_⟩
  intro io G H cs env σ D s k
  unfold dFz at k
  split at k
  · rename_i n e1
    split at k
    · rename_i c e2
      split at k
      · rename_i x e3
        obtain ⟨v, hv, r⟩ := s.s.get e1
        obtain ⟨a, ea, rfl, co⟩ := s.w.cellAt e2 r
        have nd : c ≠ .dead := fun z => by rw [z] at e3; cases e3
        have ga := co.g nd
        -- the cell is dead from here on, its object shared
        have w1 : WOk X.K io G H (cs.set n .dead) := by
          refine ⟨s.w.same, by rw [List.length_set]; exact s.w.len, s.w.nd, s.w.al, fun m b c' m1 m2 => ?_⟩
          by_cases z : m = n
          · subst z
            have hl : m < cs.length := (List.getElem?_eq_some_iff.mp e2).1
            rw [List.getElem?_set_self hl] at m2
            cases m2
            trivial
          · rw [List.getElem?_set_ne (Ne.symm z)] at m2
            exact s.w.live m b c' m1 m2
        have pr := List.prefix_refl io
        obtain ⟨o, eo⟩ : ∃ o, H a = some o := by
          cases q : H a with
          | none => exact absurd q (s.w.al a (List.mem_of_getElem? ea))
          | some o => exact ⟨o, rfl⟩
        have w2 : WOk X.K io (upd G a o) H (cs.set n .dead) := by
          refine ⟨fun b u q => ?_, w1.len, w1.nd, w1.al, fun m b c' m1 m2 => ?_⟩
          · by_cases z : b = a
            · rw [z, upd_same] at q; rw [z, eo]; exact q
            · rw [upd_ne z] at q; exact w1.same _ _ q
          · have q := w1.live m b c' m1 m2
            by_cases z : m = n
            · subst z
              have hl : m < cs.length := (List.getElem?_eq_some_iff.mp e2).1
              rw [List.getElem?_set_self hl] at m2
              cases m2
              trivial
            · have ne : b ≠ a := fun y => z (by subst y; exact nd_ix s.w.nd m1 ea)
              cases c' with
              | dead => trivial
              | _ => exact q.keep pr (same_share s.w.same eo) (by rw [upd_ne ne]; exact q.1) rfl
        have le : Le io G H io (upd G a o) H := ⟨pr, same_share s.w.same eo, fun _ _ h => .inl h, fun b u q => by
          by_cases z : b = a
          · exact .inr (.inr (by rw [z]; exact List.mem_of_getElem? ea))
          · rw [upd_ne z] at q; exact .inl q, fun _ h => .inl h, fun _ h => h⟩
        have rx : Rp X.K io (upd G a o) x (.ref a) := by
          have sm : Same G (upd G a o) := same_share s.w.same eo
          cases c with
          | lst xs =>
            obtain ⟨_, vs, q1, q2⟩ := co
            cases e3
            rw [eo] at q1
            cases q1
            simp only [Rp]
            exact ⟨a, vs, rfl, upd_same, q2.mono pr sm⟩
          | dK xs =>
            obtain ⟨_, vs, q1, q2⟩ := co
            cases e3
            rw [eo] at q1
            cases q1
            simp only [Rp]
            exact ⟨a, vs, rfl, upd_same, q2.mono pr sm⟩
          | dT xs =>
            obtain ⟨_, vs, q1, q2⟩ := co
            cases e3
            rw [eo] at q1
            cases q1
            simp only [Rp]
            exact ⟨a, vs, rfl, upd_same, q2.mono pr sm⟩
          | obj C xs =>
            obtain ⟨_, dx, vs, q1, q2⟩ := co
            cases e3
            rw [eo] at q1
            cases q1
            simp only [Rp]
            exact ⟨a, dx, vs, rfl, upd_same, q2.mono pr sm⟩
          | dead => cases e3
        have st2 : Sta X.K hx io (upd G a o) H (cs.set n .dead) (env.set i (some x)) σ := by
          have q := ((s.to le w2).set i hfr rx)
          have eσ : σ.set i (some (.ref a)) = σ := by
            obtain ⟨hl, hv⟩ := List.getElem?_eq_some_iff.mp hv
            rw [← hv]
            exact List.set_getElem_self hl
          rw [eσ] at q
          exact q
        exact a2 _ _ _ _ _ _ D st2 (AfS.mono le k)
      · exact k.elim
    · exact k.elim
  · exact a2 _ _ _ _ _ _ D s k
end

/-! ### for -/
structure Src (K : PySem.W.Frag) (J : It) (io : List Addr) (G H : Hp) (L : List P) (ok : Cells → Bool) : Prop where
  go : ∀ i io' G' H' cs, Le io G H io' G' H' → WOk K io' G' H' cs → ok cs = true → ∀ d, L[i]? = some d → J.go i H' ∧ ∀ x H2, J.yld i H' x H2 → ∃ io2 G2, Le io' G' H' io2 G2 H2 ∧ WOk K io2 G2 H2 cs ∧ Rp K io2 G2 d x
  stop : ∀ io' G' H' cs, Le io G H io' G' H' → WOk K io' G' H' cs → ok cs = true → J.stop L.length H'
abbrev DIn := Env → Cells → Rs (List P × (Cells → Bool))
def DI (K : PySem.W.Frag) (hx : Hx) (W : WX) (ti : TI) (f : DIn) : Prop := ∀ io G H cs env σ R, Sta K hx io G H cs env σ →
  AfR K W io G H σ (fun io' G' H' _ L => ∀ J, Src K J io' G' H' L.1 L.2 → R J H') (f env cs) → ti σ H R
def dForL (T : List Nat) (ok : Cells → Bool) (g : DGn) (body : DSn) : List P → DSn
  | [], env, cs => if ok cs = true then .nx env cs else .stuck
  | x :: r, env, cs => if ok cs = true then (match g x env cs with
    | none => .stuck
    | some e => match body e cs with
      | .nx e c => dForL T ok g body r (killAll e T) c
      | .ct e c => dForL T ok g body r (killAll e T) c
      | .bk e c => .nx (killAll e T) c
      | .rt d c => .rt d c
      | .ex x e c => .ex x e c
      | .stuck => .stuck) else .stuck
def dFor (T : List Nat) (fi : DIn) (g : DGn) (body : DSn) : DSn := fun env cs => match fi env cs with
  | .ok L c => dForL T L.2 g body L.1 (killAll env T) c
  | .ex e c => .ex e env c
  | .stuck => .stuck
section
variable {X : Cx} {W : WX} {hx : Hx} {tg iter : Expr} {body : List Stmt} {fi : DIn} {g : DGn} {fs : DSn} {pos : Pos}
variable (X W hx) in
def JI (tg iter : Expr) (f : DIn) : Prop := ∃ t, PI X tg iter t ∧ DI X.K hx W t f
theorem js_for (T : List Nat) (hp : PassesOwn (model X.prog X.w) X.A X.env X.xe) (hc : X.calm = true) (hi : JI X W hx tg iter fi) (hg : JG X hx tg g) (hb : JB X W hx body fs)
    (hs : ∀ x, foldedSetIterable iter X.env x = pure x := by intro _; rfl) : JS X W hx (.For tg iter body [] pos) (dFor T fi g fs) := by
  obtain ⟨ti, a1, a2⟩ := hi
  obtain ⟨tg', b1, b2⟩ := hg
  obtain ⟨tb, c1, c2⟩ := hb
  refine ⟨_, ps_for hp hc a1 b1 c1 hs, ?_⟩
  intro io G H cs env σ D s k
  refine a2 io G H cs env σ _ s ?_
  unfold dFor at k
  cases e : fi env cs with
  | stuck => rw [e] at k; exact k
  | ex x c => rw [e] at k; exact fun i g h' cl dd l w xo => k i g h' σ cl dd l (s.to l w) xo
  | ok L c =>
    rw [e] at k
    intro i1 g1 h1 l w J src
    refine ⟨fun i m σ' H' => m = L.1.length - i ∧ i ≤ L.1.length ∧ ∃ io' G' env' cs', Le i1 g1 h1 io' G' H' ∧ Sta X.K hx io' G' H' cs' env' σ' ∧ AfS X.K hx W D io' G' H' (dForL T L.2 g fs (L.1.drop i) env' cs'), ⟨_, rfl, Nat.zero_le _, i1, g1, _, c, .refl, (s.to l w).kills T, AfS.mono l k⟩, ?_⟩
    rintro i m σ' H' ⟨rfl, hi, io', G', env', cs', le, st, k2⟩
    cases hd : L.1.drop i with
    | nil =>
      rw [hd] at k2
      simp only [dForL] at k2
      split at k2
      · rename_i hok
        have ei : i = L.1.length := by
          have := congrArg List.length hd
          rw [List.length_drop] at this
          simp at this
          omega
        left
        exact ⟨by rw [ei]; exact src.stop io' G' H' cs' le st.w hok, AfS.nx k2 st⟩
      · exact k2.elim
    | cons d r =>
      rw [hd] at k2
      simp only [dForL] at k2
      split at k2
      · rename_i hok
        have hdi : L.1[i]? = some d := by
          have : (L.1.drop i)[0]? = some d := by rw [hd]; rfl
          rw [List.getElem?_drop] at this
          simpa using this
        have hlt : i < L.1.length := (List.getElem?_eq_some_iff.mp hdi).1
        have hr : r = L.1.drop (i + 1) := by
          have : (L.1.drop i).drop 1 = r := by rw [hd]; rfl
          rw [List.drop_drop] at this
          rw [← this]
        obtain ⟨hgo, hy⟩ := src.go i io' G' H' cs' le st.w hok d hdi
        right
        refine ⟨hgo, fun σ2 H2 => ∃ io' G' env' cs', Le i1 g1 h1 io' G' H2 ∧ Sta X.K hx io' G' H2 cs' env' σ2 ∧ AfS X.K hx W D io' G' H2 (dForL T L.2 g fs (L.1.drop (i + 1)) env' cs'), fun σ2 H2 q => ⟨_, by omega, rfl, hlt, q⟩, fun x H2 yd => ?_⟩
        obtain ⟨io2, G2, le2, w2, rx⟩ := hy x H2 yd
        cases ge : g d env' cs' with
        | none => rw [ge] at k2; exact k2.elim
        | some e1 =>
          rw [ge] at k2
          dsimp only at k2
          refine b2 _ _ _ _ _ _ _ _ _ _ (st.to le2 w2) rx ge fun σ3 s3 => ?_
          refine c2 io2 G2 H2 cs' e1 σ3 _ s3 ?_
          have k3 := AfS.mono le2 k2
          have leq := le.trans le2
          cases be : fs e1 cs' with
          | nx e2 c2' =>
            rw [be] at k3
            exact fun i g h s' l' st' => ⟨i, g, _, c2', leq.trans l', st'.kills T, by rw [← hr]; exact AfS.mono l' k3⟩
          | ct e2 c2' =>
            rw [be] at k3
            exact fun i g h s' l' st' => ⟨i, g, _, c2', leq.trans l', st'.kills T, by rw [← hr]; exact AfS.mono l' k3⟩
          | bk e2 c2' =>
            rw [be] at k3
            exact fun i g h s' l' st' => k3 i g h s' l' (st'.kills T)
          | rt d2 c2' => rw [be] at k3; exact k3
          | ex x2 e2 c2' => rw [be] at k3; exact k3
          | stuck => rw [be] at k3; exact k3
      · exact k2.elim
end
end DL

namespace L2
open PySem PySem.Spec PyProof.Rows
/-- what a for walks: a list, a tuple, a text, by its value -/
def iAnyx (K : PySem.W.Frag) (te : TE) : TI := fun σ H R => te σ H fun x H1 => (∃ a, x = .ref a ∧ (∃ xs, SqL K H1 a xs) ∧ R (Itl K a) H1) ∨ (∃ a, x = .ref a ∧ (∃ xs, SqT K H1 a xs) ∧ R (Itt K a) H1) ∨ ∃ z, x = .str z ∧ R (Its z) H1
theorem pi_anyx {X : Cx} {tg l : Expr} {tl : TE} (hl : PE X l tl) : PI X tg l (iAnyx X.K tl) := by
  refine ⟨fun pins s σ H R I h => ?_⟩
  refine thn (hl.run pins s σ H _ I h) fun v s1 ⟨x, H1, I1, r1, q1⟩ => ?_
  rcases q1 with ⟨a, e, ⟨xs, hq⟩, q⟩ | ⟨a, e, ⟨xs, hq⟩, q⟩ | ⟨z, e, q⟩
  · subst e
    cases r1
    obtain ⟨its, rv, p, hz⟩ := I1.list hq
    refine wpAny_pyIter_list p.isList ?_
    refine ⟨s1.heap.objs.size, [s1.heap.objs.size], _, _, H1, rfl, I1.kept (t' := s1.toks) fun b o e => Heap.get?_push_of_some _ e, turn_list a _, ⟨_, Heap.get?_push_size _ rfl, rfl, rfl⟩, fun b hb => ?_, q⟩
    have e : b = s1.heap.objs.size := by simpa using hb
    subst e
    exact I1.fpOk (Nat.le_refl _) (I1.hok.fresh (Nat.le_refl _))
  · subst e
    cases r1
    obtain ⟨its, rv, p, hz⟩ := I1.tuple hq
    refine wpAny_pyIter_tuple (show s1.heap.IsTuple a its.toArray from p) ?_
    refine ⟨s1.heap.objs.size, [s1.heap.objs.size], _, _, H1, rfl, I1.kept (t' := s1.toks) fun b o e => Heap.get?_push_of_some _ e, turn_tuple a _, ⟨_, Heap.get?_push_size _ rfl, rfl, rfl⟩, fun b hb => ?_, q⟩
    have e : b = s1.heap.objs.size := by simpa using hb
    subst e
    exact I1.fpOk (Nat.le_refl _) (I1.hok.fresh (Nat.le_refl _))
  · subst e
    obtain ⟨t, rfl⟩ := r1
    cases ha : z.cps.all (· < 128)
    · exact wpAny_pyIter_wide ha (pi_one (tk := s1.toks) I1 _ (turn_str _ z t "str_iterator" (.inr rfl)) ⟨_, Heap.get?_push_size _ rfl, rfl, rfl⟩ q)
    · exact wpAny_pyIter_ascii ha (pi_one (tk := s1.toks) I1 _ (turn_str _ z t "str_ascii_iterator" (.inl rfl)) ⟨_, Heap.get?_push_size _ rfl, rfl, rfl⟩ q)
/-- xs[i], d[k], by values, for an augmented store -/
def rGetx (K : PySem.W.Frag) : V → V → Hp → VK → Prop := fun x y H Q => rIxL K x y H Q ∨ rIxDx x y H Q
theorem get_anyx {X : Cx} (hu : X.A.units + 1 < cLine) : PGet X (rGetx X.K) := by
  intro pins s σ H o i ov iv Q I ro ri h
  rcases h with h | h
  · obtain ⟨p, xs, i, z, rfl, rfl, hq, he, q⟩ := h
    cases ro
    obtain ⟨t, rfl⟩ := ri
    obtain ⟨its, r, pl, hz⟩ := I.list hq
    obtain ⟨j, h1, h2, h3, h4, h5⟩ := atI_get he
    obtain ⟨w, ew, rw'⟩ := r.get h2
    have hl := r.length
    have hn := line63
    have fin : EP X pins σ Q w s := ⟨z, H, I, rw', q⟩
    by_cases h0 : 0 ≤ i
    · have hj : i.toNat = j := by
        rw [seqIndex_of h0 h5] at h1
        exact Option.some.inj h1
      exact wpAny_getItem_list pl.isList h0 (by omega) (by rw [hj]; simpa using ew) fin
    · have hj : (i + (its.toArray.size : Int)).toNat = j := by
        rw [seqIndex_neg (by omega) h4] at h1
        rw [List.size_toArray, ← hl]
        exact Option.some.inj h1
      exact wpAny_getItem_list_neg pl.isList (by omega) (by rw [List.size_toArray] <;> omega) (by omega) (by rw [hj]; simpa using ew) fin
  · obtain ⟨a, v, rfl, g, q⟩ := h
    cases (show ov = Value.ref a from ro)
    exact d_getItem hu I g ri fun w' s' I' rw' => ⟨v, H, I', rw', q⟩
end L2
namespace DL
open PySem L2

/-! ### what a for walks -/
def yes : Cells → Bool := fun _ => true
noncomputable def isAt (n : Nat) (xs : List P) : Cells → Bool := fun cs => @decide (cs[n]? = some (CO.lst xs)) (Classical.propDecidable _)
theorem isAt_iff {n : Nat} {xs : List P} {cs : Cells} : isAt n xs cs = true ↔ cs[n]? = some (CO.lst xs) := @decide_eq_true_iff _ (Classical.propDecidable _)
/-- the items of a value, and what must stay as it is while they are walked -/
noncomputable def walk (cs : Cells) : P → Option (List P × (Cells → Bool))
  | .lst xs => some (xs, yes)
  | .klst xs => some (xs, yes)
  | .tup xs => some (xs, yes)
  | .str z => some (z.cps.toList.map fun c => .str ⟨#[c]⟩, yes)
  | .cell n => match cs[n]? with
    | some (.lst xs) => some (xs, isAt n xs)
    | _ => none
  | _ => none
noncomputable def dWalk (f : DEn) : DIn := fun env cs => (f env cs).bind fun d cs => match walk cs d with
  | some L => .ok L cs
  | none => .stuck
def rangeP (lo : Int) (n : Nat) : List P := (List.range n).map fun (i : Nat) => P.int (lo + (i : Int))
def dRng1 (f : DAn) : DIn := fun env cs => (f env cs).bind fun xs cs => match xs with
  | [.int j] => if -(2 ^ 62) ≤ j ∧ j < 2 ^ 62 then .ok (rangeP 0 j.toNat, yes) cs else .stuck
  | _ => .stuck
def dRng2 (f : DAn) : DIn := fun env cs => (f env cs).bind fun xs cs => match xs with
  | [.int i, .int j] => if -(2 ^ 62) ≤ i ∧ i < 2 ^ 62 ∧ -(2 ^ 62) ≤ j ∧ j < 2 ^ 62 then .ok (rangeP i (j - i).toNat, yes) cs else .stuck
  | _ => .stuck
section
variable {K : PySem.W.Frag} {io : List Addr} {G H : Hp} {cs : Cells}
theorem src_of_list {a : Addr} {xs : List P} {vs : List V} {ok : Cells → Bool} (r : Rps K io G xs vs)
    (st : ∀ io' G' H' cs', Le io G H io' G' H' → WOk K io' G' H' cs' → ok cs' = true → ∃ us, SqL K H' a us ∧ Rps K io' G' xs us) : Src K (Itl K a) io G H xs ok where
  go := fun i io' G' H' cs' l w h d hd => by
    obtain ⟨us, q, t⟩ := st io' G' H' cs' l w h
    obtain ⟨v, ev, rv⟩ := t.get hd
    exact ⟨⟨us, v, q, ev⟩, fun x H2 ⟨e, y⟩ => ⟨io', G', by rw [e]; exact .refl, by rw [e]; exact w, by
      have z := y us q
      rw [ev] at z
      cases z
      exact rv⟩⟩
  stop := fun io' G' H' cs' l w h => by
    obtain ⟨us, q, t⟩ := st io' G' H' cs' l w h
    exact ⟨us, q, by rw [t.length]; exact Nat.le_refl _⟩
theorem src_of_tup {a : Addr} {xs : List P} {vs : List V} (e : G a = some (.tup vs)) (s : Same G H) (r : Rps K io G xs vs) : Src K (Itt K a) io G H xs yes where
  go := fun i io' G' H' cs' l w h d hd => by
    obtain ⟨v, ev, rv⟩ := r.get hd
    have q : SqT K H' a vs := SqT.of (w.same _ _ (l.g _ _ e))
    exact ⟨⟨vs, v, q, ev⟩, fun x H2 ⟨e, y⟩ => ⟨io', G', by rw [e]; exact .refl, by rw [e]; exact w, by
      have z := y vs q
      rw [ev] at z
      cases z
      exact rv.mono l.io l.g⟩⟩
  stop := fun io' G' H' cs' l w h => ⟨vs, SqT.of (w.same _ _ (l.g _ _ e)), by rw [r.length]; exact Nat.le_refl _⟩
theorem src_of_str {z : Str} : Src K (Its z) io G H (z.cps.toList.map fun c => .str ⟨#[c]⟩) yes where
  go := fun i io' G' H' cs' l w h d hd => by
    rw [List.getElem?_map, Array.getElem?_toList] at hd
    cases q : z.cps[i]? with
    | none => rw [q] at hd; cases hd
    | some c =>
      rw [q] at hd
      have hlt : i < z.cps.size := by
        by_cases y : i < z.cps.size
        · exact y
        · rw [Array.getElem?_eq_none (by omega)] at q; cases q
      cases hd
      exact ⟨hlt, fun x H2 ⟨e, c', y, ex⟩ => ⟨io', G', by rw [e]; exact .refl, by rw [e]; exact w, by
        rw [q] at y
        cases y
        rw [ex]
        simp only [Rp]⟩⟩
  stop := fun io' G' H' cs' l w h => by
    show z.cps.size ≤ _
    simp
theorem src_of_rng {lo : Int} {n : Nat} : Src K (Itr lo n) io G H (rangeP lo n) yes where
  go := fun i io' G' H' cs' l w h d hd => by
    unfold rangeP at hd
    rw [List.getElem?_map] at hd
    have hlt : i < n := by
      by_cases y : i < n
      · exact y
      · rw [List.getElem?_eq_none (by rw [List.length_range]; omega)] at hd; cases hd
    rw [List.getElem?_range hlt] at hd
    cases hd
    exact ⟨hlt, fun x H2 ⟨e, y⟩ => ⟨io', G', by rw [e]; exact .refl, by rw [e]; exact w, by rw [y]; simp only [Rp]⟩⟩
  stop := fun io' G' H' cs' l w h => by
    show n ≤ _
    unfold rangeP
    rw [List.length_map, List.length_range]
    exact Nat.le_refl _
theorem walk_ok (w : WOk K io G H cs) {d : P} {v : V} {L : List P × (Cells → Bool)} (h : walk cs d = some L) (r : Rp K io G d v) :
    (∃ a, v = .ref a ∧ (∃ xs, SqL K H a xs) ∧ Src K (Itl K a) io G H L.1 L.2) ∨ (∃ a, v = .ref a ∧ (∃ xs, SqT K H a xs) ∧ Src K (Itt K a) io G H L.1 L.2) ∨ ∃ z, v = .str z ∧ Src K (Its z) io G H L.1 L.2 := by
  cases d with
  | lst xs =>
    cases h
    simp only [Rp] at r
    obtain ⟨a, vs, rfl, e, t⟩ := r
    exact .inl ⟨a, rfl, ⟨vs, SqL.of (w.same _ _ e)⟩, src_of_list t fun io' G' H' cs' l w' _ => ⟨vs, SqL.of (w'.same _ _ (l.g _ _ e)), t.mono l.io l.g⟩⟩
  | klst xs =>
    cases h
    simp only [Rp] at r
    obtain ⟨a, vs, rfl, e, t⟩ := r
    exact .inl ⟨a, rfl, ⟨vs, w.same.seq e⟩, src_of_list t fun io' G' H' cs' l w' _ => ⟨vs, w'.same.seq (l.g.seq e), t.mono l.io l.g⟩⟩
  | tup xs =>
    cases h
    simp only [Rp] at r
    obtain ⟨a, vs, rfl, e, t⟩ := r
    exact .inr (.inl ⟨a, rfl, ⟨vs, SqT.of (w.same _ _ e)⟩, src_of_tup e w.same t⟩)
  | str z =>
    cases h
    exact .inr (.inr ⟨z, r.str, src_of_str⟩)
  | cell n =>
    simp only [walk] at h
    split at h
    · rename_i xs e
      cases h
      obtain ⟨a, ea, rfl, _, vs, e3, t⟩ := w.cellAt e r
      refine .inl ⟨a, rfl, ⟨vs, SqL.of e3⟩, src_of_list t fun io' G' H' cs' l w' hk => ?_⟩
      have ec : cs'[n]? = some (.lst xs) := isAt_iff.mp hk
      obtain ⟨_, us, e5, t5⟩ := w'.live n a _ (pre_get l.io ea) ec
      exact ⟨us, SqL.of e5, t5⟩
    · cases h
  | _ => simp only [walk] at h; cases h
end
section
variable {X : Cx} {W : WX} {hx : Hx} {tg e a b : Expr} {f : DEn} {fa : DAn} {p pos : Pos}
theorem ji_any (h : JE X W hx e f) : JI X W hx tg e (dWalk f) := by
  obtain ⟨t, a1, a2⟩ := h
  refine ⟨_, pi_anyx a1, ?_⟩
  intro io G H cs env σ R s k
  refine a2 io G H cs env σ _ s (AfR.imp (AfR.bind k) fun i g1 h1 c x l w k v rv => ?_)
  split at k
  · rename_i L e1
    have k := k.ok w
    rcases walk_ok w e1 rv with ⟨a, rfl, q, src⟩ | ⟨a, rfl, q, src⟩ | ⟨z, rfl, src⟩
    · exact .inl ⟨a, rfl, q, k _ src⟩
    · exact .inr (.inl ⟨a, rfl, q, k _ src⟩)
    · exact .inr (.inr ⟨z, rfl, k _ src⟩)
  · exact k.elim
theorem ji_rng1 (hg : Gl X "range") (hm : X.mg "range" = none) (ha : JA X W hx [a] fa) (hs : starEach [a] X.env = [(false, eval a X.env)] := by rfl) : JI X W hx tg (.Call (.Name "range" p) [a] [] pos) (dRng1 fa) := by
  obtain ⟨t, a1, a2⟩ := ha
  refine ⟨_, pi_range1 hg hm a1 hs, ?_⟩
  intro io G H cs env σ R s k
  refine a2 io G H cs env σ _ s (AfR.imp (AfR.bind k) fun i g1 h1 c x l w k vs rv => ?_)
  split at k
  · split at k
    · rename_i j hj
      obtain ⟨v, rfl, r1⟩ := rv.one
      rw [r1.int]
      exact ⟨j, rfl, hj.1, hj.2, k.ok w _ src_of_rng⟩
    · exact k.elim
  · exact k.elim
theorem ji_rng2 (hg : Gl X "range") (hm : X.mg "range" = none) (ha : JA X W hx [a, b] fa) (hs : starEach [a, b] X.env = [(false, eval a X.env), (false, eval b X.env)] := by rfl) (hs2 : starEach [b] X.env = [(false, eval b X.env)] := by rfl) :
    JI X W hx tg (.Call (.Name "range" p) [a, b] [] pos) (dRng2 fa) := by
  obtain ⟨t, a1, a2⟩ := ha
  refine ⟨_, pi_range2 hg hm a1 hs hs2, ?_⟩
  intro io G H cs env σ R s k
  refine a2 io G H cs env σ _ s (AfR.imp (AfR.bind k) fun i g1 h1 c x l w k vs rv => ?_)
  split at k
  · split at k
    · rename_i i j hj
      obtain ⟨v, u, rfl, r1, r2⟩ := rv.two
      rw [r1.int, r2.int]
      exact ⟨i, j, rfl, hj, k.ok w _ src_of_rng⟩
    · exact k.elim
  · exact k.elim
end

/-! ### stores into lists and dicts -/
def putP {κ : Type} [DecidableEq κ] (kvs : List (κ × P)) (k : κ) (v : P) : List (κ × P) :=
  if kvs.any (fun kv => decide (kv.1 = k)) then kvs.map fun kv => if kv.1 = k then (kv.1, v) else kv else kvs ++ [(k, v)]
def putC (cs : Cells) (o i v : P) : Option Cells := match o with
  | .cell n => (match cs[n]? with
    | some (.lst xs) => (match i with
      | .int k => (match ixN xs.length k with
        | some j => some (cs.set n (.lst (xs.set j v)))
        | none => none)
      | _ => none)
    | some (.dK kvs) => (match keyP i with
      | some k => if kvs.length < sizeLine then some (cs.set n (.dK (putP kvs k v))) else none
      | none => none)
    | some (.dT kvs) => (match i with
      | .tup xs => (match keysP xs with
        | some k => if kvs.length < sizeLine then some (cs.set n (.dT (putP kvs k v))) else none
        | none => none)
      | _ => none)
    | _ => none)
  | _ => none
def rPut : TSet := fun o i v H Q => rSetL o i v H Q ∨ rSetDx o i v H Q
section
variable {K : PySem.W.Frag} {io : List Addr} {G H : Hp} {cs cs' : Cells}
theorem RpK.any {k : Key} : ∀ {kvs : List (Key × P)} {hs : List (Key × V)}, RpK K io G kvs hs → (hs.any fun kv => decide (kv.1 = k)) = kvs.any fun kv => decide (kv.1 = k)
  | [], _, h => by simp only [RpK] at h; subst h; rfl
  | (j, x) :: r, _, h => by
    simp only [RpK] at h
    obtain ⟨v, t, rfl, _, r2⟩ := h
    rw [List.any_cons, List.any_cons, RpK.any r2]
theorem RpK.repl {k : Key} {x : P} {v : V} (rx : Rp K io G x v) : ∀ {kvs : List (Key × P)} {hs : List (Key × V)}, RpK K io G kvs hs → RpK K io G (kvs.map fun kv => if kv.1 = k then (kv.1, x) else kv) (hs.map fun kv => if kv.1 = k then (kv.1, v) else kv)
  | [], _, h => by simp only [RpK] at h; subst h; simp only [List.map_nil, RpK]
  | (j, y) :: r, _, h => by
    simp only [RpK] at h
    obtain ⟨u, t, rfl, r1, r2⟩ := h
    rw [List.map_cons, List.map_cons]
    by_cases e : j = k
    · simp only [e, if_pos, RpK]
      exact ⟨v, _, rfl, rx, RpK.repl rx r2⟩
    · simp only [e, if_neg, not_false_eq_true, if_false, RpK]
      exact ⟨u, _, rfl, r1, RpK.repl rx r2⟩
theorem RpK.snoc {k : Key} {x : P} {v : V} (rx : Rp K io G x v) : ∀ {kvs : List (Key × P)} {hs : List (Key × V)}, RpK K io G kvs hs → RpK K io G (kvs ++ [(k, x)]) (hs ++ [(k, v)])
  | [], _, h => by simp only [RpK] at h; subst h; simp only [List.nil_append, RpK]; exact ⟨v, [], rfl, rx, rfl⟩
  | (j, y) :: r, _, h => by
    simp only [RpK] at h
    obtain ⟨u, t, rfl, r1, r2⟩ := h
    simp only [List.cons_append, RpK]
    exact ⟨u, _, rfl, r1, RpK.snoc rx r2⟩
theorem RpK.put {k : Key} {x : P} {v : V} {kvs : List (Key × P)} {hs : List (Key × V)} (h : RpK K io G kvs hs) (rx : Rp K io G x v) : RpK K io G (putP kvs k x) (putK hs k v) := by
  unfold putP putK
  rw [h.any]
  split
  · exact h.repl rx
  · exact h.snoc rx
theorem RpT.any {k : List Key} : ∀ {kvs : List (List Key × P)} {hs : List (List Key × V)}, RpT K io G kvs hs → (hs.any fun kv => decide (kv.1 = k)) = kvs.any fun kv => decide (kv.1 = k)
  | [], _, h => by simp only [RpT] at h; subst h; rfl
  | (j, x) :: r, _, h => by
    simp only [RpT] at h
    obtain ⟨v, t, rfl, _, r2⟩ := h
    rw [List.any_cons, List.any_cons, RpT.any r2]
theorem RpT.repl {k : List Key} {x : P} {v : V} (rx : Rp K io G x v) : ∀ {kvs : List (List Key × P)} {hs : List (List Key × V)}, RpT K io G kvs hs → RpT K io G (kvs.map fun kv => if kv.1 = k then (kv.1, x) else kv) (hs.map fun kv => if kv.1 = k then (kv.1, v) else kv)
  | [], _, h => by simp only [RpT] at h; subst h; simp only [List.map_nil, RpT]
  | (j, y) :: r, _, h => by
    simp only [RpT] at h
    obtain ⟨u, t, rfl, r1, r2⟩ := h
    rw [List.map_cons, List.map_cons]
    by_cases e : j = k
    · simp only [e, if_pos, RpT]
      exact ⟨v, _, rfl, rx, RpT.repl rx r2⟩
    · simp only [e, if_neg, not_false_eq_true, if_false, RpT]
      exact ⟨u, _, rfl, r1, RpT.repl rx r2⟩
theorem RpT.snoc {k : List Key} {x : P} {v : V} (rx : Rp K io G x v) : ∀ {kvs : List (List Key × P)} {hs : List (List Key × V)}, RpT K io G kvs hs → RpT K io G (kvs ++ [(k, x)]) (hs ++ [(k, v)])
  | [], _, h => by simp only [RpT] at h; subst h; simp only [List.nil_append, RpT]; exact ⟨v, [], rfl, rx, rfl⟩
  | (j, y) :: r, _, h => by
    simp only [RpT] at h
    obtain ⟨u, t, rfl, r1, r2⟩ := h
    simp only [List.cons_append, RpT]
    exact ⟨u, _, rfl, r1, RpT.snoc rx r2⟩
theorem RpT.put {k : List Key} {x : P} {v : V} {kvs : List (List Key × P)} {hs : List (List Key × V)} (h : RpT K io G kvs hs) (rx : Rp K io G x v) : RpT K io G (putP kvs k x) (putK hs k v) := by
  unfold putP putK
  rw [h.any]
  split
  · exact h.repl rx
  · exact h.snoc rx
theorem RpT.length : ∀ {xs : List (List Key × P)} {vs : List (List Key × V)}, RpT K io G xs vs → vs.length = xs.length
  | [], _, h => by simp only [RpT] at h; subst h; rfl
  | (_, _) :: _, _, h => by
    simp only [RpT] at h
    obtain ⟨v, r, e, _, t⟩ := h
    subst e
    simp [RpT.length t]
/-- the store is made: the rule below, and the world behind it -/
theorem putC_ok (w : WOk K io G H cs) {o i v : P} {vo vi vv : V} (h : putC cs o i v = some cs') (ro : Rp K io G o vo) (ri : Rp K io G i vi) (rv : Rp K io G v vv) :
    ∃ H', (∀ Q : Hp → Prop, Q H' → rPut vo vi vv H Q) ∧ Le io G H io G H' ∧ WOk K io G H' cs' := by
  cases o with
  | cell n =>
    simp only [putC] at h
    split at h
    · rename_i xs e
      split at h
      · rename_i k
        split at h
        · rename_i j ej
          cases h
          obtain ⟨a, ea, rfl, ga, vs, e3, t⟩ := w.cellAt e ro
          rw [ri.int]
          refine ⟨upd H a (.lst (vs.set j vv)), fun Q q => .inl ⟨a, vs, k, j, rfl, rfl, e3, by rw [t.length]; exact ej, q⟩, Le.put (List.mem_of_getElem? ea) ga, w.put ea ga ⟨ga, _, upd_same, t.set j rv⟩⟩
        · cases h
      · cases h
    · rename_i kvs e
      split at h
      · rename_i k ek
        split at h
        · rename_i hl
          cases h
          obtain ⟨a, ea, rfl, ga, hs, e3, t⟩ := w.cellAt e ro
          rw [keyP_ok ek ri]
          refine ⟨upd H a (.dK (putK hs k vv)), fun Q q => .inr ⟨a, _, rfl, DPut.k e3 (by rw [t.length]; exact hl), q⟩, Le.put (List.mem_of_getElem? ea) ga, w.put ea ga ⟨ga, _, upd_same, t.put rv⟩⟩
        · cases h
      · cases h
    · rename_i kvs e
      split at h
      · split at h
        · rename_i xs k ek
          split at h
          · rename_i hl
            cases h
            obtain ⟨a, ea, rfl, ga, hs, e3, t⟩ := w.cellAt e ro
            simp only [Rp] at ri
            obtain ⟨b, us, rfl, eb, rt⟩ := ri
            have eb := w.same _ _ eb
            rw [keysP_ok ek rt] at eb
            refine ⟨upd H a (.dT (putK hs k vv)), fun Q q => .inr ⟨a, _, rfl, DPut.t e3 eb (by rw [t.length]; exact hl), q⟩, Le.put (List.mem_of_getElem? ea) ga, w.put ea ga ⟨ga, _, upd_same, t.put rv⟩⟩
          · cases h
        · cases h
      · cases h
    · cases h
  | _ => cases h
end
/-- o[i] = e: e first -/
def dPutS (fo fi fv : DEn) : DSn := dTo fv fun v => dTo fo fun o => dTo fi fun i => fun env cs => match putC cs o i v with
  | some c => .nx env c
  | none => .stuck
/-- o[i] op= e -/
def gGet : G2 := orG (fun x y cs => match y with
  | .int i => (match lstk cs x with
    | some xs => (match atI xs i with
      | some d => .ok d cs
      | none => .stuck)
    | none => .stuck)
  | _ => .stuck) gIxD
def dAugS (g : G2) (fo fi fv : DEn) : DSn := dTo fo fun o => dTo fi fun i => dTo (fun _ cs => gGet o i cs) fun x => dTo fv fun y => dTo (fun _ cs => g x y cs) fun z => fun env cs => match putC cs o i z with
  | some c => .nx env c
  | none => .stuck
/-- x op= e, a name -/
def dAug (g : G2) (i : Nat) (fv : DEn) : DSn := fun env cs => match env[i]? with
  | some (some x) => dTo fv (fun y => dTo (fun _ cs => g x y cs) fun z env c => .nx (env.set i (some z)) c) env cs
  | _ => .stuck
section
variable {K : PySem.W.Frag} {hx : Hx} {W : WX} {io : List Addr} {G H : Hp} {cs : Cells} {σ : L2.St} {env : Env}
theorem opd_get : OpD K (rGetx K) gGet := by
  refine OpD.or (r := rIxL K) (r' := rIxDx) ?_ opd_ixD
  intro W io G H cs σ x y v u Q w rx ry k
  dsimp only at k
  split at k
  · rename_i i
    split at k
    · rename_i xs e1
      split at k
      · rename_i d e2
        obtain ⟨a, vs, rfl, q, t⟩ := lstk_ok w e1 rx
        obtain ⟨z, e3, r3⟩ := t.atI e2
        rw [ry.int]
        exact ⟨a, vs, i, z, rfl, rfl, q, e3, k.ok w _ r3⟩
      · exact k.elim
    · exact k.elim
  · exact k.elim
/-- an operation on two values, then what is done with its value -/
theorem ds_op {D : Ends} {r : R2} {g : G2} {k : P → DSn} {R : V → Hp → Prop} (ho : OpD K r g) (s : Sta K hx io G H cs env σ) {x y : P} {v u : V} (rx : Rp K io G x v) (ry : Rp K io G y u)
    (h : AfS K hx W D io G H (dTo (fun _ cs => g x y cs) k env cs))
    (hk : ∀ io' G' H' c d v, Le io G H io' G' H' → Sta K hx io' G' H' c env σ → Rp K io' G' d v → AfS K hx W D io' G' H' (k d env c) → R v H') : r v u H R := by
  refine ho W io G H cs σ x y v u R s.w rx ry ?_
  unfold dTo at h
  dsimp only at h
  cases e : g x y cs with
  | stuck => rw [e] at h; exact h
  | ex x c => rw [e] at h; exact fun i g h' cl dd l w xo => h i g h' σ cl dd l (s.to l w) xo
  | ok d c => rw [e] at h; exact fun i g h' l w v rv => hk i g h' c d v l (s.to l w) rv (AfS.mono l h)
end
section
variable {X : Cx} {W : WX} {hx : Hx} {o i e : Expr} {fo fi fv : DEn} {pos pos' : Pos} {x : Str}
theorem js_put (hu : X.A.units + 1 < cLine) (ho : JE X W hx o fo) (hi : JE X W hx i fi) (hv : JE X W hx e fv)
    (ha : ∀ v, assign (.Subscript o i pos') X.env v = (do
      let ov ← holding [v] (eval o X.env)
      let iv ← holding [v, ov] (eval i X.env)
      standAt pos'
      holding [v, ov, iv] (setItem ov iv v)
      release [v, ov, iv] []) := by intro _; rfl) (hs : swapsWithSole [.Subscript o i pos'] e pos.line X.env = pure false := by rfl) (hw : swappedStores [.Subscript o i pos'] e X.env = pure none := by rfl)
    (h1 : (assignEach [.Subscript o i pos'] X.env).map (·.2) = [assign (.Subscript o i pos') X.env] := by rfl) : JS X W hx (.Assign [.Subscript o i pos'] e pos) (dPutS fo fi fv) := by
  obtain ⟨to, a1, a2⟩ := ho
  obtain ⟨ti, b1, b2⟩ := hi
  obtain ⟨tv, c1, c2⟩ := hv
  refine ⟨_, ps_asg c1 (pg_sub a1 b1 (set_list.or (set_dictx hu)) ha) hs hw h1, ?_⟩
  intro io G H cs env σ D s k
  refine ds_to c2 s k fun i1 g1 h1 c v vv l1 s1 rv k1 => ?_
  refine ds_to a2 s1 k1 fun i2 g2 h2 c2' o vo l2 s2 ro k2 => ?_
  refine ds_to b2 s2 k2 fun i3 g3 h3 c3 i vi l3 s3 ri k3 => ?_
  split at k3
  · rename_i c' ec
    obtain ⟨H', q1, q2, q3⟩ := putC_ok s3.w ec (ro.mono l3.io l3.g) ri ((rv.mono l2.io l2.g).mono l3.io l3.g)
    exact q1 _ (k3 _ _ _ _ q2 (s3.to q2 q3))
  · exact k3.elim
theorem pip_of {op : Operator} {r : R2} (h : OpR X (inplaceOp op) r) : PIp X op r := fun pins s σ H x y v u Q I rx ry q => h pins s σ H x y v u Q I rx ry q
theorem js_augS {op : Operator} {g : G2} (hu : X.A.units + 1 < cLine) (hop : BinD X (inplaceOp op) g) (ho : JE X W hx o fo) (hi : JE X W hx i fi) (hv : JE X W hx e fv)
    (ha : ∀ ov iv new, augStore i ov iv new = (do holding [new, ov, iv] (setItem ov iv new); release [new, ov, iv] []; pure .next) := by intros; rfl) : JS X W hx (.AugAssign (.Subscript o i pos') op e pos) (dAugS g fo fi fv) := by
  obtain ⟨r, o1, o2⟩ := hop
  obtain ⟨to, a1, a2⟩ := ho
  obtain ⟨ti, b1, b2⟩ := hi
  obtain ⟨tv, c1, c2⟩ := hv
  refine ⟨_, ps_augS a1 b1 (get_anyx hu) c1 (pip_of o1) (set_list.or (set_dictx hu)) ha, ?_⟩
  intro io G H cs env σ D s k
  refine ds_to a2 s k fun i1 g1 h1 c1 o vo l1 s1 ro k1 => ?_
  refine ds_to b2 s1 k1 fun i2 g2 h2 c2' i vi l2 s2 ri k2 => ?_
  refine ds_op opd_get s2 (ro.mono l2.io l2.g) ri k2 fun i3 g3 h3 c3 x vx l3 s3 rx k3 => ?_
  refine ds_to c2 s3 k3 fun i4 g4 h4 c4 y vy l4 s4 ry k4 => ?_
  refine ds_op o2 s4 (rx.mono l4.io l4.g) ry k4 fun i5 g5 h5 c5 z vz l5 s5 rz k5 => ?_
  split at k5
  · rename_i c' ec
    obtain ⟨H', q1, q2, q3⟩ := putC_ok s5.w ec ((((ro.mono l2.io l2.g).mono l3.io l3.g).mono l4.io l4.g).mono l5.io l5.g) (((ri.mono l3.io l3.g).mono l4.io l4.g).mono l5.io l5.g) rz
    exact q1 _ (k5 _ _ _ _ q2 (s5.to q2 q3))
  · exact k5.elim
theorem js_aug (i : Nat) {op : Operator} {g : G2} (hop : BinD X (inplaceOp op) g) (hN : X.N.Nodup) (hi : X.N[i]? = some x) (hl : Loc X.env.scope x) (hv : JE X W hx e fv)
    (hf : X.fn x = true ∨ X.env.scope.names.lookup x = some .local := by first | exact .inl rfl | exact .inr rfl | assumption) (hfr : FreeX hx i := by first | exact freeX0 | exact freeX1 (by decide)) :
    JS X W hx (.AugAssign (.Name x pos') op e pos) (dAug g i fv) := by
  obtain ⟨r, o1, o2⟩ := hop
  obtain ⟨tv, c1, c2⟩ := hv
  refine ⟨_, ps_aug hN hi hl c1 (pip_of o1) hf, ?_⟩
  intro io G H cs env σ D s k
  unfold dAug at k
  split at k
  · rename_i x ex
    obtain ⟨v, ev, rv⟩ := s.s.get ex
    refine ⟨v, ev, ds_to c2 s k fun i1 g1 h1 c1 y vy l1 s1 ry k1 => ?_⟩
    refine ds_op o2 s1 (rv.mono l1.io l1.g) ry k1 fun i2 g2 h2 c2' z vz l2 s2 rz k2 => ?_
    exact AfS.nx k2 (s2.set i hfr rz)
  · exact k.elim
theorem bi_add : BinD X (inplaceOp .Add) (orG (gI (fun _ _ => true) fun i j => .int (i + j)) gStr) := ⟨_, iop_add.or iop_add_str, (opd_I0 fun _ _ _ _ => rsv_int _).or opd_str⟩
theorem bi_sub : BinD X (inplaceOp .Sub) gSub := ⟨_, iop_sub, opd_I0 fun _ _ _ _ => rsv_int _⟩
end

/-! ### stores into attributes -/
def putFP (f : Str) (v : P) : List (Str × P) → List (Str × P)
  | [] => [(f, v)]
  | (g, u) :: r => if g = f then (g, v) :: r else (g, u) :: putFP f v r
section
variable {K : PySem.W.Frag} {io : List Addr} {G H : Hp} {cs : Cells}
theorem RpF.put {f : Str} {x : P} {v : V} (rx : Rp K io G x v) : ∀ {fs : List (Str × P)} {hs : List (Str × V)}, RpF K io G fs hs → RpF K io G (putFP f x fs) (putF f v hs)
  | [], _, h => by simp only [RpF] at h; subst h; simp only [putFP, putF, RpF]; exact ⟨v, [], rfl, rx, rfl⟩
  | (j, y) :: r, _, h => by
    simp only [RpF] at h
    obtain ⟨u, t, rfl, r1, r2⟩ := h
    simp only [putFP, putF]
    by_cases e : j = f
    · rw [if_pos e, if_pos e]
      simp only [RpF]
      exact ⟨v, _, rfl, rx, r2⟩
    · rw [if_neg e, if_neg e]
      simp only [RpF]
      exact ⟨u, _, rfl, r1, RpF.put rx r2⟩
theorem RpF.length : ∀ {xs : List (Str × P)} {vs : List (Str × V)}, RpF K io G xs vs → vs.length = xs.length
  | [], _, h => by simp only [RpF] at h; subst h; rfl
  | (_, _) :: _, _, h => by
    simp only [RpF] at h
    obtain ⟨v, r, e, _, t⟩ := h
    subst e
    simp [RpF.length t]
end
open Classical in
noncomputable def putO (K : PySem.W.Frag) (f : Str) (cs : Cells) (o v : P) : Option Cells := match o with
  | .cell n => (match cs[n]? with
    | some (.obj C fs) => if FldOk K C f ∧ fs.length < 1000 then some (cs.set n (.obj C (putFP f v fs))) else none
    | _ => none)
  | _ => none
/-- o.f = e -/
noncomputable def dPutF (K : PySem.W.Frag) (f : Str) (fo fv : DEn) : DSn := dTo fv fun v => dTo fo fun o => fun env cs => match putO K f cs o v with
  | some c => .nx env c
  | none => .stuck
/-- o.f op= e -/
noncomputable def dAugF (K : PySem.W.Frag) (g : G2) (f : Str) (fo fv : DEn) : DSn := dTo fo fun o => dTo (fun env cs => dFld K f (fun _ cs => .ok o cs) env cs) fun x => dTo fv fun y => dTo (fun _ cs => g x y cs) fun z => fun env cs => match putO K f cs o z with
  | some c => .nx env c
  | none => .stuck
section
variable {X : Cx} {W : WX} {hx : Hx} {o e : Expr} {fo fv : DEn} {pos pos' : Pos} {f : Str}
theorem js_fld (ho : JE X W hx o fo) (hv : JE X W hx e fv) (hs : swapsWith e (some (.Attribute o f pos')) pos.line X.env = pure false := by rfl) : JS X W hx (.Assign [.Attribute o f pos'] e pos) (dPutF X.K f fo fv) := by
  obtain ⟨to, a1, a2⟩ := ho
  obtain ⟨tv, c1, c2⟩ := hv
  refine ⟨_, ps_fld a1 c1 hs, ?_⟩
  intro io G H cs env σ D s k
  refine ds_to c2 s k fun i1 g1 h1 c v vv l1 s1 rv k1 => ?_
  refine ds_to a2 s1 k1 fun i2 g2 h2 c2' o vo l2 s2 ro k2 => ?_
  split at k2
  · rename_i c' ec
    unfold putO at ec
    split at ec
    · rename_i n
      split at ec
      · rename_i C fs en
        split at ec
        · rename_i hf
          cases ec
          obtain ⟨a, ea, rfl, ga, dx, hs, e3, t⟩ := s2.w.cellAt en ro
          refine ⟨a, C, dx, hs, rfl, e3, hf.1.1, hf.1.2, by rw [t.length]; exact hf.2, ?_⟩
          exact k2 _ _ _ _ (Le.put (List.mem_of_getElem? ea) ga) (s2.to (Le.put (List.mem_of_getElem? ea) ga) (s2.w.put ea ga ⟨ga, dx, _, upd_same, t.put (rv.mono l2.io l2.g)⟩))
        · cases ec
      · cases ec
    · cases ec
  · exact k2.elim
end

/-! ### methods of built-in types -/
abbrev GM := P → List P → Cells → Rs P
/-- the kind of receiver -/
def tyc (T : String) (cs : Cells) (x : P) : Bool := match T with
  | "list" => (lstk cs x).isSome
  | "str" => (match x with
    | .str _ => true
    | _ => false)
  | "dict" => (dkc cs x).isSome
  | _ => false
def MthD (X : Cx) (id : String) (g : GM) : Prop := ∃ r, MtR X id r ∧ ∀ (W : WX) io G H cs σ x v xs vs Q, WOk X.K io G H cs → Rp X.K io G x v → Rps X.K io G xs vs →
  AfR X.K W io G H σ (fun io' G' H' _ d => ∀ v, Rp X.K io' G' d v → Q v H') (g x xs cs) → r v vs H Q
def dMth (T : String) (g : GM) (fo : DEn) (fa : DAn) : DEn := fun env cs => (fo env cs).bind fun x cs => if tyc T cs x = true then (fa env cs).bind fun xs cs => g x xs cs else .stuck
def dMth0 (T : String) (g : GM) (fo : DEn) : DEn := fun env cs => (fo env cs).bind fun x cs => if tyc T cs x = true then g x [] cs else .stuck
section
variable {K : PySem.W.Frag} {io : List Addr} {G H : Hp} {cs : Cells}
theorem tyc_ok (w : WOk K io G H cs) {T : String} {x : P} {v : V} (h : tyc T cs x = true) (r : Rp K io G x v) : tyV K T v H := by
  unfold tyc at h
  split at h
  · cases e : lstk cs x with
    | none => rw [e] at h; cases h
    | some xs =>
      obtain ⟨a, vs, rfl, q, t⟩ := lstk_ok w e r
      exact .inl ⟨rfl, vs, q⟩
  · split at h
    · rw [r.str]; rfl
    · cases h
  · cases e : dkc cs x with
    | none => rw [e] at h; cases h
    | some xs =>
      obtain ⟨a, vs, rfl, q, t⟩ := dkc_ok w e r
      exact .inr (.inr (.inl ⟨rfl, .inl ⟨vs, q⟩⟩))
  · cases h
end
section
variable {X : Cx} {W : WX} {hx : Hx} {o e : Expr} {es : List Expr} {fo : DEn} {fa : DAn} {apos cpos : Pos} {T id : String} {name : Str} {g : GM}
theorem je_mth (pa : PlainAttrs T) (slot : Slot T name id) (hty : typeOf (.builtin id) = pure (.type "method_descriptor")) (hm : MthD X id g) (ho : JE X W hx o fo) (ha : JA X W hx (e :: es) fa)
    (hbase : attributeBase o name X.env (eval o X.env) = eval o X.env := by rfl)
    (hfew : ((backTo cpos (starEach (e :: es) X.env)).all (fun x => !x.1) && (backToKw cpos (keywordEach [] X.env)).all (fun x => x.1.isSome)
      && decide ((e :: es).length + ([] : List Keyword).length + (if ([] : List Keyword).isEmpty then 0 else 1) < 30)) = true := by rfl)
    (hline : (apos.endLine == cpos.line) = true := by rfl) (hs : starEach (e :: es) X.env = (false, eval e X.env) :: starEach es X.env := by rfl) (hplain : (backTo cpos (starEach es X.env)).any (·.1) = false := by rfl) :
    JE X W hx (.Call (.Attribute o name apos) (e :: es) [] cpos) (dMth T g fo fa) := by
  obtain ⟨r, m1, m2⟩ := hm
  obtain ⟨to, a1, a2⟩ := ho
  obtain ⟨ta, b1, b2⟩ := ha
  refine ⟨_, pe_bm pa slot hty m1 a1 b1 hbase hfew hline hs hplain, ?_⟩
  intro io G H cs env σ Q s k
  refine a2 io G H cs env σ _ s (AfR.imp (AfR.bind k) fun i g1 h1 c x l w k v rv => ?_)
  split at k
  · rename_i ht
    refine ⟨tyc_ok w ht rv, b2 i g1 h1 c env σ _ (s.to l w) (AfR.imp (AfR.bind k) fun i2 g2 h2 c2 xs l2 w2 k2 vs rs => ?_)⟩
    exact m2 W i2 g2 h2 c2 σ x v xs vs Q w2 (rv.mono l2.io l2.g) rs k2
  · exact k.elim
theorem je_mth0 (pa : PlainAttrs T) (slot : Slot T name id) (hty : typeOf (.builtin id) = pure (.type "method_descriptor")) (hm : MthD X id g) (ho : JE X W hx o fo)
    (hbase : attributeBase o name X.env (eval o X.env) = eval o X.env := by rfl) (hline : (apos.endLine == cpos.line) = true := by rfl) : JE X W hx (.Call (.Attribute o name apos) [] [] cpos) (dMth0 T g fo) := by
  obtain ⟨r, m1, m2⟩ := hm
  obtain ⟨to, a1, a2⟩ := ho
  refine ⟨_, pe_bm0 pa slot hty m1 a1 hbase hline, ?_⟩
  intro io G H cs env σ Q s k
  refine a2 io G H cs env σ _ s (AfR.imp (AfR.bind k) fun i g1 h1 c x l w k v rv => ?_)
  split at k
  · rename_i ht
    exact ⟨tyc_ok w ht rv, m2 W i g1 h1 c σ x v [] [] Q w rv Rps.nil k⟩
  · exact k.elim
end
/-- the list at a cell, changed -/
def lcell (cs : Cells) : P → Option (Nat × List P)
  | .cell n => match cs[n]? with
    | some (.lst xs) => some (n, xs)
    | _ => none
  | _ => none
def gAppend : GM := fun o as cs => match lcell cs o, as with
  | some (n, xs), [y] => if xs.length < sizeLine then .ok .non (cs.set n (.lst (xs ++ [y]))) else .stuck
  | _, _ => .stuck
def gReverse : GM := fun o as cs => match lcell cs o, as with
  | some (n, xs), [] => .ok .non (cs.set n (.lst xs.reverse))
  | _, _ => .stuck
def gClear : GM := fun o as cs => match lcell cs o, as with
  | some (n, _), [] => .ok .non (cs.set n (.lst []))
  | _, _ => .stuck
def gExtend : GM := fun o as cs => match lcell cs o, as with
  | some (n, xs), [y] => (match lstc cs y with
    | some ys => if xs.length + ys.length ≤ sizeLine then .ok .non (cs.set n (.lst (xs ++ ys))) else .stuck
    | none => .stuck)
  | _, _ => .stuck
def gPop : GM := fun o as cs => match lcell cs o, as with
  | some (n, xs), [] => (match xs[xs.length - 1]? with
    | some y => .ok y (cs.set n (.lst xs.dropLast))
    | none => .stuck)
  | _, _ => .stuck
section
variable {K : PySem.W.Frag} {io : List Addr} {G H : Hp} {cs : Cells}
theorem lcell_ok (w : WOk K io G H cs) {o : P} {n : Nat} {xs : List P} {v : V} (h : lcell cs o = some (n, xs)) (r : Rp K io G o v) :
    ∃ a vs, v = .ref a ∧ io[n]? = some a ∧ G a = none ∧ H a = some (.lst vs) ∧ Rps K io G xs vs := by
  cases o with
  | cell m =>
    simp only [lcell] at h
    split at h
    · rename_i ys e
      cases h
      obtain ⟨a, ea, rfl, ga, vs, e3, t⟩ := w.cellAt e r
      exact ⟨a, vs, rfl, ea, ga, e3, t⟩
    · cases h
  | _ => simp only [lcell] at h; cases h
theorem Rps.dropLast {xs : List P} {vs : List V} (h : Rps K io G xs vs) : Rps K io G xs.dropLast vs.dropLast := by
  rw [List.dropLast_eq_take, List.dropLast_eq_take, h.length]
  exact h.take _
/-- behind a change of a list -/
theorem put_lst {W : WX} {σ : L2.St} {Q : VK} {d : P} {vd : V} (w : WOk K io G H cs) {n : Nat} {a : Addr} {ys : List P} {us : List V} (ea : io[n]? = some a) (ga : G a = none) (r : Rps K io G ys us) (rd : Rp K io G d vd)
    (k : AfR K W io G H σ (fun io' G' H' _ d => ∀ v, Rp K io' G' d v → Q v H') (.ok d (cs.set n (.lst ys)))) : Q vd (upd H a (.lst us)) :=
  k io G _ (Le.put (List.mem_of_getElem? ea) ga) (w.put ea ga ⟨ga, us, upd_same, r⟩) vd rd
end
section
variable {X : Cx}
theorem mtr_of {id : String} {r : V → List V → Hp → VK → Prop} (h : MtM X id r) : MtR X id r := h
theorem m_append : MthD X "list.append" gAppend := by
  refine ⟨_, mtr_of mt_append, ?_⟩
  intro W io G H cs σ x v xs vs Q w rv rs k
  unfold gAppend at k
  split at k
  · split at k
    · rename_i n ys y e hl
      obtain ⟨a, us, rfl, ea, ga, e3, t⟩ := lcell_ok w e rv
      obtain ⟨z, rfl, rz⟩ := rs.one
      exact ⟨a, us, z, rfl, rfl, e3, by rw [t.length]; exact hl, put_lst w ea ga (t.append (Rps.cons rz Rps.nil)) rsv_non k⟩
    · exact k.elim
  · exact k.elim
theorem m_reverse : MthD X "list.reverse" gReverse := by
  refine ⟨_, mtr_of mt_reverse, ?_⟩
  intro W io G H cs σ x v xs vs Q w rv rs k
  unfold gReverse at k
  split at k
  · rename_i n ys e
    obtain ⟨a, us, rfl, ea, ga, e3, t⟩ := lcell_ok w e rv
    simp only [Rps] at rs
    exact ⟨a, us, rfl, rs, e3, put_lst w ea ga t.reverse rsv_non k⟩
  · exact k.elim
theorem m_clear : MthD X "list.clear" gClear := by
  refine ⟨_, mtr_of mt_clear, ?_⟩
  intro W io G H cs σ x v xs vs Q w rv rs k
  unfold gClear at k
  split at k
  · rename_i n ys e
    obtain ⟨a, us, rfl, ea, ga, e3, t⟩ := lcell_ok w e rv
    simp only [Rps] at rs
    exact ⟨a, us, rfl, rs, e3, put_lst w ea ga Rps.nil rsv_non k⟩
  · exact k.elim
theorem m_extend : MthD X "list.extend" gExtend := by
  refine ⟨_, mtr_of mt_extend, ?_⟩
  intro W io G H cs σ x v xs vs Q w rv rs k
  unfold gExtend at k
  split at k
  · split at k
    · split at k
      · rename_i n ys y e _ zs ez hl
        obtain ⟨a, us, rfl, ea, ga, e3, t⟩ := lcell_ok w e rv
        obtain ⟨z, rfl, rz⟩ := rs.one
        obtain ⟨b, ws, rfl, e4, t4⟩ := lstc_ok w ez rz
        exact ⟨a, b, us, ws, rfl, rfl, e3, e4, by rw [t.length, t4.length]; exact hl, put_lst w ea ga (t.append t4) rsv_non k⟩
      · exact k.elim
    · exact k.elim
  · exact k.elim
theorem m_pop : MthD X "list.pop" gPop := by
  refine ⟨_, mtr_of mt_pop, ?_⟩
  intro W io G H cs σ x v xs vs Q w rv rs k
  unfold gPop at k
  split at k
  · split at k
    · rename_i n ys e _ y ey
      obtain ⟨a, us, rfl, ea, ga, e3, t⟩ := lcell_ok w e rv
      simp only [Rps] at rs
      obtain ⟨z, ez, rz⟩ := t.get ey
      exact ⟨a, us, z, rfl, rs, e3, by rw [t.length]; exact ez, put_lst w ea ga t.dropLast rz k⟩
    · exact k.elim
  · exact k.elim
end
end DL

namespace DL
open PySem L2 PyProof.Rows

/-! ### data that knows no cell from m on -/
mutual
def clo (m : Nat) : P → Prop
  | .tup xs => clos m xs
  | .lst xs => clos m xs
  | .klst xs => clos m xs
  | .dK kvs => cloK m kvs
  | .dT kvs => cloT m kvs
  | .obj _ fs => cloF m fs
  | .cell n => n < m
  | _ => True
def clos (m : Nat) : List P → Prop
  | [] => True
  | x :: r => clo m x ∧ clos m r
def cloK (m : Nat) : List (Key × P) → Prop
  | [] => True
  | (_, x) :: r => clo m x ∧ cloK m r
def cloT (m : Nat) : List (List Key × P) → Prop
  | [] => True
  | (_, x) :: r => clo m x ∧ cloT m r
def cloF (m : Nat) : List (Str × P) → Prop
  | [] => True
  | (_, x) :: r => clo m x ∧ cloF m r
end
def cloC (m : Nat) : CO → Prop
  | .lst xs => clos m xs
  | .dK kvs => cloK m kvs
  | .dT kvs => cloT m kvs
  | .obj _ fs => cloF m fs
  | .dead => True
theorem pre_len_get {α : Type} {l l' : List α} (h : l <+: l') {n : Nat} (hn : n < l.length) {a : α} (e : l'[n]? = some a) : l[n]? = some a := by
  obtain ⟨t, rfl⟩ := h
  rw [List.getElem?_append_left hn] at e
  exact e
section
variable {K : PySem.W.Frag} {io io' : List Addr} {G : Hp}
mutual
theorem Rp.clo : ∀ {x : P} {v : V}, Rp K io G x v → clo io.length x
  | .non, _, _ => by simp only [DL.clo]
  | .bl _, _, _ => by simp only [DL.clo]
  | .int _, _, _ => by simp only [DL.clo]
  | .str _, _, _ => by simp only [DL.clo]
  | .raw _, _, _ => by simp only [DL.clo]
  | .exn _ _, _, _ => by simp only [DL.clo]
  | .cell n, _, h => by
    simp only [Rp, DL.clo] at h ⊢
    obtain ⟨a, e, _⟩ := h
    exact (List.getElem?_eq_some_iff.mp e).1
  | .tup xs, _, h => by
    simp only [Rp, DL.clo] at h ⊢
    obtain ⟨a, vs, _, _, r⟩ := h
    exact Rps.clos r
  | .lst xs, _, h => by
    simp only [Rp, DL.clo] at h ⊢
    obtain ⟨a, vs, _, _, r⟩ := h
    exact Rps.clos r
  | .klst xs, _, h => by
    simp only [Rp, DL.clo] at h ⊢
    obtain ⟨a, vs, _, _, r⟩ := h
    exact Rps.clos r
  | .dK xs, _, h => by
    simp only [Rp, DL.clo] at h ⊢
    obtain ⟨a, vs, _, _, r⟩ := h
    exact RpK.clo r
  | .dT xs, _, h => by
    simp only [Rp, DL.clo] at h ⊢
    obtain ⟨a, vs, _, _, r⟩ := h
    exact RpT.clo r
  | .obj C xs, _, h => by
    simp only [Rp, DL.clo] at h ⊢
    obtain ⟨a, dx, vs, _, _, r⟩ := h
    exact RpF.clo r
theorem Rps.clos : ∀ {xs : List P} {vs : List V}, Rps K io G xs vs → clos io.length xs
  | [], _, _ => by simp only [DL.clos]
  | _ :: _, _, h => by
    simp only [Rps, DL.clos] at h ⊢
    obtain ⟨v, r, _, q, t⟩ := h
    exact ⟨Rp.clo q, Rps.clos t⟩
theorem RpK.clo : ∀ {xs : List (Key × P)} {vs : List (Key × V)}, RpK K io G xs vs → cloK io.length xs
  | [], _, _ => by simp only [DL.cloK]
  | (_, _) :: _, _, h => by
    simp only [RpK, DL.cloK] at h ⊢
    obtain ⟨v, r, _, q, t⟩ := h
    exact ⟨Rp.clo q, RpK.clo t⟩
theorem RpT.clo : ∀ {xs : List (List Key × P)} {vs : List (List Key × V)}, RpT K io G xs vs → cloT io.length xs
  | [], _, _ => by simp only [DL.cloT]
  | (_, _) :: _, _, h => by
    simp only [RpT, DL.cloT] at h ⊢
    obtain ⟨v, r, _, q, t⟩ := h
    exact ⟨Rp.clo q, RpT.clo t⟩
theorem RpF.clo : ∀ {xs : List (Str × P)} {vs : List (Str × V)}, RpF K io G xs vs → cloF io.length xs
  | [], _, _ => by simp only [DL.cloF]
  | (_, _) :: _, _, h => by
    simp only [RpF, DL.cloF] at h ⊢
    obtain ⟨v, r, _, q, t⟩ := h
    exact ⟨Rp.clo q, RpF.clo t⟩
end
mutual
theorem Rp.down (p : io <+: io') : ∀ {x : P} {v : V}, Rp K io' G x v → clo io.length x → Rp K io G x v
  | .non, _, h, _ => by simpa only [Rp] using h
  | .bl _, _, h, _ => by simpa only [Rp] using h
  | .int _, _, h, _ => by simpa only [Rp] using h
  | .str _, _, h, _ => by simpa only [Rp] using h
  | .raw _, _, h, _ => by simpa only [Rp] using h
  | .exn _ _, _, h, _ => by simpa only [Rp] using h
  | .cell n, _, h, c => by
    simp only [Rp, DL.clo] at h c ⊢
    obtain ⟨a, e, q⟩ := h
    exact ⟨a, pre_len_get p c e, q⟩
  | .tup xs, _, h, c => by
    simp only [Rp, DL.clo] at h c ⊢
    obtain ⟨a, vs, e, q, r⟩ := h
    exact ⟨a, vs, e, q, Rps.down p r c⟩
  | .lst xs, _, h, c => by
    simp only [Rp, DL.clo] at h c ⊢
    obtain ⟨a, vs, e, q, r⟩ := h
    exact ⟨a, vs, e, q, Rps.down p r c⟩
  | .klst xs, _, h, c => by
    simp only [Rp, DL.clo] at h c ⊢
    obtain ⟨a, vs, e, q, r⟩ := h
    exact ⟨a, vs, e, q, Rps.down p r c⟩
  | .dK xs, _, h, c => by
    simp only [Rp, DL.clo] at h c ⊢
    obtain ⟨a, vs, e, q, r⟩ := h
    exact ⟨a, vs, e, q, RpK.down p r c⟩
  | .dT xs, _, h, c => by
    simp only [Rp, DL.clo] at h c ⊢
    obtain ⟨a, vs, e, q, r⟩ := h
    exact ⟨a, vs, e, q, RpT.down p r c⟩
  | .obj C xs, _, h, c => by
    simp only [Rp, DL.clo] at h c ⊢
    obtain ⟨a, dx, vs, e, q, r⟩ := h
    exact ⟨a, dx, vs, e, q, RpF.down p r c⟩
theorem Rps.down (p : io <+: io') : ∀ {xs : List P} {vs : List V}, Rps K io' G xs vs → clos io.length xs → Rps K io G xs vs
  | [], _, h, _ => by simpa only [Rps] using h
  | _ :: _, _, h, c => by
    simp only [Rps, DL.clos] at h c ⊢
    obtain ⟨v, r, e, q, t⟩ := h
    exact ⟨v, r, e, Rp.down p q c.1, Rps.down p t c.2⟩
theorem RpK.down (p : io <+: io') : ∀ {xs : List (Key × P)} {vs : List (Key × V)}, RpK K io' G xs vs → cloK io.length xs → RpK K io G xs vs
  | [], _, h, _ => by simpa only [RpK] using h
  | (_, _) :: _, _, h, c => by
    simp only [RpK, DL.cloK] at h c ⊢
    obtain ⟨v, r, e, q, t⟩ := h
    exact ⟨v, r, e, Rp.down p q c.1, RpK.down p t c.2⟩
theorem RpT.down (p : io <+: io') : ∀ {xs : List (List Key × P)} {vs : List (List Key × V)}, RpT K io' G xs vs → cloT io.length xs → RpT K io G xs vs
  | [], _, h, _ => by simpa only [RpT] using h
  | (_, _) :: _, _, h, c => by
    simp only [RpT, DL.cloT] at h c ⊢
    obtain ⟨v, r, e, q, t⟩ := h
    exact ⟨v, r, e, Rp.down p q c.1, RpT.down p t c.2⟩
theorem RpF.down (p : io <+: io') : ∀ {xs : List (Str × P)} {vs : List (Str × V)}, RpF K io' G xs vs → cloF io.length xs → RpF K io G xs vs
  | [], _, h, _ => by simpa only [RpF] using h
  | (_, _) :: _, _, h, c => by
    simp only [RpF, DL.cloF] at h c ⊢
    obtain ⟨v, r, e, q, t⟩ := h
    exact ⟨v, r, e, Rp.down p q c.1, RpF.down p t c.2⟩
end
variable {H : Hp} {a : Addr} {c : CO}
theorem COk.clo (h : COk K io G H a c) : cloC io.length c := by
  cases c with
  | lst xs => exact h.2.choose_spec.2.clos
  | dK xs => exact h.2.choose_spec.2.clo
  | dT xs => exact h.2.choose_spec.2.clo
  | obj C xs => exact h.2.choose_spec.choose_spec.2.clo
  | dead => trivial
theorem COk.down (p : io <+: io') (h : COk K io' G H a c) (q : cloC io.length c) : COk K io G H a c := by
  cases c with
  | lst xs => obtain ⟨g, vs, e, r⟩ := h; exact ⟨g, vs, e, r.down p q⟩
  | dK xs => obtain ⟨g, vs, e, r⟩ := h; exact ⟨g, vs, e, r.down p q⟩
  | dT xs => obtain ⟨g, vs, e, r⟩ := h; exact ⟨g, vs, e, r.down p q⟩
  | obj C xs => obtain ⟨g, dx, vs, e, r⟩ := h; exact ⟨g, dx, vs, e, r.down p q⟩
  | dead => trivial
theorem WOk.clo {cs : Cells} (w : WOk K io G H cs) {n : Nat} {c : CO} (e : cs[n]? = some c) : cloC io.length c := by
  have hn : n < io.length := by rw [w.len]; exact (List.getElem?_eq_some_iff.mp e).1
  exact (w.live n _ c (List.getElem?_eq_getElem hn) e).clo
theorem WOk.down {cs : Cells} (p : io <+: io') (w : WOk K io' G H cs) {cs0 : Cells} (hl : io.length = cs0.length) (pc : cs0 <+: cs) (hc : ∀ (n : Nat) (c : CO), cs0[n]? = some c → cloC io.length c) : WOk K io G H cs0 := by
  refine ⟨w.same, hl, ?_, fun a m => ?_, fun n a c e1 e2 => ?_⟩
  · obtain ⟨t, rfl⟩ := p
    exact (List.nodup_append.mp w.nd).1
  · obtain ⟨t, rfl⟩ := p
    exact w.al a (List.mem_append_left _ m)
  · exact (w.live n a c (pre_get p e1) (pre_get pc e2)).down p (hc n c e2)
theorem Le.down {G' H' : Hp} {io2 : List Addr} (l : Le io G H io2 G' H') : Le io G H io G' H' := ⟨List.prefix_refl _, l.g, l.h, l.gn, fun _ h => .inl h, l.al⟩
end

/-! ### the end of a def's run -/
open Classical in
/-- nothing that was there has changed, what is new is let go -/
noncomputable def exitP (cs : Cells) : Out → Rs P
  | .nx _ c => if cs <+: c then .ok .non cs else .stuck
  | .rt d c => if cs <+: c ∧ clo cs.length d then .ok d cs else .stuck
  | .ex e _ c => if cs <+: c ∧ cloF cs.length e.fs then .ex e cs else .stuck
  | _ => .stuck
/-- all is kept -/
def exitK : Out → Rs P
  | .nx _ c => .ok .non c
  | .rt d c => .ok d c
  | .ex e _ c => .ex e c
  | _ => .stuck
open Classical in
/-- what was there may have changed, what is new is let go -/
noncomputable def exitM (cs : Cells) (o : Out) : Rs P := match exitK o with
  | .ok d c => if cs.length ≤ c.length ∧ clo cs.length d ∧ ∀ (n : Nat) (x : CO), (c.take cs.length)[n]? = some x → cloC cs.length x then .ok d (c.take cs.length) else .stuck
  | .ex e c => if cs.length ≤ c.length ∧ cloF cs.length e.fs ∧ ∀ (n : Nat) (x : CO), (c.take cs.length)[n]? = some x → cloC cs.length x then .ex e (c.take cs.length) else .stuck
  | .stuck => .stuck
/-- a def's slots at its entry -/
def ent (n : Nat) (ds : List P) : Env := ds.map some ++ List.replicate (n - ds.length) none
noncomputable def fnP (n : Nat) (g : DSn) : Fn := fun ds cs => exitP cs (g (ent n ds) cs)
def fnK (n : Nat) (g : DSn) : Fn := fun ds cs => exitK (g (ent n ds) cs)
noncomputable def fnM (n : Nat) (g : DSn) : Fn := fun ds cs => exitM cs (g (ent n ds) cs)
section
variable {K : PySem.W.Frag} {io io' : List Addr} {G G' H H' : Hp} {cs cs' : Cells} {Q : VK} {E : XK} {o : Out}
theorem ExOk.down {e : Ex} {cls : Value} {d : Option Addr} (p : io <+: io') (h : ExOk K io' G e cls d) (c : cloF io.length e.fs) : ExOk K io G e cls d := by
  obtain ⟨e1, h⟩ := h
  refine ⟨e1, ?_⟩
  rcases h with h | ⟨ne, dd, hs, e2, e3, r⟩
  · exact .inl h
  · exact .inr ⟨ne, dd, hs, e2, e3, r.down p c⟩
abbrev EndsC (Q : VK) : Ends := { nx := fun _ H' => Q .non H', rt := Q }
abbrev WC (E : XK) : WX := fun cls d _ H => E cls d H
abbrev QC (K : PySem.W.Frag) (Q : VK) : List Addr → Hp → Hp → Cells → P → Prop := fun io' G' H' _ d => ∀ v, Rp K io' G' d v → Q v H'
theorem rp_non {v : V} (e : v = .non) : Rp K io G .non v := by subst e; simp only [Rp]
theorem exitK_ok {σ : St} (h : AfR K (WC E) io G H σ (QC K Q) (exitK o)) : AfS K none (WC E) (EndsC Q) io G H o := by
  cases o with
  | nx e c => exact fun i g h' s l st => h i g h' l st.w .non (rp_non rfl)
  | rt d c => exact fun i g h' v l w r => h i g h' l w v r
  | ex e en c => exact fun i g h' s cl d l st x => h i g h' cl d l st.w x
  | bk e c => exact h.elim
  | ct e c => exact h.elim
  | stuck => exact h.elim
open Classical in
theorem exitP_ok {σ : St} (w0 : WOk K io G H cs) (h : AfR K (WC E) io G H σ (QC K Q) (exitP cs o)) : AfS K none (WC E) (EndsC Q) io G H o := by
  have hcl : ∀ (n : Nat) (c : CO), cs[n]? = some c → cloC io.length c := fun n c e => w0.clo e
  have len := w0.len
  cases o with
  | nx e c =>
    by_cases p : cs <+: c
    · have h : AfR K (WC E) io G H σ (QC K Q) (if cs <+: c then Rs.ok P.non cs else Rs.stuck) := h
      rw [if_pos p] at h
      exact fun i g h' s l st => h io g h' l.down (st.w.down l.io len p hcl) .non (rp_non rfl)
    · have h : AfR K (WC E) io G H σ (QC K Q) (if cs <+: c then Rs.ok P.non cs else Rs.stuck) := h
      rw [if_neg p] at h
      exact False.elim h
  | rt d c =>
    have h : AfR K (WC E) io G H σ (QC K Q) (if cs <+: c ∧ clo cs.length d then Rs.ok d cs else Rs.stuck) := h
    by_cases p : cs <+: c ∧ clo cs.length d
    · rw [if_pos p] at h
      exact fun i g h' v l w r => h io g h' l.down (w.down l.io len p.1 hcl) v (r.down l.io (by rw [len]; exact p.2))
    · rw [if_neg p] at h
      exact False.elim h
  | ex e en c =>
    have h : AfR K (WC E) io G H σ (QC K Q) (if cs <+: c ∧ cloF cs.length e.fs then Rs.ex e cs else Rs.stuck) := h
    by_cases p : cs <+: c ∧ cloF cs.length e.fs
    · rw [if_pos p] at h
      exact fun i g h' s cl d l st x => h io g h' cl d l.down (st.w.down l.io len p.1 hcl) (x.down l.io (by rw [len]; exact p.2))
    · rw [if_neg p] at h
      exact False.elim h
  | bk e c => exact False.elim h
  | ct e c => exact False.elim h
  | stuck => exact False.elim h
theorem exitM_ok {σ : St} (w0 : WOk K io G H cs) (h : AfR K (WC E) io G H σ (QC K Q) (exitM cs o)) : AfS K none (WC E) (EndsC Q) io G H o := by
  refine exitK_ok (σ := σ) ?_
  have len := w0.len
  unfold exitM at h
  cases e : exitK o with
  | stuck => rw [e] at h; exact h
  | ok d c =>
    rw [e] at h
    dsimp only at h
    split at h
    · rename_i p
      obtain ⟨p1, p2, p3⟩ := p
      intro i g h' l w v r
      exact h io g h' l.down (w.down l.io (by rw [List.length_take, len]; omega) (List.take_prefix _ _) (by rw [len]; exact p3)) v (r.down l.io (by rw [len]; exact p2))
    · exact h.elim
  | ex d c =>
    rw [e] at h
    dsimp only at h
    split at h
    · rename_i p
      obtain ⟨p1, p2, p3⟩ := p
      intro i g h' cl dd l w x
      exact h io g h' cl dd l.down (w.down l.io (by rw [List.length_take, len]; omega) (List.take_prefix _ _) (by rw [len]; exact p3)) (x.down l.io (by rw [len]; exact p2))
    · exact h.elim
end
/-- how a run ends: one of the three -/
def Exits (x : Cells → Out → Rs P) : Prop := ∀ (K : PySem.W.Frag) (io : List Addr) (G H : Hp) (cs : Cells) (Q : VK) (E : XK) (σ : St) (o : Out), WOk K io G H cs → AfR K (WC E) io G H σ (QC K Q) (x cs o) → AfS K none (WC E) (EndsC Q) io G H o
theorem exits_P : Exits exitP := fun _ _ _ _ _ _ _ _ _ w h => exitP_ok w h
theorem exits_K : Exits (fun _ => exitK) := fun _ _ _ _ _ _ _ _ _ w h => exitK_ok h
theorem exits_M : Exits exitM := fun _ _ _ _ _ _ _ _ _ w h => exitM_ok w h

/-! ### a def's promise -/
/-- what is promised: n arguments, the values are data ds, what F makes of them is wished for -/
def spD (K : PySem.W.Frag) (n : Nat) (F : Fn) : Sp := fun vs H Q E => vs.length = n ∧ ∃ io G cs ds, WOk K io G H cs ∧ Rps K io G ds vs ∧ AfR K (WC E) io G H [] (QC K Q) (F ds cs)
theorem AfR.sig {α : Type} {K : PySem.W.Frag} {E : XK} {io : List Addr} {G H : Hp} {σ σ' : St} {k : List Addr → Hp → Hp → Cells → α → Prop} {r : Rs α} (h : AfR K (WC E) io G H σ k r) : AfR K (WC E) io G H σ' k r := by
  cases r with
  | ok a cs => exact h
  | ex e cs => exact h
  | stuck => exact h
theorem slots_rep {K : PySem.W.Frag} {io : List Addr} {G : Hp} : ∀ (n : Nat), Slots K io G (List.replicate n none) (List.replicate n none)
  | 0 => rfl
  | n + 1 => ⟨none, _, rfl, slots_rep n⟩
theorem slots_ent {K : PySem.W.Frag} {io : List Addr} {G : Hp} : ∀ {ds : List P} {vs : List V} {e : Env} {s : St}, Rps K io G ds vs → Slots K io G e s → Slots K io G (ds.map some ++ e) (vs.map some ++ s)
  | [], _, _, _, h, k => by
    simp only [Rps] at h
    subst h
    exact k
  | _ :: _, _, _, _, h, k => by
    simp only [Rps] at h
    obtain ⟨v, r, rfl, q, t⟩ := h
    exact ⟨v, _, rfl, q, slots_ent t k⟩
/-- a def's function object stands, it keeps the promise -/
structure Cal (P : Program) (w : World) (K : PySem.W.Frag) (mg : Str → Option Value) (base : Heap) (k : Nat) (f : Addr) (fd : FuncData) (ps : List Str) (F : Fn) : Prop where
  ok : FnOk P w K mg base (L2.CX P w) k f fd ps (spD K ps.length F)
  kp : PySem.W.keepIn K (.ref f) = true
  bd : Binds K fd ps []
section
variable {P : Program} {w : World} {K : PySem.W.Frag} {mg : Str → Option Value} {base : Heap} {x qual : Str} {params : Arguments} {body : List Stmt} {scope : Scope} {dvs : List V} {kws : List (Str × V)} {f : Addr} {fd : FuncData}
theorem fn_ok {N ps : List Str} {k : Nat} {g : DSn} {ex : Cells → Out → Rs DL.P} (hx : Exits ex) (F : FunD K x qual params body scope dvs kws f fd) (S : FnScope N ps scope)
    (hb : ∀ (cdv : Value) (A : Around) (outer : List PySem.Env) (s : Shared) (H : Hp) (E : XK), Room k (A.deeper (envOfC qual scope s.heap.objs.size f cdv)) → JB (cxOf (L2.CX P w) P w K mg base N qual scope f cdv A outer s H E) (WC E) none body g) :
    FnOk P w K mg base (L2.CX P w) (k + 1) f fd ps (spD K ps.length fun ds cs => ex cs (g (ent N.length ds) cs)) := by
  refine F.ok S (fun vs H Q E h => h.1) fun cdv A outer s H vs Q E hr h => ?_
  obtain ⟨t, a1, a2⟩ := hb cdv A outer s H E hr
  refine ⟨t, a1, ?_⟩
  obtain ⟨hl, io, G, cs, ds, w0, r, k⟩ := h
  refine a2 io G H cs (ent N.length ds) (L2.start N vs) _ ⟨w0, ?_, trivial⟩ (hx K io G H cs Q E [] _ w0 k)
  unfold ent L2.start
  rw [r.length]
  exact slots_ent r (slots_rep _)
end

/-! ### a call -/
def dCall (F : Fn) (fa : DAn) : DEn := fun env cs => (fa env cs).bind fun ds cs => F ds cs
section
variable {X : Cx} {W : WX} {hx : Hx} {e : Expr} {es : List Expr} {fa : DAn} {F : Fn} {k n : Nat} {f : Addr} {fd : FuncData} {ps : List Str} {x : Str} {p pos : Pos}
theorem AfR.toC {α : Type} {K : PySem.W.Frag} {W : WX} {io : List Addr} {G H : Hp} {σ σ' : St} {k : List Addr → Hp → Hp → Cells → α → Prop} {r : Rs α} (h : AfR K W io G H σ k r) : AfR K (WC (WE W σ)) io G H σ' k r := by
  cases r with
  | ok a cs => exact h
  | ex e cs => exact h
  | stuck => exact h
theorem JA_len {ta : TA} (h : PA X es ta) : True := trivial
def DAl (n : Nat) (fa : DAn) : Prop := ∀ env cs ds cs', fa env cs = .ok ds cs' → ds.length = n
theorem al_nil : DAl 0 dNil := fun env cs ds cs' h => by cases h; rfl
theorem al_cons {fe : DEn} (h : DAl n fa) : DAl (n + 1) (dCons fe fa) := fun env cs ds cs' e => by
  unfold dCons Rs.bind at e
  cases q : fe env cs with
  | stuck => rw [q] at e; cases e
  | ex a c => rw [q] at e; cases e
  | ok a c =>
    rw [q] at e
    dsimp only at e
    cases q2 : fa env c with
    | stuck => rw [q2] at e; cases e
    | ex a c => rw [q2] at e; cases e
    | ok b c2 =>
      rw [q2] at e
      cases e
      rw [List.length_cons, h _ _ _ _ q2]
theorem je_call (C : Cal X.prog X.w X.K X.mg X.base k f fd ps F) (tk : Takes X W) (hr : Room k X.A) (hg : Gl X x) (hm : X.mg x = some (.ref f)) (ha : JA X W hx (e :: es) fa) (hl : DAl ps.length fa)
    (hdb : (x == ("__debug__" : Str)) = false := by decide) (he : starEach (e :: es) X.env = (false, eval e X.env) :: starEach es X.env := by rfl) (hpl : (backTo pos (starEach es X.env)).any (·.1) = false := by rfl) : JE X W hx (.Call (.Name x p) (e :: es) [] pos) (dCall F fa) := by
  obtain ⟨t, a1, a2⟩ := ha
  refine ⟨_, pe_callS C.ok hr hg hm C.kp C.bd (fun σ => passAt tk σ) a1 hdb he hpl, ?_⟩
  intro io G H cs env σ Q s h
  refine a2 io G H cs env σ _ s ?_
  unfold dCall at h
  have h1 := AfR.bind h
  have hl1 := hl env cs
  cases q : fa env cs with
  | stuck => rw [q] at h1; exact h1
  | ex a c => rw [q] at h1; exact h1
  | ok ds c =>
    rw [q] at h1
    intro i g h' l w vs r
    exact ⟨by rw [r.length]; exact hl1 _ _ q, i, g, c, ds, w, r, (h1 i g h' l w).toC⟩
theorem pe_callS0 {CX : CXT} {sp : Sp} {E : St → XK} (F : FnOk X.prog X.w X.K X.mg X.base CX k f fd ps sp) (hr : Room k X.A) (hg : Gl X x) (hm : X.mg x = some (.ref f)) (hk : PySem.W.keepIn X.K (.ref f) = true) (hb : Binds X.K fd ps []) (hx : ∀ σ, PassesAt CX X σ (E σ))
    (hdb : (x == ("__debug__" : Str)) = false := by decide) : PE X (.Call (.Name x p) [] [] pos) (tCallS sp E tNil) := by
  refine ⟨fun pins s σ H Q I h => ?_⟩
  refine wpAny_Call_Name_kw (ld_glob I hg hm ?_ hdb)
  exact PySem.W.callWith_K0 I.kIn hk (run_fnS (us := []) F hr hb (hx σ) I .nil h)
theorem je_call0 (C : Cal X.prog X.w X.K X.mg X.base k f fd [] F) (tk : Takes X W) (hr : Room k X.A) (hg : Gl X x) (hm : X.mg x = some (.ref f)) (hdb : (x == ("__debug__" : Str)) = false := by decide) : JE X W hx (.Call (.Name x p) [] [] pos) (dCall F dNil) := by
  refine ⟨_, pe_callS0 C.ok hr hg hm C.kp C.bd (fun σ => passAt tk σ) hdb, ?_⟩
  intro io G H cs env σ Q s h
  exact ⟨rfl, io, G, cs, [], s.w, rfl, AfR.toC h⟩
end

/-! ### a method -/
/-- the fields of an instance of the class at C -/
def insP (C : Addr) (cs : Cells) : P → Option (List (Str × P))
  | .obj D fs => if D = C then some fs else none
  | .cell n => match cs[n]? with
    | some (.obj D fs) => if D = C then some fs else none
    | _ => none
  | _ => none
def dMeC (C : Addr) (m : Str) (F : Fn) (fo : DEn) (fa : DAn) : DEn := fun env cs => (fo env cs).bind fun d cs => match insP C cs d with
  | some fs => (match fs.lookup m with
    | none => (fa env cs).bind fun ds cs => F (d :: ds) cs
    | some _ => .stuck)
  | none => .stuck
theorem RpF.lookup {K : PySem.W.Frag} {io : List Addr} {G : Hp} {m : Str} : ∀ {fs : List (Str × P)} {hs : List (Str × V)}, RpF K io G fs hs → fs.lookup m = none → hs.lookup m = none
  | [], _, h, _ => by
    simp only [RpF] at h
    subst h
    rfl
  | (k, x) :: r, _, h, e => by
    simp only [RpF] at h
    obtain ⟨v, t, rfl, _, q⟩ := h
    rw [List.lookup_cons] at e ⊢
    cases b : m == k with
    | true => rw [b] at e; cases e
    | false => rw [b] at e; exact RpF.lookup q e
theorem insP_ok {K : PySem.W.Frag} {io : List Addr} {G H : Hp} {cs : Cells} {C : Addr} {d : P} {v : V} {fs : List (Str × P)} (w : WOk K io G H cs) (r : Rp K io G d v) (h : insP C cs d = some fs) : ∃ a dx hs, v = .ref a ∧ H a = some (.ins C dx hs) ∧ RpF K io G fs hs := by
  unfold insP at h
  split at h
  · split at h
    · rename_i D gs e
      subst e
      injection h with h
      subst h
      simp only [Rp] at r
      obtain ⟨a, dx, hs, e1, e2, e3⟩ := r
      exact ⟨a, dx, hs, e1, w.same _ _ e2, e3⟩
    · cases h
  · rename_i n
    simp only [Rp] at r
    obtain ⟨a, ea, rfl⟩ := r
    split at h
    · rename_i D gs ec
      split at h
      · rename_i e
        subst e
        injection h with h
        subst h
        obtain ⟨_, dx, hs, e1, e2⟩ := w.live n a _ ea ec
        exact ⟨a, dx, hs, rfl, e1, e2⟩
      · cases h
    · cases h
  · cases h
theorem Le.new {io io' : List Addr} {G H G' H' : Hp} (l : Le io G H io' G' H') {p : Addr} (n : H' p = none) : H p = none := by
  cases q : H p with
  | none => rfl
  | some o => exact absurd n (l.al p (by rw [q]; simp))
section
variable {X : Cx} {W : WX} {hx : Hx} {o e : Expr} {es : List Expr} {fo : DEn} {fa : DAn} {F : Fn} {k n : Nat} {C f : Addr} {fd : FuncData} {ps : List Str} {x m : Str} {p pos apos : Pos}
def tMethW (C : Addr) (m : Str) (sp : Sp) (E : St → XK) (ta : TE) (t : TA) : TE := fun σ H Q => ta σ H fun x H1 => ∃ a dx fs, x = .ref a ∧ H1 a = some (.ins C dx fs) ∧ fs.lookup m = none ∧ t σ H1 fun vs H2 => sp (x :: vs) H2 Q (E σ)
theorem pe_methW {CX : CXT} {sp : Sp} {E : St → XK} {ta : TE} {t : TA} {pl : Sem Bool} (he : PE X o ta) (c : Cls X.K C) (hm : Meth X.K C m f) (F : FnOk X.prog X.w X.K X.mg X.base CX k f fd ps sp) (hr : Room k X.A) (hb : Binds X.K fd ps []) (hx : ∀ σ, PassesAt CX X σ (E σ)) (ha : PA X (e :: es) t)
    (hst : starEach (e :: es) X.env = (false, eval e X.env) :: starEach es X.env := by rfl) (hpl : (backTo pos (starEach es X.env)).any (·.1) = false := by rfl)
    (ht : eval (.Call (.Attribute o m apos) (e :: es) [] pos) X.env = (do
      let ov ← eval o X.env
      standAt apos.atName
      let (f, first) ← holding [ov] (getMethod ov m pl)
      callWith pos f first (backTo pos (starEach (e :: es) X.env)) (backToKw pos (keywordEach [] X.env))) := by rfl) :
    PE X (.Call (.Attribute o m apos) (e :: es) [] pos) (tMethW C m sp E ta t) := by
  refine ⟨fun pins s σ H Q I h => ?_⟩
  refine PySem.W.methodCall_KW (pl := pl) (thn (he.run pins s σ H _ I h) fun u s1 ⟨x, H1, I1, rx, a, dx, fs, ex, ea, l, q⟩ => ?_) ht
  subst ex
  obtain rfl : u = Value.ref a := rx
  refine getmeth_ok I1 ea c hm l ?_
  refine PySem.W.callWith_K (first := [.ref a]) (h₀ := X.base) I.ok.mod.kin hm.kp (thn (ha.run pos pins s1 σ H1 _ I1 q) fun us s2 ⟨vs, H2, I2, r, q2⟩ => ⟨I2.kIn, ?_⟩) hst hpl
  exact run_fnS (us := .ref a :: us) (vs := .ref a :: vs) F hr hb (hx σ) I2 (.cons rfl r) q2
theorem pe_methW0 {CX : CXT} {sp : Sp} {E : St → XK} {ta : TE} {pl : Sem Bool} (he : PE X o ta) (c : Cls X.K C) (hm : Meth X.K C m f) (F : FnOk X.prog X.w X.K X.mg X.base CX k f fd ps sp) (hr : Room k X.A) (hb : Binds X.K fd ps []) (hx : ∀ σ, PassesAt CX X σ (E σ))
    (ht : eval (.Call (.Attribute o m apos) [] [] pos) X.env = (do
      let ov ← eval o X.env
      standAt apos.atName
      let (f, first) ← holding [ov] (getMethod ov m pl)
      callWith pos f first (backTo pos (starEach [] X.env)) (backToKw pos (keywordEach [] X.env))) := by rfl) :
    PE X (.Call (.Attribute o m apos) [] [] pos) (tMethW C m sp E ta tNil) := by
  refine ⟨fun pins s σ H Q I h => ?_⟩
  refine PySem.W.methodCall_KW (pl := pl) (thn (he.run pins s σ H _ I h) fun u s1 ⟨x, H1, I1, rx, a, dx, fs, ex, ea, l, q⟩ => ?_) ht
  subst ex
  obtain rfl : u = Value.ref a := rx
  refine getmeth_ok I1 ea c hm l ?_
  exact PySem.W.callWith_K0 (first := [.ref a]) I1.kIn hm.kp (run_fnS (us := [.ref a]) (vs := [.ref a]) F hr hb (hx σ) I1 (.cons rfl .nil) q)
theorem meth_d {ta : TE} {t : TA} (hl : DAl n fa) (hn : ps.length = n + 1) (a2 : DE X.K hx W ta fo) (b2 : DA X.K hx W t fa) : DE X.K hx W (tMethW C m (spD X.K ps.length F) (WE W) ta t) (dMeC C m F fo fa) := by
  intro io G H cs env σ Q s h
  refine a2 io G H cs env σ _ s ?_
  have h1 := AfR.bind (show AfR X.K W io G H σ _ ((fo env cs).bind _) from h)
  cases q : fo env cs with
  | stuck => rw [q] at h1; exact h1
  | ex a c => rw [q] at h1; exact h1
  | ok d c =>
    rw [q] at h1
    intro i g h' l w v r
    have h2 := h1 i g h' l w
    try dsimp only at h2
    cases ei : insP C c d with
    | none => rw [ei] at h2; exact False.elim h2
    | some fs =>
      rw [ei] at h2
      dsimp only at h2
      cases em : fs.lookup m with
      | some u => rw [em] at h2; exact False.elim h2
      | none =>
        rw [em] at h2
        dsimp only at h2
        obtain ⟨a, dx, hs, rfl, e1, e2⟩ := insP_ok w r ei
        refine ⟨a, dx, hs, rfl, e1, e2.lookup em, ?_⟩
        refine b2 i g h' c env σ _ (s.to l w) ?_
        have h3 := AfR.bind h2
        have hl1 := hl env c
        cases q2 : fa env c with
        | stuck => rw [q2] at h3; exact h3
        | ex a c => rw [q2] at h3; exact h3
        | ok ds c2 =>
          rw [q2] at h3
          intro i2 g2 h2' l2 w2 vs r2
          refine ⟨by rw [List.length_cons, r2.length, hl1 _ _ q2, hn], i2, g2, c2, d :: ds, w2, ?_, (h3 i2 g2 h2' l2 w2).toC⟩
          simp only [Rps]
          exact ⟨_, _, rfl, r.mono l2.io l2.g, r2⟩
theorem je_meC {pl : Sem Bool} (c : Cls X.K C) (hm : Meth X.K C m f) (D : Cal X.prog X.w X.K X.mg X.base k f fd ps F) (tk : Takes X W) (hr : Room k X.A) (he : JE X W hx o fo) (ha : JA X W hx (e :: es) fa) (hl : DAl n fa) (hn : ps.length = n + 1 := by rfl)
    (hst : starEach (e :: es) X.env = (false, eval e X.env) :: starEach es X.env := by rfl) (hpl : (backTo pos (starEach es X.env)).any (·.1) = false := by rfl)
    (ht : eval (.Call (.Attribute o m apos) (e :: es) [] pos) X.env = (do
      let ov ← eval o X.env
      standAt apos.atName
      let (f, first) ← holding [ov] (getMethod ov m pl)
      callWith pos f first (backTo pos (starEach (e :: es) X.env)) (backToKw pos (keywordEach [] X.env))) := by rfl) :
    JE X W hx (.Call (.Attribute o m apos) (e :: es) [] pos) (dMeC C m F fo fa) := by
  obtain ⟨t, a1, a2⟩ := he
  obtain ⟨u, b1, b2⟩ := ha
  exact ⟨_, pe_methW a1 c hm D.ok hr D.bd (fun σ => passAt tk σ) b1 hst hpl ht, meth_d hl hn a2 b2⟩
theorem je_meC0 {pl : Sem Bool} (c : Cls X.K C) (hm : Meth X.K C m f) (D : Cal X.prog X.w X.K X.mg X.base k f fd ps F) (tk : Takes X W) (hr : Room k X.A) (he : JE X W hx o fo) (hn : ps.length = 1 := by rfl)
    (ht : eval (.Call (.Attribute o m apos) [] [] pos) X.env = (do
      let ov ← eval o X.env
      standAt apos.atName
      let (f, first) ← holding [ov] (getMethod ov m pl)
      callWith pos f first (backTo pos (starEach [] X.env)) (backToKw pos (keywordEach [] X.env))) := by rfl) :
    JE X W hx (.Call (.Attribute o m apos) [] [] pos) (dMeC C m F fo dNil) := by
  obtain ⟨t, a1, a2⟩ := he
  obtain ⟨u, b1, b2⟩ := (ja_nil : JA X W hx [] dNil)
  refine ⟨_, pe_methW0 a1 c hm D.ok hr D.bd (fun σ => passAt tk σ) ht, meth_d al_nil hn a2 ?_⟩
  intro io G H cs env σ Q s h
  exact AfR.ok h s.w [] (by simp only [Rps])
end

/-! ### a new instance -/
open Classical in
/-- the cells behind cs are let go, but the first of them, which is told apart -/
noncomputable def splitC (cs : Cells) (r : Rs P) : Rs CO := match r with
  | .ok .non c => (match c[cs.length]? with
    | some x => if cs.length < c.length ∧ x ≠ .dead ∧ cloC cs.length x ∧ ∀ (n : Nat) (y : CO), (c.take cs.length)[n]? = some y → cloC cs.length y then .ok x (c.take cs.length) else .stuck
    | none => .stuck)
  | .ex e c => if cs <+: c ∧ cloF cs.length e.fs then .ex e cs else .stuck
  | _ => .stuck
noncomputable def dMake (C : Addr) (F : Fn) (fa : DAn) : DFn := fun env cs => (fa env cs).bind fun ds cs => splitC cs (F (.cell cs.length :: ds) (cs ++ [.obj C []]))
open Classical in
/-- .. or it stays a cell -/
noncomputable def heldC (cs : Cells) (r : Rs P) : Rs P := match r with
  | .ok .non c => .ok (.cell cs.length) c
  | .ex e c => if cs <+: c ∧ cloF cs.length e.fs then .ex e cs else .stuck
  | _ => .stuck
noncomputable def dMakeC (C : Addr) (F : Fn) (fa : DAn) : DEn := fun env cs => (fa env cs).bind fun ds cs => heldC cs (F (.cell cs.length :: ds) (cs ++ [.obj C []]))
section
variable {K : PySem.W.Frag} {io : List Addr} {G H : Hp} {cs : Cells} {C x dx : Addr}
theorem WOk.newIns (w : WOk K io G H cs) (h1 : H x = none) (h2 : H dx = none) (ne : dx ≠ x) : WOk K (io ++ [x]) G (upd (upd H dx (.own x)) x (.ins C dx [])) (cs ++ [.obj C []]) := by
  have n1 : upd H dx (.own x) x = none := by rw [upd_ne fun z => ne z.symm]; exact h1
  have w2 := (w.lay (o := .own x) h2).lay (o := .ins C dx []) n1
  exact w2.cell (w.free h1).2 ⟨(w.free h1).1, dx, [], upd_same, by simp only [RpF]⟩ (by rw [upd_same]; simp)
theorem Le.newIns (h1 : H x = none) (h2 : H dx = none) (ne : dx ≠ x) : Le io G H (io ++ [x]) G (upd (upd H dx (.own x)) x (.ins C dx [])) := by
  have n1 : upd H dx (.own x) x = none := by rw [upd_ne fun z => ne z.symm]; exact h1
  exact ((Le.lay (o := .own x) h2).trans (Le.lay (o := .ins C dx []) n1)).cellNew h1
end
section
variable {X : Cx} {W : WX} {hx : Hx} {e : Expr} {es : List Expr} {fa : DAn} {F : Fn} {k n : Nat} {C f : Addr} {fd : FuncData} {ps : List Str} {x : Str} {p pos : Pos}
def tMakeS (C : Addr) (sp : Sp) (E : St → XK) (t : TA) : TE := fun σ H Q => t σ H fun vs H1 => ∀ x dx, H1 x = none → H1 dx = none → dx ≠ x → sp (.ref x :: vs) (upd (upd H1 dx (.own x)) x (.ins C dx [])) (fun v H2 => v = .non ∧ Q (.ref x) H2) (E σ)
theorem run_makeS {CX : CXT} {sp : Sp} {E : St → XK} {pins : List (Addr × Obj)} {σ : St} {H : Hp} {s : Shared} {Q : VK} {us : List Value} {vs : List V} (M : Mk X.K C f) (F : FnOk X.prog X.w X.K X.mg X.base CX k f fd ps sp) (hr : Room (k + 1) X.A) (hb : Binds X.K fd ps [])
    (hx : PassesAt CX X σ (E σ)) (I : Inv X pins σ H s) (r : Vals vs us)
    (h : ∀ x dx, H x = none → H dx = none → dx ≠ x → sp (.ref x :: vs) (upd (upd H dx (.own x)) x (.ins C dx [])) (fun v H2 => v = .non ∧ Q (.ref x) H2) (E σ)) :
    wpAny (model X.prog X.w) X.A (call (.ref C) us) (EP X pins σ Q) X.xe s := by
  have hq := h (s.heap.objs.size + 1) s.heap.objs.size (I.hok.fresh (Nat.le_succ _)) (I.hok.fresh (Nat.le_refl _)) (Nat.ne_of_lt (Nat.lt_succ_self _))
  have I2 := Inv.made (C := C) I
  have r2 : Vals (V.ref (s.heap.objs.size + 1) :: vs) (Value.ref (s.heap.objs.size + 1) :: us) := .cons rfl r
  have hl : (Value.ref (s.heap.objs.size + 1) :: us).length = ps.length := by
    have e := r2.length
    rw [F.len _ _ _ _ hq] at e
    exact e.symm
  have b := hb _ (Value.ref (s.heap.objs.size + 1) :: us) I2.kIn (by rw [List.append_nil]; exact hl)
  rw [List.append_nil] at b
  refine wpAny_call (make_map (f := f) I.kIn M.makes M.init (beq_iff_eq.mp M.fn) (codeAny_mono (F.run _ X.stack _ _ ⟨Value.ref (s.heap.objs.size + 1) :: us, []⟩ (Value.ref (s.heap.objs.size + 1) :: us) _ _ (E σ) (hr.make C us [])
    (I2.env0.make C us []) b r2 hq) fun r s' hq' => ?_))
  cases r with
  | error e => exact hx pins _ _ e s' I2 hq'
  | ok fl =>
    cases fl with
    | ret u =>
      obtain ⟨v, H', I3, rv, ev, q3⟩ := I2.after hq'
      subst ev
      exact ⟨rv, ⟨V.ref (s.heap.objs.size + 1), H', I3, rfl, q3⟩⟩
    | next => exact False.elim hq'
    | brk => exact False.elim hq'
    | cont => exact False.elim hq'
theorem pe_makeS {CX : CXT} {sp : Sp} {E : St → XK} {t : TA} (M : Mk X.K C f) (F : FnOk X.prog X.w X.K X.mg X.base CX k f fd ps sp) (hr : Room (k + 1) X.A) (hg : Gl X x) (hm : X.mg x = some (.ref C)) (hb : Binds X.K fd ps []) (hx : ∀ σ, PassesAt CX X σ (E σ))
    (ha : PA X (e :: es) t) (hdb : (x == ("__debug__" : Str)) = false := by decide) (he : starEach (e :: es) X.env = (false, eval e X.env) :: starEach es X.env := by rfl) (hpl : (backTo pos (starEach es X.env)).any (·.1) = false := by rfl) :
    PE X (.Call (.Name x p) (e :: es) [] pos) (tMakeS C sp E t) := by
  refine ⟨fun pins s σ H Q I h => ?_⟩
  refine wpAny_Call_Name_kw (ld_glob I hg hm ?_ hdb)
  refine PySem.W.callWith_K (h₀ := X.base) I.ok.mod.kin M.kp (thn (ha.run pos pins s σ H _ I h) fun us s1 ⟨vs, H1, I1, r, q⟩ => ⟨I1.kIn, ?_⟩) he hpl
  exact run_makeS M F hr hb (hx σ) I1 r q
open Classical in
theorem jf_make (M : Mk X.K C f) (D : Cal X.prog X.w X.K X.mg X.base k f fd ps F) (tk : Takes X W) (hr : Room (k + 1) X.A) (hg : Gl X x) (hm : X.mg x = some (.ref C)) (ha : JA X W hx (e :: es) fa) (hl : DAl n fa) (hn : ps.length = n + 1 := by rfl)
    (hdb : (x == ("__debug__" : Str)) = false := by decide) (he : starEach (e :: es) X.env = (false, eval e X.env) :: starEach es X.env := by rfl) (hpl : (backTo pos (starEach es X.env)).any (·.1) = false := by rfl) :
    JF X W hx (.Call (.Name x p) (e :: es) [] pos) (dMake C F fa) := by
  obtain ⟨t, a1, a2⟩ := ha
  refine ⟨_, pe_makeS M D.ok hr hg hm D.bd (fun σ => passAt tk σ) a1 hdb he hpl, ?_⟩
  intro io G H cs env σ Q s h
  refine a2 io G H cs env σ _ s ?_
  have h1 := AfR.bind (show AfR X.K W io G H σ _ ((fa env cs).bind _) from h)
  have hl1 := hl env cs
  cases q : fa env cs with
  | stuck => rw [q] at h1; exact h1
  | ex a c => rw [q] at h1; exact h1
  | ok ds c =>
    rw [q] at h1
    intro i g h' l w vs r x dx n1 n2 ne
    have h2 := h1 i g h' l w
    try dsimp only at h2
    have hlen := w.len
    have l2 := Le.newIns (io := i) (G := g) (C := C) n1 n2 ne
    refine ⟨by rw [List.length_cons, r.length, hl1 _ _ q, hn], i ++ [x], g, c ++ [.obj C []], .cell c.length :: ds, w.newIns n1 n2 ne, ?_, ?_⟩
    · simp only [Rps]
      refine ⟨_, _, rfl, ?_, r.mono (List.prefix_append _ _) (fun _ _ h => h)⟩
      simp only [Rp]
      exact ⟨x, by rw [← hlen]; simp, rfl⟩
    · have hcl : ∀ (n : Nat) (y : CO), c[n]? = some y → cloC i.length y := fun n y e => w.clo e
      cases eF : F (.cell c.length :: ds) (c ++ [.obj C []]) with
      | stuck => rw [eF] at h2; exact h2
      | ok d c2 =>
        rw [eF] at h2
        intro i3 g3 h3 l3 w3 v rv
        have hp : i <+: i3 := (List.prefix_append _ _).trans l3.io
        have hx3 : i3[i.length]? = some x := pre_get l3.io (by simp)
        cases d with
        | non =>
          have h2 : AfR X.K W i g h' σ _ (match c2[c.length]? with
            | some x => (if c.length < c2.length ∧ x ≠ .dead ∧ cloC c.length x ∧ ∀ (n : Nat) (y : CO), (c2.take c.length)[n]? = some y → cloC c.length y then Rs.ok x (c2.take c.length) else .stuck : Rs CO)
            | none => .stuck) := h2
          cases ec : c2[c.length]? with
          | none => rw [ec] at h2; exact False.elim h2
          | some y =>
            rw [ec] at h2
            dsimp only at h2
            split at h2
            · rename_i pp
              obtain ⟨p1, p2, p3, p4⟩ := pp
              refine ⟨by simpa only [Rp] using rv, ?_⟩
              have lf : Le i g h' i3 g3 h3 := l2.trans l3
              have w4 := w3.down hp (cs0 := c2.take c.length) (by rw [List.length_take, hlen]; omega) (List.take_prefix _ _) (by rw [hlen]; exact p4)
              have cok := w3.live i.length x y hx3 (by rw [hlen]; exact ec)
              refine h2 i g3 h3 lf.down w4 x (l.new n1) (w.free n1).2 (w3.al x (List.mem_of_getElem? hx3)) (cok.down hp (by rw [hlen]; exact p3)) p2
            · exact False.elim h2
        | _ => exact False.elim h2
      | ex e2 c2 =>
        rw [eF] at h2
        intro i3 g3 h3 cl d l3 w3 x3
        have h2 : AfR X.K W i g h' σ _ (if c <+: c2 ∧ cloF c.length e2.fs then (Rs.ex e2 c : Rs CO) else .stuck) := h2
        split at h2
        · rename_i pp
          have hp : i <+: i3 := (List.prefix_append _ _).trans l3.io
          have lf : Le i g h' i3 g3 h3 := l2.trans l3
          exact h2 i g3 h3 cl d lf.down (w3.down hp hlen pp.1 hcl) (x3.down hp (by rw [hlen]; exact pp.2))
        · exact False.elim h2
open Classical in
theorem je_makeC (M : Mk X.K C f) (D : Cal X.prog X.w X.K X.mg X.base k f fd ps F) (tk : Takes X W) (hr : Room (k + 1) X.A) (hg : Gl X x) (hm : X.mg x = some (.ref C)) (ha : JA X W hx (e :: es) fa) (hl : DAl n fa) (hn : ps.length = n + 1 := by rfl)
    (hdb : (x == ("__debug__" : Str)) = false := by decide) (he : starEach (e :: es) X.env = (false, eval e X.env) :: starEach es X.env := by rfl) (hpl : (backTo pos (starEach es X.env)).any (·.1) = false := by rfl) :
    JE X W hx (.Call (.Name x p) (e :: es) [] pos) (dMakeC C F fa) := by
  obtain ⟨t, a1, a2⟩ := ha
  refine ⟨_, pe_makeS M D.ok hr hg hm D.bd (fun σ => passAt tk σ) a1 hdb he hpl, ?_⟩
  intro io G H cs env σ Q s h
  refine a2 io G H cs env σ _ s ?_
  have h1 := AfR.bind (show AfR X.K W io G H σ _ ((fa env cs).bind _) from h)
  have hl1 := hl env cs
  cases q : fa env cs with
  | stuck => rw [q] at h1; exact h1
  | ex a c => rw [q] at h1; exact h1
  | ok ds c =>
    rw [q] at h1
    intro i g h' l w vs r x dx n1 n2 ne
    have h2 := h1 i g h' l w
    try dsimp only at h2
    have hlen := w.len
    have l2 := Le.newIns (io := i) (G := g) (C := C) n1 n2 ne
    refine ⟨by rw [List.length_cons, r.length, hl1 _ _ q, hn], i ++ [x], g, c ++ [.obj C []], .cell c.length :: ds, w.newIns n1 n2 ne, ?_, ?_⟩
    · simp only [Rps]
      refine ⟨_, _, rfl, ?_, r.mono (List.prefix_append _ _) (fun _ _ h => h)⟩
      simp only [Rp]
      exact ⟨x, by rw [← hlen]; simp, rfl⟩
    · have hcl : ∀ (n : Nat) (y : CO), c[n]? = some y → cloC i.length y := fun n y e => w.clo e
      cases eF : F (.cell c.length :: ds) (c ++ [.obj C []]) with
      | stuck => rw [eF] at h2; exact h2
      | ok d c2 =>
        rw [eF] at h2
        intro i3 g3 h3 l3 w3 v rv
        have hx3 : i3[i.length]? = some x := pre_get l3.io (by simp)
        cases d with
        | non =>
          refine ⟨by simpa only [Rp] using rv, ?_⟩
          refine h2 i3 g3 h3 (l2.trans l3) w3 (.ref x) ?_
          simp only [Rp]
          exact ⟨x, by rw [← hlen]; exact hx3, rfl⟩
        | _ => exact False.elim h2
      | ex e2 c2 =>
        rw [eF] at h2
        intro i3 g3 h3 cl d l3 w3 x3
        have h2 : AfR X.K W i g h' σ _ (if c <+: c2 ∧ cloF c.length e2.fs then (Rs.ex e2 c : Rs P) else .stuck) := h2
        split at h2
        · rename_i pp
          have hp : i <+: i3 := (List.prefix_append _ _).trans l3.io
          have lf : Le i g h' i3 g3 h3 := l2.trans l3
          exact h2 i g3 h3 cl d lf.down (w3.down hp hlen pp.1 hcl) (x3.down hp (by rw [hlen]; exact pp.2))
        · exact False.elim h2
end
end DL

namespace DL
open PySem L2 PyProof.Rows
/-! ### terms that hang on nothing but the reading -/
def cE (K : PySem.W.Frag) (hx : Hx) (W : WX) (f : DEn) : TE := fun σ H Q => ∃ io G cs env, Sta K hx io G H cs env σ ∧ AfR K W io G H σ (fun io' G' H' _ d => ∀ v, Rp K io' G' d v → Q v H') (f env cs)
def cT (K : PySem.W.Frag) (hx : Hx) (W : WX) (f : DTn) : TT := fun σ H Q => ∃ io G cs env, Sta K hx io G H cs env σ ∧ AfR K W io G H σ (fun _ _ H' _ b => Q b H') (f env cs)
def cS (K : PySem.W.Frag) (hx : Hx) (W : WX) (f : DSn) : TS := fun D σ H => ∃ io G cs env, Sta K hx io G H cs env σ ∧ AfS K hx W D io G H (f env cs)
section
variable {X : Cx} {W : WX} {hx : Hx} {e : Expr} {b : List Stmt} {f : DEn} {ft : DTn} {fs : DSn}
theorem pe_c (h : JE X W hx e f) : PE X e (cE X.K hx W f) := by
  obtain ⟨t, a1, a2⟩ := h
  exact ⟨fun pins s σ H Q I ⟨io, G, cs, env, s0, k⟩ => a1.run pins s σ H Q I (a2 io G H cs env σ Q s0 k)⟩
theorem pt_c (h : JT X W hx e ft) : PT X e (cT X.K hx W ft) := by
  obtain ⟨t, a1, a2⟩ := h
  exact ⟨fun pins s σ H Q I ⟨io, G, cs, env, s0, k⟩ => a1.run pins s σ H Q I (a2 io G H cs env σ Q s0 k)⟩
theorem pss_c (h : JB X W hx b fs) : PSs X b (cS X.K hx W fs) := by
  obtain ⟨t, a1, a2⟩ := h
  exact ⟨fun pins s σ H D I ⟨io, G, cs, env, s0, k⟩ => a1.run pins s σ H D I (a2 io G H cs env σ D s0 k)⟩
end
abbrev W0 : WX := fun _ _ _ _ => False

/-! ### comprehensions -/
def wipeE (env : Env) : List Nat → Env
  | [] => env
  | v :: vs => (wipeE env vs).set v none
section
variable {K : PySem.W.Frag} {io : List Addr} {G H : Hp} {cs : Cells} {env : Env} {σ : St}
theorem Slots.setN : ∀ {env : Env} {σ : St} (i : Nat), Slots K io G env σ → Slots K io G (env.set i none) (σ.set i none)
  | [], _, _, h => by
    have e : _ = [] := h
    subst e; rfl
  | none :: _, _, 0, ⟨_, r, e, t⟩ => by subst e; exact ⟨none, r, rfl, t⟩
  | some _ :: _, _, 0, ⟨_, r, e, _, t⟩ => by subst e; exact ⟨none, r, rfl, t⟩
  | none :: _, _, i + 1, ⟨w, r, e, t⟩ => by subst e; exact ⟨w, _, rfl, Slots.setN i t⟩
  | some _ :: _, _, i + 1, ⟨w, r, e, q', t⟩ => by subst e; exact ⟨w, _, rfl, q', Slots.setN i t⟩
theorem Slots.wipe (h : Slots K io G env σ) : ∀ T : List Nat, Slots K io G (wipeE env T) (L2.wipe σ T)
  | [] => h
  | _ :: T => (Slots.wipe h T).setN _
theorem wipe_set : ∀ (T : List Nat) (σ : St) (i : Nat) (v : Option V), i ∈ T → L2.wipe (σ.set i v) T = L2.wipe σ T
  | [], _, _, _, h => by cases h
  | t :: T, σ, i, v, h => by
    show (L2.wipe (σ.set i v) T).set t none = (L2.wipe σ T).set t none
    by_cases e : i ∈ T
    · rw [wipe_set T σ i v e]
    · have et : i = t := by
        rcases List.mem_cons.mp h with h | h
        · exact h
        · exact absurd h e
      subst et
      rw [wipe_ne T σ i v e]
      rw [List.set_set]
where wipe_ne : ∀ (T : List Nat) (σ : St) (i : Nat) (v : Option V), i ∉ T → L2.wipe (σ.set i v) T = (L2.wipe σ T).set i v
  | [], _, _, _, _ => rfl
  | t :: T, σ, i, v, h => by
    have h1 : i ≠ t := fun e => h (by rw [e]; exact List.mem_cons_self)
    have h2 : i ∉ T := fun e => h (List.mem_cons_of_mem _ e)
    show (L2.wipe (σ.set i v) T).set t none = ((L2.wipe σ T).set t none).set i v
    rw [wipe_ne T σ i v h2, List.set_comm _ _ h1]
theorem wipe_wipe (T : List Nat) (σ : St) : L2.wipe (L2.wipe σ T) T = L2.wipe σ T := by
  suffices h : ∀ (S : List Nat) (τ : St), (∀ i ∈ S, i ∈ T) → L2.wipe (L2.wipe τ S) T = L2.wipe τ T from h T σ fun _ h => h
  intro S
  induction S with
  | nil => exact fun _ _ => rfl
  | cons s S ih =>
    intro τ h
    show L2.wipe ((L2.wipe τ S).set s none) T = _
    rw [wipe_set T _ s none (h s List.mem_cons_self), ih τ fun i hi => h i (List.mem_cons_of_mem _ hi)]
end
/-- a comprehension's target: it touches the block's own names alone -/
def DGw (K : PySem.W.Frag) (T : List Nat) (t : TG) (g : DGn) : Prop := ∀ io G H cs env σ d v Q env', Sta K none io G H cs env σ → Rp K io G d v → g d env cs = some env' → (∀ σ', Sta K none io G H cs env' σ' → L2.wipe σ' T = L2.wipe σ T → Q σ' H) → t v σ H Q
def DGsw (K : PySem.W.Frag) (T : List Nat) (t : TGs) (g : List P → Env → Cells → Option Env) : Prop := ∀ io G H cs env σ ds vs Q env', Sta K none io G H cs env σ → Rps K io G ds vs → g ds env cs = some env' → (∀ σ', Sta K none io G H cs env' σ' → L2.wipe σ' T = L2.wipe σ T → Q σ' H) → t vs σ H Q
def cG (K : PySem.W.Frag) (T : List Nat) (g : DGn) : TG := fun v σ H Q => ∃ io G cs env d env', Sta K none io G H cs env σ ∧ Rp K io G d v ∧ g d env cs = some env' ∧ (∀ σ', Sta K none io G H cs env' σ' → L2.wipe σ' T = L2.wipe σ T → Q σ' H)
section
variable {X : Cx} {W : WX} {hx : Hx} {e : Expr} {es : List Expr} {g : DGn} {gg : List P → Env → Cells → Option Env} {pos : Pos} {x : Str} {T : List Nat}
variable (X T) in
def JGw (tg : Expr) (g : DGn) : Prop := ∃ t, PG X tg t ∧ DGw X.K T t g
variable (X T) in
def JGsw (tg : List Expr) (g : List P → Env → Cells → Option Env) : Prop := ∃ t, PGs X tg t ∧ DGsw X.K T t g
theorem pg_c (h : JGw X T e g) : PG X e (cG X.K T g) := by
  obtain ⟨t, a1, a2⟩ := h
  exact ⟨fun pins s σ H v u Q I r ⟨io, G, cs, env, d, env', s0, rd, eg, k⟩ => a1.run pins s σ H v u Q I r (a2 _ _ _ _ _ _ _ _ _ _ s0 rd eg k)⟩
theorem jw_name (i : Nat) (hT : i ∈ T) (hN : X.N.Nodup) (hi : X.N[i]? = some x) (hl : Loc X.env.scope x)
    (hf : X.fn x = true ∨ X.env.scope.names.lookup x = some .local := by first | exact .inl rfl | exact .inr rfl | assumption) : JGw X T (.Name x pos) (gNm i) := by
  refine ⟨_, pg_name hN hi hl hf, ?_⟩
  intro io G H cs env σ d v Q env' s r e k
  cases e
  exact k _ (s.set i (fun _ h => nomatch h) r) (wipe_set T σ i _ hT)
theorem jws_nil : JGsw X T [] gsNil := by
  refine ⟨_, pgs_nil, ?_⟩
  intro io G H cs env σ ds vs Q env' s r e k
  unfold gsNil at e
  split at e
  · cases e
    simp only [Rps] at r
    exact ⟨r, k _ s rfl⟩
  · cases e
theorem jws_cons (h : JGw X T e g) (h' : JGsw X T es gg) (hs : (assignEach (e :: es) X.env).map (·.2) = assign e X.env :: (assignEach es X.env).map (·.2) := by rfl) : JGsw X T (e :: es) (gsCons g gg) := by
  obtain ⟨t, a1, a2⟩ := h
  obtain ⟨u, b1, b2⟩ := h'
  refine ⟨_, pgs_cons a1 b1 hs, ?_⟩
  intro io G H cs env σ ds vs Q env' s r ee k
  unfold gsCons at ee
  split at ee
  · cases ee
  · split at ee
    · rename_i e1 h1
      simp only [Rps] at r
      obtain ⟨v, r', rfl, r1, r2⟩ := r
      refine ⟨v, r', rfl, a2 _ _ _ _ _ _ _ _ _ _ s r1 h1 fun σ1 s1 w1 => b2 _ _ _ _ _ _ _ _ _ _ s1 r2 ee fun σ2 s2 w2 => k σ2 s2 (w2.trans w1)⟩
    · cases ee
theorem jw_tup {k : Nat} {n : Nat} (hc : X.calm = true) (h : JGsw X T es gg) (hn : (assignEach es X.env).length = n := by rfl) (hst : (assignEach es X.env).findIdx? (·.1) = none := by rfl)
    (hl : ∀ ds env cs env', gg ds env cs = some env' → ds.length = n) : JGw X T (.Tuple es k pos) (gTp gg) := by
  obtain ⟨t, a1, a2⟩ := h
  refine ⟨_, pg_tup hc a1 hn hst, ?_⟩
  intro io G H cs env σ d v Q env' s r e kk
  unfold gTp at e
  split at e
  · simp only [Rp] at r
    obtain ⟨a, vs, rfl, q, t⟩ := r
    exact ⟨a, vs, rfl, SqT.of (s.w.same _ _ q), by rw [t.length]; exact hl _ _ _ _ e, a2 _ _ _ _ _ _ _ _ _ _ s t e kk⟩
  · cases e
variable (X W) in
def JTs (ifs : List Expr) (f : DTn) : Prop := ∃ t, PTs X ifs t ∧ DT X.K none W t f
def dYes : DTn := fun _ cs => .ok true cs
theorem jts_nil : JTs X W [] dYes := ⟨_, pts_nil, fun io G H cs env σ Q s k => AfR.ok k s.w⟩
theorem jts_one {f : DTn} (h : JT X W none e f) : JTs X W [e] f := by
  obtain ⟨t, a1, a2⟩ := h
  exact ⟨t, pts_one a1, a2⟩
theorem pts_c {ifs : List Expr} {f : DTn} (h : JTs X W ifs f) : PTs X ifs (cT X.K none W f) := by
  obtain ⟨t, a1, a2⟩ := h
  exact ⟨fun pins s σ H Q I ⟨io, G, cs, env, s0, k⟩ => a1.run pins s σ H Q I (a2 io G H cs env σ Q s0 k)⟩
end
def dLcL (ok : Cells → Bool) (g : DGn) (ft : DTn) (fe : DEn) (env : Env) : List P → Cells → List P → Rs CO
  | [], cs, acc => if ok cs = true then .ok (.lst acc) cs else .stuck
  | x :: r, cs, acc => if ok cs = true then (match g x env cs with
    | none => .stuck
    | some e => match ft e cs with
      | .ok true c => (match fe e c with
        | .ok d c => dLcL ok g ft fe env r c (acc ++ [d])
        | _ => .stuck)
      | .ok false c => dLcL ok g ft fe env r c acc
      | _ => .stuck) else .stuck
def dLc (T : List Nat) (fi : DIn) (g : DGn) (ft : DTn) (fe : DEn) : DFn := fun env cs => (fi env cs).bind fun L cs => if L.1.length ≤ sizeLine then dLcL L.2 g ft fe (wipeE env T) L.1 cs [] else .stuck
section
variable {K : PySem.W.Frag} {io io' : List Addr} {G G' H H' : Hp} {cs : Cells}
theorem WOk.other (w : WOk K io G H cs) {p : Addr} {o : HO} (np : p ∉ io) (g : G p = none) : WOk K io G (upd H p o) cs := by
  refine ⟨fun b u e => ?_, w.len, w.nd, fun a m => ?_, fun i a c e1 e2 => ?_⟩
  · rw [upd_ne fun z => by rw [z, g] at e; cases e]; exact w.same _ _ e
  · rw [upd_ne fun z => np (by rw [← z]; exact m)]; exact w.al a m
  · have ne : a ≠ p := fun z => np (by rw [← z]; exact List.mem_of_getElem? e1)
    have q := w.live i a c e1 e2
    cases c with
    | dead => trivial
    | _ => exact q.keep (List.prefix_refl _) (fun _ _ h => h) q.1 (upd_ne ne)
theorem Le.updNew (l : Le io G H io' G' H') {p : Addr} {o : HO} (n : H p = none) : Le io G H io' G' (upd H' p o) :=
  ⟨l.io, l.g, fun a u e => by rw [upd_ne (ne_of_none e n)]; exact l.h a u e, l.gn, l.ion, fun a e => by
    rw [upd_ne fun z => e (by rw [z]; exact n)]; exact l.al a e⟩
end
section
variable {X : Cx} {W : WX} {elt tg iter : Expr} {ifs : List Expr} {scope : Scope} {own : List (Str × Nat)} {pos : Pos} {fi : DIn} {g : DGn} {ft : DTn} {fe : DEn}
/-- the loop of a comprehension -/
theorem lc_loop {K : PySem.W.Frag} {T : List Nat} {σ : St} {H1 : Hp} {D : Addr} {J : It} {i1 : List Addr} {g1 : Hp} {L : List P} {ok : Cells → Bool} {env : Env} {cs : Cells} {Q : VK}
    (src : Src K J i1 g1 H1 L ok) (nD : H1 D = none) (hz : L.length ≤ sizeLine) (w1 : WOk K i1 g1 H1 cs) (s1 : Slots K i1 g1 env (L2.wipe σ T))
    (k : AfR K W0 i1 g1 H1 σ (fun io' G' H' _ c => ∀ p, H1 p = none → p ∉ io' → H' p ≠ none → COk K io' G' H' p c → c ≠ .dead → Q (.ref p) H') (dLcL ok g ft fe env L cs [])) :
    ∃ Wi : Nat → Nat → Hp → Prop, (∃ m, Wi 0 m (upd H1 D (.lst []))) ∧ ∀ i m H, Wi i m H →
      (J.stop i H ∧ Q (.ref D) H) ∨ (J.go i H ∧ ∃ Nx : Hp → Prop, (∀ H', Nx H' → ∃ m', m' < m ∧ Wi (i + 1) m' H') ∧ ∀ x H', J.yld i H x H' → cG K T g x (L2.wipe σ T) H' fun σ2 H2 => L2.wipe σ2 T = L2.wipe σ T ∧ cT K none W0 ft σ2 H2 fun b H3 =>
        if b = true then cE K none W0 fe σ2 H3 fun y H4 => ∃ acc, H4 D = some (.lst acc) ∧ acc.length < sizeLine ∧ Nx (upd H4 D (.lst (acc ++ [y]))) else Nx H3) := by
  let Nw : Nat → Hp → Prop := fun i H => ∃ io G cs acc vs, Le i1 g1 H1 io G H ∧ WOk K io G H cs ∧ D ∉ io ∧ G D = none ∧ H D = some (.lst vs) ∧ Rps K io G acc vs ∧ acc.length ≤ i ∧
    AfR K W0 i1 g1 H1 σ (fun io' G' H' _ c => ∀ p, H1 p = none → p ∉ io' → H' p ≠ none → COk K io' G' H' p c → c ≠ .dead → Q (.ref p) H') (dLcL ok g ft fe env (L.drop i) cs acc)
  refine ⟨fun i m H => m = L.length - i ∧ i ≤ L.length ∧ Nw i H, ⟨_, rfl, Nat.zero_le _, i1, g1, cs, [], [], Le.refl.updNew nD, w1.other (w1.free nD).2 (w1.free nD).1, (w1.free nD).2, (w1.free nD).1, upd_same, by simp only [Rps], Nat.zero_le _, k⟩, ?_⟩
  rintro i m H ⟨rfl, hi, io, G, cs, acc, vs, le, w, nio, gD, hD, ra, hacc, k2⟩
  have nD' := nD
  cases hd : L.drop i with
  | nil =>
    rw [hd] at k2
    simp only [dLcL] at k2
    split at k2
    · rename_i hok
      have ei : i = L.length := by
        have := congrArg List.length hd
        rw [List.length_drop] at this
        simp at this
        omega
      left
      refine ⟨by rw [ei]; exact src.stop io G H cs le w hok, ?_⟩
      exact k2 io G H le w D nD nio (by rw [hD]; simp) ⟨gD, vs, hD, ra⟩ (by simp)
    · exact k2.elim
  | cons d r =>
    rw [hd] at k2
    simp only [dLcL] at k2
    split at k2
    · rename_i hok
      have hdi : L[i]? = some d := by
        have : (L.drop i)[0]? = some d := by rw [hd]; rfl
        rw [List.getElem?_drop] at this
        simpa using this
      have hlt : i < L.length := (List.getElem?_eq_some_iff.mp hdi).1
      have hr : r = L.drop (i + 1) := by
        have : (L.drop i).drop 1 = r := by rw [hd]; rfl
        rw [List.drop_drop] at this
        rw [← this]
      obtain ⟨hgo, hy⟩ := src.go i io G H cs le w hok d hdi
      right
      refine ⟨hgo, Nw (i + 1), fun H' p' => ⟨L.length - (i + 1), by omega, rfl, hlt, p'⟩, fun x H' yd => ?_⟩
      obtain ⟨io2, G2, le2, w2, rx⟩ := hy x H' yd
      cases ge : g d env cs with
      | none => rw [ge] at k2; exact k2.elim
      | some e1 =>
        rw [ge] at k2
        dsimp only at k2
        -- D stays as it is while something is evaluated
        have stay : ∀ {io2 : List Addr} {G2 H2 : Hp}, Le io G H io2 G2 H2 → D ∉ io2 ∧ G2 D = none ∧ H2 D = some (.lst vs) := fun {io2 G2 H2} l => by
          refine ⟨fun m => ?_, ?_, ?_⟩
          · rcases l.ion D m with z | z
            · exact nio z
            · rw [hD] at z; cases z
          · cases q : G2 D with
            | none => rfl
            | some o =>
              rcases l.gn D o q with z | z | z
              · rw [gD] at z; cases z
              · rw [hD] at z; cases z
              · exact absurd z nio
          · rcases l.h D _ hD with z | ⟨_, z⟩
            · exact z
            · exact absurd z nio
        have leq := le.trans le2
        refine ⟨io2, G2, cs, env, d, e1, ⟨w2, s1.mono leq.io leq.g, trivial⟩, rx, ge, fun σ3 s3 w3 => ⟨w3.trans (wipe_wipe T σ), io2, G2, cs, e1, s3, ?_⟩⟩
        have k3 := k2
        cases te : ft e1 cs with
        | stuck => rw [te] at k3; exact k3
        | ex a c => rw [te] at k3; exact False.elim k3
        | ok b c =>
          rw [te] at k3
          intro io4 G4 H4 l4 w4
          cases b with
          | false =>
            dsimp only at k3
            rw [if_neg Bool.false_ne_true]
            have lt := le2.trans l4
            obtain ⟨q1, q2, q3⟩ := stay lt
            exact ⟨io4, G4, c, acc, vs, le.trans lt, w4, q1, q2, q3, ra.mono lt.io lt.g, by omega, by rw [← hr]; exact k3⟩
          | true =>
            dsimp only at k3
            rw [if_pos rfl]
            refine ⟨io4, G4, c, e1, s3.to l4 w4, ?_⟩
            have k4 := k3
            cases ee : fe e1 c with
            | stuck => rw [ee] at k4; exact k4
            | ex a c => rw [ee] at k4; exact False.elim k4
            | ok y c5 =>
              rw [ee] at k4
              dsimp only at k4
              intro io5 G5 H5 l5 w5 v rv
              have lt := (le2.trans l4).trans l5
              obtain ⟨q1, q2, q3⟩ := stay lt
              have ra5 := ra.mono lt.io lt.g
              refine ⟨vs, q3, by rw [ra5.length]; omega, io5, G5, c5, acc ++ [y], vs ++ [v], (le.trans lt).updNew nD, w5.other q1 q2, q1, q2, upd_same, ra5.append (by simp only [Rps]; exact ⟨v, [], rfl, rv, rfl⟩), by rw [List.length_append]; simp; omega, ?_⟩
              rw [← hr]
              exact k4
    · exact k2.elim
theorem dLcL_ne {ok : Cells → Bool} {env : Env} : ∀ (L : List P) (cs acc) (a : Ex) (c : Cells), dLcL ok g ft fe env L cs acc ≠ .ex a c
  | [], cs, acc, a, c => by
    simp only [dLcL]
    split <;> simp
  | x :: r, cs, acc, a, c => by
    simp only [dLcL]
    split
    · split
      · simp
      · split
        · split
          · exact dLcL_ne r _ _ a c
          · simp
        · exact dLcL_ne r _ _ a c
        · simp
    · simp
theorem jf_lc (hc : X.calm = true) (hN : X.N.Nodup) (hi : JI X W none tg iter fi) (ok : BlkOk X.N X.env.scope scope own)
    (hg : ∀ (s : Shared) (H : Hp) (C : Addr) (cl : List (Str × Addr)) (fp : List Addr), JGw (X.blk s H scope (compEnvC scope cl C X.env) fp) (own.map (·.2)) tg g) (ht : ∀ (s : Shared) (H : Hp) (C : Addr) (cl : List (Str × Addr)) (fp : List Addr), JTs (X.blk s H scope (compEnvC scope cl C X.env) fp) W0 ifs ft)
    (he : ∀ (s : Shared) (H : Hp) (C : Addr) (cl : List (Str × Addr)) (fp : List Addr), JE (X.blk s H scope (compEnvC scope cl C X.env) fp) W0 none elt fe) (hs : ∀ x, foldedSetIterable iter X.env x = pure x := by intro _; rfl) :
    JF X W none (.ListComp elt [⟨tg, iter, ifs, 0⟩] scope pos) (dLc (own.map (·.2)) fi g ft fe) := by
  obtain ⟨ti, a1, a2⟩ := hi
  refine ⟨_, pe_lc (g := cG X.K (own.map (·.2)) g) (tt := cT X.K none W0 ft) (te := cE X.K none W0 fe) hc hN a1 ok (fun s H C cl fp => pg_c (hg s H C cl fp)) (fun s H C cl fp => pts_c (ht s H C cl fp)) (fun s H C cl fp => pe_c (he s H C cl fp)) hs, ?_⟩
  intro io G H cs env σ Q s k
  refine a2 io G H cs env σ _ s ?_
  have h1 := AfR.bind (show AfR X.K W io G H σ _ ((fi env cs).bind _) from k)
  cases q : fi env cs with
  | stuck => rw [q] at h1; exact h1
  | ex a c => rw [q] at h1; exact h1
  | ok L c =>
    rw [q] at h1
    intro i g' h' l w J src D nD
    have h2 := h1 i g' h' l w
    try dsimp only at h2
    split at h2
    · rename_i hz
      refine lc_loop src nD hz w ((s.s.mono l.io l.g).wipe _) ?_
      have h3 : ∀ (r : Rs CO), AfR X.K W i g' h' σ (fun io' G' H' x c => ∀ (p : Addr), H p = none → p ∉ io' → H' p ≠ none → COk X.K io' G' H' p c → c ≠ CO.dead → Q (V.ref p) H') r → (∀ a c, r ≠ .ex a c) → AfR X.K W0 i g' h' σ (fun io' G' H' x c => ∀ (p : Addr), h' p = none → p ∉ io' → H' p ≠ none → COk X.K io' G' H' p c → c ≠ CO.dead → Q (V.ref p) H') r := fun r a b => by
        cases r with
        | stuck => exact a
        | ex x c => exact absurd rfl (b x c)
        | ok x c => exact fun i g h l' w' p np => a i g h l' w' p (l.new np)
      exact h3 _ h2 (dLcL_ne _ _ _)
    · exact h2.elim
end
end DL

namespace DL
open PySem L2 PyProof.Rows
/-! ### what is never reached -/
def dDead : DSn := fun _ _ => .stuck
def dDeadE : DEn := fun _ _ => .stuck
def dDeadF : DFn := fun _ _ => .stuck
def dDeadT : DTn := fun _ _ => .stuck
section
variable {X : Cx} {W : WX} {hx : Hx}
theorem js_dead {st : Stmt} : JS X W hx st dDead := ⟨fun _ _ _ => False, ⟨fun _ _ _ _ _ _ h => h.elim⟩, fun _ _ _ _ _ _ _ _ k => k⟩
theorem jb_dead {st : List Stmt} : JB X W hx st dDead := ⟨fun _ _ _ => False, ⟨fun _ _ _ _ _ _ h => h.elim⟩, fun _ _ _ _ _ _ _ _ k => k⟩
theorem je_dead {e : Expr} : JE X W hx e dDeadE := ⟨fun _ _ _ => False, ⟨fun _ _ _ _ _ _ h => h.elim⟩, fun _ _ _ _ _ _ _ _ k => k⟩
theorem jf_dead {e : Expr} : JF X W hx e dDeadF := ⟨fun _ _ _ => False, ⟨fun _ _ _ _ _ _ h => h.elim⟩, fun _ _ _ _ _ _ _ _ k => k⟩
theorem jt_dead {e : Expr} : JT X W hx e dDeadT := ⟨fun _ _ _ => False, ⟨fun _ _ _ _ _ _ h => h.elim⟩, fun _ _ _ _ _ _ _ _ k => k⟩
end

/-! ### raise -/
abbrev DXn := Env → Cells → Rs Ex
def DX (K : PySem.W.Frag) (hx : Hx) (W : WX) (t : St → Hp → XK → Prop) (f : DXn) : Prop := ∀ io G H cs env σ Q, Sta K hx io G H cs env σ →
  AfR K W io G H σ (fun io' G' H' _ e => ∀ cls d, ExOk K io' G' e cls d → Q cls d H') (f env cs) → t σ H Q
def dRaise (f : DXn) : DSn := fun env cs => match f env cs with
  | .ok e c => .ex e env c
  | .ex e c => .ex e env c
  | .stuck => .stuck
/-- X(e), an own class without __init__ -/
def dX1 (C : Addr) (fe : DEn) : DXn := fun env cs => (fe env cs).bind fun _ cs => .ok ⟨C, []⟩ cs
section
variable {X : Cx} {W : WX} {hx : Hx} {e : Expr} {f : DXn} {fe : DEn} {pos p : Pos} {x : Str} {C : Addr} {bmB : List Value} {B newId initId : String}
variable (X W hx) in
def JX (e : Expr) (f : DXn) : Prop := ∃ t, PMk X e t ∧ DX X.K hx W t f
theorem js_raise (hc : X.calm = true) (tk : Takes X W) (h : JX X W hx e f) : JS X W hx (.Raise (some e) none pos) (dRaise f) := by
  obtain ⟨t, a1, a2⟩ := h
  refine ⟨_, ps_raise hc tk a1, ?_⟩
  intro io G H cs env σ D s k
  refine a2 io G H cs env σ _ s ?_
  unfold dRaise at k
  cases q : f env cs with
  | stuck => rw [q] at k; exact k
  | ex a c => rw [q] at k; exact fun i g h' cl dd l w xo => k i g h' σ cl dd l (s.to l w) xo
  | ok a c => rw [q] at k; exact fun i g h' l w cl dd xo => k i g h' σ cl dd l (s.to l w) xo
theorem jx_own1 (F : ExcBaseFacts B newId initId bmB) (q : PySem.W.excIn X.K C bmB newId = true) (gC : X.mg x = some (.ref C)) (kC : PySem.W.keepIn X.K (.ref C) = true) (r : Raises X (.ref C)) (hg : Gl X x)
    (he : JE X W hx e fe) (hs : starEach [e] X.env = (false, eval e X.env) :: starEach [] X.env := by rfl) (hdb : (x == ("__debug__" : Str)) = false := by decide) : JX X W hx (.Call (.Name x p) [e] [] pos) (dX1 C fe) := by
  obtain ⟨t, a1, a2⟩ := he
  refine ⟨_, SkE.pmk_own1 F q gC kC r hg a1 hs hdb, ?_⟩
  intro io G H cs env σ Q s k
  refine a2 io G H cs env σ _ s ?_
  have h1 := AfR.bind (show AfR X.K W io G H σ _ ((fe env cs).bind _) from k)
  refine h1.imp fun i g h' c a l w k v rv => ?_
  exact AfR.ok k w _ none ⟨rfl, .inl ⟨rfl, rfl⟩⟩
end

/-! ### f'..' -/
def dFmt (f : DEn) : DEn := fun env cs => (f env cs).bind fun d cs => match d with
  | .str y => if y.length ≤ sizeLine then .ok (.str y) cs else .stuck
  | .int i => if i.natAbs.log2 < 1920 then .ok (.str (toString i)) cs else .stuck
  | _ => .stuck
def dJn : List DEn → Str → DEn
  | [], acc => fun _ cs => .ok (.str acc) cs
  | f :: fs, acc => fun env cs => (f env cs).bind fun d cs => match d with
    | .str y => if (acc ++ y).length ≤ sizeLine then dJn fs (acc ++ y) env cs else .stuck
    | _ => .stuck
section
variable {X : Cx} {W : WX} {hx : Hx} {e v1 v2 : Expr} {rest : List Expr} {f : DEn} {fs : List DEn} {pos : Pos}
theorem je_fmt (h : JE X W hx e f) : JE X W hx (.FormattedValue e (-1) none pos) (dFmt f) := by
  obtain ⟨t, a1, a2⟩ := h
  refine ⟨_, pe_fmt a1, ?_⟩
  intro io G H cs env σ Q s k
  refine a2 io G H cs env σ _ s ?_
  have h1 := AfR.bind (show AfR X.K W io G H σ _ ((f env cs).bind _) from k)
  refine h1.imp fun i g h' c d l w k v rv => ?_
  cases d with
  | str y =>
    simp only [Rp] at rv
    dsimp only at k
    split at k
    · rename_i hz
      exact .inl ⟨y, rv, hz, AfR.ok k w _ (by simp only [Rp])⟩
    · exact k.elim
  | int j =>
    simp only [Rp] at rv
    dsimp only at k
    split at k
    · rename_i hz
      exact .inr ⟨j, rv, hz, AfR.ok k w _ (by simp only [Rp])⟩
    · exact k.elim
  | _ => exact k.elim
variable (X W hx) in
inductive JJ : List Expr → List DEn → Prop where
  | nil : JJ [] []
  | cons {e : Expr} {f : DEn} {es : List Expr} {fs : List DEn} (h : JE X W hx e f) (r : JJ es fs) : JJ (e :: es) (f :: fs)
theorem jj_ts : ∀ {es : List Expr} {fs : List DEn}, JJ X W hx es fs → ∃ ts, PJ X es ts ∧ ∀ (acc : Str) io G H cs env σ (Q : VK), Sta X.K hx io G H cs env σ → AfR X.K W io G H σ (fun io' G' H' _ d => ∀ v, Rp X.K io' G' d v → Q v H') (dJn fs acc env cs) → tJs ts acc σ H fun out H1 => Q (.str out) H1
  | _, _, .nil => ⟨[], .nil, fun acc io G H cs env σ Q s k => AfR.ok k s.w _ (by simp only [Rp])⟩
  | _, _, .cons (f := f) (fs := fs) h r => by
    obtain ⟨t, a1, a2⟩ := h
    obtain ⟨ts, b1, b2⟩ := jj_ts r
    refine ⟨t :: ts, .cons a1 b1, fun acc io G H cs env σ Q s k => ?_⟩
    refine a2 io G H cs env σ _ s ?_
    have h1 := AfR.bind (show AfR X.K W io G H σ _ ((f env cs).bind _) from k)
    refine h1.imp fun i g h' c d l w k v rv => ?_
    cases d with
    | str y =>
      simp only [Rp] at rv
      dsimp only at k
      split at k
      · rename_i hz
        exact ⟨y, rv, hz, b2 _ _ _ _ _ _ _ _ (s.to l w) k⟩
      · exact k.elim
    | _ => exact k.elim
theorem je_joined (h : JJ X W hx (v1 :: v2 :: rest) fs) : JE X W hx (.JoinedStr (v1 :: v2 :: rest) pos) (dJn fs Str.empty) := by
  obtain ⟨ts, a1, a2⟩ := jj_ts h
  exact ⟨_, pe_joined a1, fun io G H cs env σ Q s k => a2 _ _ _ _ _ _ _ _ s k⟩
theorem je_joined1 (h : JE X W hx e f) : JE X W hx (.JoinedStr [e] pos) f := by
  obtain ⟨t, a1, a2⟩ := h
  exact ⟨_, pe_joined1 a1, a2⟩
end

/-! ### try .. except X as e -/
def sufx (i : Nat) : Out → Out
  | .nx e c => .nx (e.set i none) c
  | .bk e c => .bk (e.set i none) c
  | .ct e c => .ct (e.set i none) c
  | .rt d c => .rt d c
  | _ => .stuck
def dTry (K : PySem.W.Frag) (c : Value) (i : Nat) (fb fs : DSn) : DSn := fun env cs => match fb env cs with
  | .ex e env1 cs1 => (match PySem.W.exmOne K (.ref e.C) c with
    | some true => if i < env1.length then sufx i (fs (env1.set i (some (.exn e.C e.fs))) cs1) else .stuck
    | some false => .ex e env1 cs1
    | none => .stuck)
  | o => o
def dTry0 (K : PySem.W.Frag) (c : Value) (fb fs : DSn) : DSn := fun env cs => match fb env cs with
  | .ex e env1 cs1 => (match PySem.W.exmOne K (.ref e.C) c with
    | some true => (match fs env1 cs1 with
      | .ex _ _ _ => .stuck
      | o => o)
    | some false => .ex e env1 cs1
    | none => .stuck)
  | o => o
theorem Slots.len {K : PySem.W.Frag} {io : List Addr} {G : Hp} : ∀ {env : Env} {σ : St}, Slots K io G env σ → σ.length = env.length
  | [], _, h => by
    have e : _ = [] := h
    subst e; rfl
  | none :: _, _, ⟨_, r, e, t⟩ => by subst e; rw [List.length_cons, List.length_cons, t.len]
  | some _ :: _, _, ⟨_, r, e, _, t⟩ => by subst e; rw [List.length_cons, List.length_cons, t.len]
section
variable {X : Cx} {W : WX} {x n : Str} {c : Value} {i : Nat} {body suite : List Stmt} {b₀ : Stmt} {np pos pos' : Pos} {fb fs : DSn}
theorem js_try (hs : X.stack = X.env :: X.outer) (hf : X.env.frame = some X.env.locals) (hN : X.N.Nodup) (hi : X.N[i]? = some n) (hln : X.env.kindOf n = some .local) (hc : Names X x c) (tk : Takes X W)
    (hb : ∀ (W' : WX) (pn : List (Addr × Obj)) (xe : Value → Shared → Prop), Takes (X.tr pn xe) W' → PassesOwn (model X.prog X.w) X.A X.env xe → JB (X.tr pn xe) W' none body fb)
    (hsu : ∀ (a : Addr) (oe : Obj) (cls : Value) (d : Option Addr) (pn : List (Addr × Obj)), Zc cls d oe → (∃ vs, oe.data = .fields vs) → JB (X.suite a ((a, oe) :: pn)) W0 (some (i, a, cls, d)) (b₀ :: suite) fs) :
    JS X W none (.Try body [.ExceptHandler (some (.Name x np)) (some n) (b₀ :: suite) pos'] [] [] pos) (dTry X.K c i fb fs) := by
  refine ⟨_, ps_try_as (tb := fun W' => cS X.K none W' fb) (ts := fun a cls d => cS X.K (some (i, a, cls, d)) W0 fs) hs hf hN hi hln hc tk (fun W' pn xe t p => pss_c (X := X.tr pn xe) (hb W' pn xe t p)) (fun a oe cls d pn z v => pss_c (X := X.suite a ((a, oe) :: pn)) (hsu a oe cls d pn z v)), ?_⟩
  intro io G H cs env σ D s k
  refine ⟨io, G, cs, env, s, ?_⟩
  unfold dTry at k
  cases q : fb env cs with
  | nx e1 c1 => rw [q] at k; exact k
  | rt d c1 => rw [q] at k; exact k
  | bk e1 c1 => rw [q] at k; exact k
  | ct e1 c1 => rw [q] at k; exact k
  | stuck => rw [q] at k; exact k
  | ex e env1 cs1 =>
    rw [q] at k
    dsimp only at k
    intro io1 G1 H1 σ1 cls d l st xo
    obtain ⟨ecls, xo2⟩ := xo
    subst ecls
    cases em : PySem.W.exmOne X.K (.ref e.C) c with
    | none => rw [em] at k; exact k.elim
    | some b =>
      rw [em] at k
      cases b with
      | false => exact ⟨false, em, (fun z => nomatch z), fun _ => k io1 G1 H1 σ1 _ d l st ⟨rfl, xo2⟩⟩
      | true =>
        dsimp only at k
        split at k
        · rename_i hlt
          refine ⟨true, em, fun _ a na => ?_, (fun z => nomatch z)⟩
          have hlσ : i < σ1.length := by rw [st.s.len]; exact hlt
          refine ⟨io1, G1, cs1, env1.set i (some (.exn e.C e.fs)), ⟨st.w, st.s.set i (by simp only [Rp]; exact ⟨a, rfl⟩), ⟨List.getElem?_set_self hlσ, fun C fs e2 => ?_⟩⟩, ?_⟩
          · rw [List.getElem?_set_self hlt] at e2
            cases e2
            exact ⟨rfl, xo2⟩
          · have k2 := AfS.mono (hx := none) l k
            have gone : ∀ {io2 : List Addr} {G2 H2 : Hp} {c2 : Cells} {e2 : Env} {σ2 : St}, Sta X.K (some (i, a, .ref e.C, d)) io2 G2 H2 c2 e2 σ2 → Sta X.K none io2 G2 H2 c2 (e2.set i none) (σ2.set i none) := fun z => ⟨z.w, z.s.setN i, trivial⟩
            cases r : fs (env1.set i (some (.exn e.C e.fs))) cs1 with
            | nx e2 c2 => rw [r] at k2; exact fun i2 g2 h2 s2 l2 z => k2 i2 g2 h2 _ l2 (gone z)
            | bk e2 c2 => rw [r] at k2; exact fun i2 g2 h2 s2 l2 z => k2 i2 g2 h2 _ l2 (gone z)
            | ct e2 c2 => rw [r] at k2; exact fun i2 g2 h2 s2 l2 z => k2 i2 g2 h2 _ l2 (gone z)
            | rt d2 c2 => rw [r] at k2; exact k2
            | ex e2 en c2 => rw [r] at k2; exact k2.elim
            | stuck => rw [r] at k2; exact k2.elim
        · exact k.elim
theorem js_try0 (hs : X.stack = X.env :: X.outer) (hf : X.env.frame = some X.env.locals) (hc : Names X x c) (tk : Takes X W)
    (hb : ∀ (W' : WX) (pn : List (Addr × Obj)) (xe : Value → Shared → Prop), Takes (X.tr pn xe) W' → PassesOwn (model X.prog X.w) X.A X.env xe → JB (X.tr pn xe) W' none body fb)
    (hsu : ∀ (a : Addr) (oe : Obj) (cls : Value) (d : Option Addr) (pn : List (Addr × Obj)), Zc cls d oe → (∃ vs, oe.data = .fields vs) → JB (X.suite a ((a, oe) :: pn)) W0 none (b₀ :: suite) fs) :
    JS X W none (.Try body [.ExceptHandler (some (.Name x np)) none (b₀ :: suite) pos'] [] [] pos) (dTry0 X.K c fb fs) := by
  refine ⟨_, ps_try_only (tb := fun W' => cS X.K none W' fb) (ts := fun a cls d => cS X.K none W0 fs) hs hf hc tk (fun W' pn xe t p => pss_c (X := X.tr pn xe) (hb W' pn xe t p)) (fun a oe cls d pn z v => pss_c (X := X.suite a ((a, oe) :: pn)) (hsu a oe cls d pn z v)), ?_⟩
  intro io G H cs env σ D s k
  refine ⟨io, G, cs, env, s, ?_⟩
  unfold dTry0 at k
  cases q : fb env cs with
  | nx e1 c1 => rw [q] at k; exact k
  | rt d c1 => rw [q] at k; exact k
  | bk e1 c1 => rw [q] at k; exact k
  | ct e1 c1 => rw [q] at k; exact k
  | stuck => rw [q] at k; exact k
  | ex e env1 cs1 =>
    rw [q] at k
    dsimp only at k
    intro io1 G1 H1 σ1 cls d l st xo
    obtain ⟨ecls, xo2⟩ := xo
    subst ecls
    cases em : PySem.W.exmOne X.K (.ref e.C) c with
    | none => rw [em] at k; exact k.elim
    | some b =>
      rw [em] at k
      cases b with
      | false => exact ⟨false, em, (fun z => nomatch z), fun _ => k io1 G1 H1 σ1 _ d l st ⟨rfl, xo2⟩⟩
      | true =>
        dsimp only at k
        refine ⟨true, em, fun _ a na => ⟨io1, G1, cs1, env1, st, ?_⟩, (fun z => nomatch z)⟩
        have k2 := AfS.mono (hx := none) l k
        cases r : fs env1 cs1 with
        | ex e2 en c2 => rw [r] at k2; exact k2.elim
        | nx e2 c2 => rw [r] at k2; exact k2
        | bk e2 c2 => rw [r] at k2; exact k2
        | ct e2 c2 => rw [r] at k2; exact k2
        | rt d2 c2 => rw [r] at k2; exact k2
        | stuck => rw [r] at k2; exact k2
end

/-! ### isinstance of the exception that is held -/
/-- what a class of exceptions says, so that isinstance asks its instances rightly: as L2.ExcC, told by Bools -/
def exC (K : PySem.W.Frag) (D : Addr) : Bool := decide (PySem.W.findIn K (.ref D) "__getattribute__" = some (some (.builtin "BaseException.__getattribute__"))) && decide (PySem.W.findIn K (.ref D) "__getattr__" = some none) && decide (PySem.W.subIn K (.ref D) (.type "BaseException") = some true) && PySem.W.hasDictIn K D &&
  decide (PySem.W.findIn K (.ref D) "__class__" = some (some (.builtin "object.__class__"))) && decide (PySem.W.specialIn K (.builtin "object.__class__") "__get__" = some (some (.builtin "getset_descriptor.__get__"))) && decide (PySem.W.takesIn K (.builtin "object.__class__") = some true) && decide (PySem.W.mroIn K D (.type "object") = some true)
theorem exC_ok {K : PySem.W.Frag} {D : Addr} (h : exC K D = true) : ExcC K D := by
  unfold exC at h
  simp only [Bool.and_eq_true, decide_eq_true_eq] at h
  obtain ⟨⟨⟨⟨⟨⟨⟨h1, h2⟩, h3⟩, h4⟩, h5⟩, h6⟩, h7⟩, h8⟩ := h
  exact ⟨h1, h2, h3, h4, h5, h6, h7, h8⟩
/-- the classes that are written: one name, or a tuple of names -/
def rIsX (K : PySem.W.Frag) (cls : Value) (d : Option Addr) (a : Addr) (cv : List Value) (one : Bool) : List V → Hp → VK → Prop := fun xs H Q => ∃ (D : Addr) (c : V) (b : Bool), cls = .ref D ∧ d = none ∧ exC K D = true ∧ xs = [.ref a, c] ∧
  ((one = true ∧ ∃ u, cv = [u] ∧ (∀ u', RelV c u' → u' = u) ∧ PySem.W.kitOne K (.ref D) u = some b) ∨ (one = false ∧ ∃ t vs, c = .ref t ∧ SqT K H t vs ∧ (∀ us, Vals vs us → us = cv) ∧ PySem.W.kitAny K (.ref D) cv = some b)) ∧ Q (.bl b) H
theorem call_isX {X : Cx} {a : Addr} {oe : Obj} {cls : Value} {d : Option Addr} {pn : List (Addr × Obj)} {cv : List Value} {one : Bool} (hz : Zc cls d oe) (hf : ∃ vs, oe.data = .fields vs) : CallR (X.suite a ((a, oe) :: pn)) (.builtin "isinstance") (rIsX X.K cls d a cv one) := by
  intro pins s σ H xs us Q I r h
  obtain ⟨D, c, b, rfl, rfl, hC, rfl, e, q⟩ := h
  have C := exC_ok hC
  cases r with
  | cons rx rr =>
    cases rr with
    | cons rt rr =>
      cases rr
      cases rx
      obtain ⟨hget, _⟩ := I.pin (a, oe) (List.mem_append.mpr (.inl List.mem_cons_self))
      obtain ⟨vs, hv⟩ := hf
      have J : PySem.W.InstAt s.heap a oe D none := by
        obtain ⟨oc, od, oda, osl⟩ := oe
        obtain ⟨h1, h2⟩ := hz
        dsimp only at h1 h2 hv
        subst h1 h2 hv
        exact ⟨hget, rfl, rfl, trivial⟩
      have Z := PySem.W.handS_kitx_exc (x := a) (ox := oe) C.hg C.hk C.hs C.hd C.ha C.hn C.ht C.hm
      rcases e with ⟨_, u, rfl, hu, e⟩ | ⟨_, t, ws, rfl, hq, hu, e⟩
      · have ec := hu _ rt
        subst ec
        exact PySem.W.kia_one Z I.kIn J e (fun z => nomatch z) fun tk => ⟨.bl b, H, I.kept (t' := tk) fun _ _ z => z, rfl, q⟩
      · cases rt
        obtain ⟨its, rv, p, hz⟩ := I.tuple hq
        have ec := hu _ rv
        subst ec
        obtain ⟨o, ho, hcl, n, hda⟩ := p
        obtain ⟨oc, od, oda, osl⟩ := o
        dsimp only at hcl hda
        subst hcl hda
        exact PySem.W.kia_tup Z I.kIn J ho e (fun z => nomatch z) fun tk => ⟨.bl b, H, I.kept (t' := tk) fun _ _ z => z, rfl, q⟩

/-- a class by its value -/
def clv : P → Option Value
  | .raw (.ref a) => some (.ref a)
  | .raw (.ty n) => some (.type n)
  | _ => none
def clvs : List P → Option (List Value)
  | [] => some []
  | x :: r => match clv x, clvs r with
    | some u, some us => some (u :: us)
    | _, _ => none
def isXc (K : PySem.W.Frag) (C : Addr) (c : P) : Option Bool := match c with
  | .tup xs => (match clvs xs with
    | some us => PySem.W.kitAny K (.ref C) us
    | none => none)
  | x => (match clv x with
    | some u => PySem.W.kitOne K (.ref C) u
    | none => none)
def dIsX (K : PySem.W.Frag) (i : Nat) (fc : DEn) : DEn := fun env cs => match env[i]? with
  | some (some (.exn C [])) => (fc env cs).bind fun c cs => (if exC K C = true then (match isXc K C c with
    | some b => .ok (.bl b) cs
    | none => .stuck) else .stuck)
  | _ => .stuck
section
variable {K : PySem.W.Frag} {io : List Addr} {G : Hp}
theorem clv_ok {x : P} {u : Value} {v : V} (h : clv x = some u) (r : Rp K io G x v) : (∃ w, x = .raw w) ∧ ∀ u', RelV v u' → u' = u := by
  unfold clv at h
  split at h
  · cases h
    simp only [Rp] at r
    subst r
    exact ⟨⟨_, rfl⟩, fun u' hu => hu⟩
  · cases h
    simp only [Rp] at r
    subst r
    exact ⟨⟨_, rfl⟩, fun u' hu => hu⟩
  · cases h
theorem clvs_ok : ∀ {xs : List P} {us : List Value} {vs : List V}, clvs xs = some us → Rps K io G xs vs → ∀ ws, Vals vs ws → ws = us
  | [], us, vs, h, r, ws, hv => by
    cases h
    simp only [Rps] at r
    subst r
    cases hv
    rfl
  | x :: xs, us, vs, h, r, ws, hv => by
    simp only [Rps] at r
    obtain ⟨v, t, rfl, rx, rt⟩ := r
    unfold clvs at h
    split at h
    · rename_i u us' h1 h2
      cases h
      cases hv with
      | cons a b => rw [(clv_ok h1 rx).2 _ a, clvs_ok h2 rt _ b]
    · cases h
end
section
variable {X : Cx} {W : WX} {x n : Str} {i : Nat} {p p1 pos : Pos} {ec : Expr} {fc : DEn} {a : Addr} {oe : Obj} {cls : Value} {d : Option Addr} {pn : List (Addr × Obj)}
theorem je_isX (hz : Zc cls d oe) (hf : ∃ vs, oe.data = .fields vs) (hg : Gl (X.suite a ((a, oe) :: pn)) "isinstance") (hm : X.mg "isinstance" = none) (hi : X.N[i]? = some n) (hv : Vis X.env.scope n) (hc : JE (X.suite a ((a, oe) :: pn)) W (some (i, a, cls, d)) ec fc)
    (hd : (n == ("__debug__" : Str)) = false := by decide) (hcd : (n == ("__classdict__" : Str)) = false := by decide)
    (hs2 : starEach [ec] X.env = (false, eval ec X.env) :: starEach [] X.env := by rfl) (hs : starEach [.Name n p1, ec] X.env = (false, eval (.Name n p1) X.env) :: starEach [ec] X.env := by rfl) (hpl : (backTo pos (starEach [ec] X.env)).any (·.1) = false := by rfl) :
    JE (X.suite a ((a, oe) :: pn)) W (some (i, a, cls, d)) (.Call (.Name "isinstance" p) [.Name n p1, ec] [] pos) (dIsX X.K i fc) := by
  obtain ⟨t, a1, a2⟩ := hc
  refine ⟨fun σ H Q => ∃ cv one, tCB (rIsX X.K cls d a cv one) (tCons (tVar i) (tCons t tNil)) σ H Q, ⟨fun pins s σ H Q I ⟨cv, one, q⟩ => (pe_callB (X := X.suite a ((a, oe) :: pn)) (x := "isinstance") (p := p) (call_isX hz hf) hg hm rfl (pa_cons (pe_var (pos := p1) hi hv hd hcd) (pa_cons a1 pa_nil hs2) hs) (by decide) (by decide) hs hpl).run pins s σ H Q I q⟩, ?_⟩
  intro io G H cs env σ Q s k
  unfold dIsX at k
  split at k
  · rename_i C e1
    have hx := s.x
    obtain ⟨x1, x2⟩ : σ[i]? = some (some (.ref a)) ∧ ∀ C fs, env[i]? = some (some (.exn C fs)) → ExOk X.K io G ⟨C, fs⟩ cls d := hx
    obtain ⟨ec1, ec2⟩ := x2 _ _ e1
    have hd0 : d = none := by
      rcases ec2 with ⟨_, h⟩ | ⟨ne, _⟩
      · exact h
      · exact absurd rfl ne
    have h1 := AfR.bind (show AfR X.K W io G H σ _ ((fc env cs).bind _) from k)
    -- what is asked for is chosen by the class's data
    have go : ∀ cv one, (∀ i1 g1 h1 c c1 v, fc env cs = .ok c c1 → Le io G H i1 g1 h1 → WOk X.K i1 g1 h1 c1 → Rp X.K i1 g1 c v → rIsX X.K cls d a cv one [.ref a, v] h1 Q) → tCB (rIsX X.K cls d a cv one) (tCons (tVar i) (tCons t tNil)) σ H Q := fun cv one hq => by
      refine ⟨_, x1, ?_⟩
      refine a2 io G H cs env σ _ s ?_
      cases q : fc env cs with
      | stuck => rw [q] at h1; exact h1
      | ex e c => rw [q] at h1; exact h1
      | ok c c1 =>
        intro i1 g1 h1' l w v rv
        exact hq i1 g1 h1' c c1 v q l w rv
    cases q : fc env cs with
    | stuck => rw [q] at h1; exact h1.elim
    | ex e c => exact ⟨[], true, go _ _ fun _ _ _ _ _ _ q2 => by rw [q] at q2; cases q2⟩
    | ok c c1 =>
      rw [q] at h1
      cases hC : exC X.K C with
      | false =>
        have h2 : AfR X.K W io G H σ _ (Rs.ok c c1) := h1
        refine ⟨[], true, go _ _ fun i1 g1 h1' c' c1' v q2 l w rv => ?_⟩
        rw [q] at q2
        cases q2
        have h3 := h1 i1 g1 h1' l w
        try dsimp only at h3
        rw [hC, if_neg Bool.false_ne_true] at h3
        exact h3.elim
      | true =>
        cases hb : isXc X.K C c with
        | none =>
          refine ⟨[], true, go _ _ fun i1 g1 h1' c' c1' v q2 l w rv => ?_⟩
          rw [q] at q2
          cases q2
          have h3 := h1 i1 g1 h1' l w
          try dsimp only at h3
          rw [hC, if_pos rfl, hb] at h3
          exact h3.elim
        | some b =>
          have fin : ∀ {i1 g1 h1' c' c1' v}, fc env cs = .ok c' c1' → Le io G H i1 g1 h1' → WOk X.K i1 g1 h1' c1' → Rp X.K i1 g1 c' v → Rp X.K i1 g1 c v ∧ Q (.bl b) h1' := fun {i1 g1 h1' c' c1' v} q2 l w rv => by
            rw [q] at q2
            cases q2
            have h3 := h1 i1 g1 h1' l w
            try dsimp only at h3
            rw [hC, if_pos rfl, hb] at h3
            exact ⟨rv, AfR.ok h3 w _ (by simp only [Rp])⟩
          unfold isXc at hb
          split at hb
          · rename_i xs
            split at hb
            · rename_i us hus
              refine ⟨us, false, go _ _ fun i1 g1 h1' c' c1' v q2 l w rv => ?_⟩
              obtain ⟨rv2, hq⟩ := fin q2 l w rv
              rw [q] at q2
              cases q2
              simp only [Rp] at rv2
              obtain ⟨ta, vs, rfl, eT, rs⟩ := rv2
              exact ⟨C, _, b, ec1, hd0, hC, rfl, .inr ⟨rfl, ta, vs, rfl, SqT.of (w.same _ _ eT), fun us' hv => clvs_ok hus rs us' hv, hb⟩, hq⟩
            · cases hb
          · split at hb
            · rename_i u hu
              refine ⟨[u], true, go _ _ fun i1 g1 h1' c' c1' v q2 l w rv => ?_⟩
              obtain ⟨rv2, hq⟩ := fin q2 l w rv
              exact ⟨C, _, b, ec1, hd0, hC, rfl, .inl ⟨rfl, u, rfl, (clv_ok hu rv2).2, hb⟩, hq⟩
            · cases hb
  · exact k.elim
end
end DL

namespace DL
open PySem PySem.Spec PyProof.Rows SS
/-! ### set(..) of a list of texts (turned from the kit's proof for one text) -/
def stS (σ : List Str) (v : Str) : List Str := if σ.any (· == v) then σ else σ ++ [v]
def frs (xs : List Str) (i : Nat) : List Str := (xs.take i).foldl stS []
theorem frs_succ {xs : List Str} {i : Nat} (h : i < xs.length) : frs xs (i + 1) = stS (frs xs i) (xs.getD i Str.empty) := by
  unfold frs
  rw [List.take_add_one, List.getElem?_eq_getElem h, List.foldl_append, List.getD_eq_getElem?_getD, List.getElem?_eq_getElem h] <;> rfl
theorem stS_any (σ : List Str) (v k : Str) : (stS σ v).any (· == k) = (σ.any (· == k) || decide (k = v)) := by
  unfold stS
  by_cases h : σ.any (· == v) = true
  · rw [if_pos h]
    by_cases e : k = v
    · subst e; rw [h]; simp
    · simp [e]
  · rw [if_neg h, List.any_append]
    by_cases e : k = v
    · subst e; simp
    · have hb : (v == k) = false := by simpa [beq_iff_eq] using (fun h' : v = k => e h'.symm)
      simp [hb, e]
theorem stS_len (σ : List Str) (v : Str) : (stS σ v).length = if σ.any (· == v) then σ.length else σ.length + 1 := by
  unfold stS; split <;> simp
theorem frs_len (xs : List Str) : ∀ i, (frs xs i).length ≤ i
  | 0 => by unfold frs; simp
  | i + 1 => by
    by_cases h : i < xs.length
    · rw [frs_succ h, stS_len]
      have := frs_len xs i
      split <;> omega
    · have e : frs xs (i + 1) = frs xs i := by
        unfold frs
        rw [List.take_of_length_le (by omega), List.take_of_length_le (by omega)]
      rw [e]
      have := frs_len xs i
      omega
section
variable {prog : Program} {w : World} {A : Around} {R : Result → Shared → Prop} {I : Addr} {fp wr : List Addr} {G : Array GenState → Array GenState → Prop} {n : Nat} {P : Nat → Value → Prop} {St : Nat → Shared → Prop}
theorem loop_texts (W : WalksS prog w A.in1 I fp wr G n P St) (S : Addr) (hSf : S ∉ fp) (xs : List Str) (hsz : xs.length = n) (hb : n + 1 < scanBound)
    (hval : ∀ i v, P i v → ∃ t, v = .str (xs.getD i Str.empty) t) :
    ∀ (k i : Nat) (s : Shared), n - i = k → i ≤ n → St i s →
      s.heap.SetOf (PySem.strKind prog w) S (fun k' => (frs xs i).any (· == k')) (frs xs i).length →
      (∀ s', Moved (S :: wr) G s s' → s'.heap.SetOf (PySem.strKind prog w) S (fun k' => (frs xs n).any (· == k')) (frs xs n).length → R (.ok (.ret .none)) s') →
      codeAny (model prog w) A (.builtin "set.update.loop" ⟨[.ref S, .ref I], []⟩) R s := by
  have hSw : S ∉ wr := fun h => hSf (W.sub _ h)
  have hsub : ∀ b ∈ wr, b ∈ S :: wr := fun b hb => List.mem_cons_of_mem _ hb
  intro k
  induction k with
  | zero =>
    intro i s hk hi hst hS hR
    have hin : i = n := by omega
    subst hin
    refine codeAny_builtin PyProof.Rows.F.entry_set_update_loop ?_
    rw [Around.under_plainId PyProof.Rows.F.plain_set_update_loop _]
    show wpAny _ A.in1 (pyNext (.ref I) >>= _) _ _ s
    refine wpAny_bind (W.done s _ _ hst fun s' hm => ?_)
    show wpAny _ A.in1 (ret Value.none) _ _ s'
    exact wpAny_pure (hR s' (hm.mono hsub) (by
      obtain ⟨o, es, ep, t, ho, rest⟩ := hS
      exact ⟨o, es, ep, t, hm.heap S _ hSw ho, rest⟩))
  | succ k ih =>
    intro i s hk hi hst hS hR
    have hlt : i < n := by omega
    have hroom : (frs xs i).length + 1 < scanBound := by have := frs_len xs i; omega
    refine codeAny_builtin PyProof.Rows.F.entry_set_update_loop ?_
    rw [Around.under_plainId PyProof.Rows.F.plain_set_update_loop _]
    show wpAny _ A.in1 (pyNext (.ref I) >>= _) _ _ s
    refine wpAny_bind (W.item i s _ _ hlt hst fun v s' hP hst' hm => ?_)
    obtain ⟨t, rfl⟩ := hval i v hP
    have hS' : s'.heap.SetOf (PySem.strKind prog w) S (fun k' => (frs xs i).any (· == k')) (frs xs i).length := by
      obtain ⟨o, es, ep, tb, ho, rest⟩ := hS
      exact ⟨o, es, ep, tb, hm.heap S _ hSw ho, rest⟩
    show wpAny _ A.in1 (holding [Value.str (xs.getD i Str.empty) t] (setAdd S (.str (xs.getD i Str.empty) t)) >>= _) _ _ s'
    refine wpAny_bind (wpAny_holding ?_)
    unfold setAdd
    refine wpAny_holding ?_
    refine wpAny_bind ((PySem.strKind prog w).pyHash (k := xs.getD i Str.empty) (strKind_is _ _ _ _) ?_)
    refine wpAny_setAddHashed_of (knd := PySem.strKind prog w) (s := { s' with toks := s'.toks + 1 }) (strKind_is _ _ _ _) rfl hS' hroom fun h' hsb hS2 => ?_
    have hSi : h'.SetOf (PySem.strKind prog w) S (fun k' => (frs xs (i + 1)).any (· == k')) (frs xs (i + 1)).length :=
      SetOf_congr hS2 (fun k' => by rw [frs_succ (by omega), stS_any]) (by rw [frs_succ (by omega), stS_len])
    refine wpAny_pure ⟨plainId_quiet PyProof.Rows.F.plain_set_update_loop _, ih (i + 1) _ (by omega) hlt (W.frame _ s' _ _ hst' (Nat.le_succ _) fun b hb o e => ?_) hSi fun s'' hm'' hS'' => ?_⟩
    · rw [hsb.2 b (fun h : b = S => hSf (by rw [← h]; exact hb))]; exact e
    · refine hR s'' (Moved.trans W.gtrans ((hm.mono hsub).then_heap (Nat.le_succ _) fun b o hb e => ?_) hm'') hS''
      rw [hsb.2 b (fun h : b = S => hb (by rw [h]; exact List.mem_cons_self))]; exact e
end


section
variable {prog : Program} {w : World} {A : Around} {E : Value → Shared → Prop} {s : Shared}
set_option maxHeartbeats 3200000 in
theorem call_set_texts {l : Addr} {items : Array Value} {xs : List Str} {Q : Value → Shared → Prop}
    (hh : A.handled = none) (hl : s.heap.IsList l items) (hi : PyProof.Rows.StrsAre items.toList xs) (hn1 : xs.length + 1 < scanBound)
    (h : ∀ (h' : Heap) (tk : Nat), h'.SetOf (PySem.strKind prog w) s.heap.objs.size (fun k' => (frs xs items.size).any (· == k')) (frs xs items.size).length →
      (∀ b o, b < s.heap.objs.size → s.heap.get? b = some o → h'.get? b = some o) → Q (.ref s.heap.objs.size) { s with heap := h', toks := tk }) :
    wpAny (model prog w) A (call (.type "set") [.ref l]) Q E s := by
  obtain ⟨c, tl, hmro⟩ := PySem.F.called_set.mro
  have hmade := PySem.F.called_set.made
  have hsub := PySem.F.called_set.sub
  refine wpAny_call (codeAny_of_tree ?_)
  show wpAny _ _ (callAny (.type "set") _) _ _ _
  refine wpAny_pure ⟨Code.quiet_builtin _ (by decide +kernel), codeAny_builtin PySem.F.entry_type_call ?_⟩
  rw [Around.under_plain (weight_type_call_type "set" [.ref l] []) rfl]
  have h1 := PySem.F.called_set.notType
  have h2 := PySem.F.called_set.canCreate
  have hct := PySem.F.typeCall_set_1 (.ref l)
  repeat (any_goals (first | assumption | wp_step))

  refine codeAny_mono (code_set_new_1 (.ref l) (E := E) (Q₁ := fun obj s₁ => ∃ led : Bool, obj = .ref s.heap.objs.size ∧ s₁ = { s with heap := s.heap.push { cls := .type "set", dict := none, data := .set #[] 0 (.fresh 0 0 led) } }) fun led => ⟨led, rfl, rfl⟩) fun r s₁ hr => ?_
  cases r with
  | error e => exact hr
  | ok fl =>
    cases fl with
    | ret obj =>
      obtain ⟨led, rfl, rfl⟩ := hr
      have hS : (s.heap.push { cls := .type "set", dict := none, data := .set #[] 0 (.fresh 0 0 led) }).get? s.heap.objs.size = some { cls := .type "set", dict := none, data := .set #[] 0 (.fresh 0 0 led) } := Heap.get?_push_size _ rfl
      have hT : Shared.TypeIs { s with heap := s.heap.push { cls := .type "set", dict := none, data := .set #[] 0 (.fresh 0 0 led) } } (.ref s.heap.objs.size) "set" := ⟨_, hS, rfl⟩
      have hli := PySem.F.called_set.init.lookup
      have hbi := PySem.F.called_set.init.bind (.ref s.heap.objs.size)
      repeat (any_goals (first | assumption | wp_step))

      refine codeAny_mono (codeAny_call_builtin (R := wants (fun r s₂ => r = .none ∧ ∃ h' tk, s₂ = { s with heap := h', toks := tk } ∧
          h'.SetOf (PySem.strKind prog w) s.heap.objs.size (fun k' => (frs xs items.size).any (· == k')) (frs xs items.size).length ∧
          (∀ b o, b < s.heap.objs.size → s.heap.get? b = some o → h'.get? b = some o)) E) PySem.F.called_set.init.plain PySem.F.entry_set_init (check_set_init_1 hT ?_)) fun r₂ s₂ hr₂ => ?_
      · obtain ⟨ol, hol, hcl, nl, hdl⟩ := hl
        obtain ⟨ocls, odict, odata, oslots⟩ := ol
        simp only at hcl hdl
        subst hcl; subst hdl
        have hol' : (s.heap.push { cls := .type "set", dict := none, data := .set #[] 0 (.fresh 0 0 led) }).get? l = some { cls := .type "list", dict := odict, data := .seq items nl, slots := oslots } := Heap.get?_push_of_some _ hol
        have hsls := PySem.F.sub_list_set
        have hslf := PySem.F.sub_list_frozenset
        have hne : (Value.type "list" == Value.type "dict") = false := by decide
        have hl1 : (s.heap.push { cls := .type "set", dict := none, data := .set #[] 0 (.fresh 0 0 led) }).IsList l items := ⟨_, hol', rfl, nl, rfl⟩
        unfold Builtin.«set.__init__» noKeywords Builtin.Frozenset.updateFrom
        generalize hPI : pyIter = PI
        wp_walk
        subst hPI

        refine wpAny_pyIter_list hl1 ?_
        refine wpAny_bind (wpAny_runValue ?_)
        have hlS : l < s.heap.objs.size := Heap.lt_size hol
        have hh3 : A.in1.in1.in1.handled = none := by simp [hh]
        have hneI : l ≠ (s.heap.push { cls := .type "set", dict := none, data := .set #[] 0 (.fresh 0 0 led) }).objs.size := by
          rw [Heap.size_push]; exact Nat.ne_of_lt (Nat.lt_succ_of_lt hlS)
        have hSf : s.heap.objs.size ∉ [(s.heap.push { cls := .type "set", dict := none, data := .set #[] 0 (.fresh 0 0 led) }).objs.size, l] := by
          rw [Heap.size_push]; simp only [List.mem_cons, List.mem_singleton, List.not_mem_nil, or_false, not_or]
          exact ⟨Nat.ne_of_lt (Nat.lt_succ_self _), Nat.ne_of_gt hlS⟩
        have hsz : xs.length = items.size := by rw [← StrsAre.len_eq hi, Array.length_toList]
        have hval : ∀ (i : Nat) (v : Value), items[i]? = some v → ∃ t, v = .str (xs.getD i Str.empty) t := fun i v hv => strs_at hi i v (by rw [Array.getElem?_toList]; exact hv)
        refine loop_texts ((Walks.list hh3 _ l hneI items).toS) s.heap.objs.size
          hSf xs hsz (by rw [← hsz]; exact hn1) hval (items.size - 0) 0 _ (by omega) (Nat.zero_le _)
          ⟨⟨_, Heap.get?_push_size _ rfl, rfl, rfl⟩, (hl1.push _)⟩ ?hS0 ?hR
        case hS0 =>
          have hget : ((s.heap.push { cls := .type "set", dict := none, data := .set #[] 0 (.fresh 0 0 led) }).push { cls := .type "list_iterator", data := .fields #[.ref l, .int 0 0] }).get? s.heap.objs.size
              = some { cls := .type "set", dict := none, data := .set #[] 0 (.fresh 0 0 led) } := Heap.get?_push_of_some _ hS
          exact PyProof.Rows.SetOf_congr ((PyProof.Rows.setObjOf_fresh (knd := PySem.strKind prog w) led).setOf hget (by unfold scanBound; omega)) (fun _ => rfl) rfl
        case hR =>
          intro s' hm hS'
          obtain ⟨h', g', d', tk', os'⟩ := s'
          have eg : g' = s.gens := hm.gens
          have ed : d' = s.drawn := hm.drawn
          have eo : os' = s.os := hm.os
          subst eg; subst ed; subst eo
          show wpAny _ _ _ _ _ _
          refine wpAny_pure ?_
          show wpAny _ _ (ret Value.none) _ _ _
          refine wpAny_pure ⟨rfl, h', tk', rfl, hS', fun b o hb e => ?_⟩
          have hb1 : b ≠ s.heap.objs.size := Nat.ne_of_lt hb
          have hb2 : b ≠ (s.heap.push { cls := .type "set", dict := none, data := .set #[] 0 (.fresh 0 0 led) }).objs.size := by
            rw [Heap.size_push]; exact Nat.ne_of_lt (Nat.lt_succ_of_lt hb)
          exact hm.heap b o (by simp only [List.mem_cons, List.mem_singleton, List.not_mem_nil, or_false, not_or]; exact ⟨hb1, hb2⟩) (Heap.get?_push_of_some _ (Heap.get?_push_of_some _ e))

      · cases r₂ with
        | error e => exact hr₂
        | ok fl₂ =>
          cases fl₂ with
          | ret r =>
            obtain ⟨rfl, h', tk, rfl, hS', hk'⟩ := hr₂
            repeat (any_goals (first | assumption | wp_step))
            exact h _ _ hS' hk'
          | _ => exact hr₂.elim
    | _ => exact hr.elim


end
end DL

namespace L2
open PySem PySem.Spec PyProof.Rows
def tLenTx (K : PySem.W.Frag) (ta : TE) : TE := fun σ H Q => ta σ H fun x H1 => ∃ l, ∃ xs : List Str, x = .ref l ∧ SqL K H1 l (xs.map V.str) ∧ xs.length ≤ 4000 ∧ Q (.int (DL.frs xs xs.length).length) H1
theorem strsAre_texts : ∀ {ys : List Str} {us : List Value}, Vals (ys.map V.str) us → StrsAre us ys
  | [], _, .nil => .nil
  | y :: ys, _, .cons r t => by
    obtain ⟨k, rfl⟩ := r
    exact .cons y k (strsAre_texts t)
/-- len(set(xs)) of a list of texts -/
theorem pe_lenTx {X : Cx} {a : Expr} {ta : TE} {p p2 q pos : Pos} (hc : X.calm = true) (hg : Gl X "len") (hm : X.mg "len" = none) (hg2 : Gl X "set") (hm2 : X.mg "set" = none) (ha : PE X a ta)
    (na : starEach [a] X.env = (false, eval a X.env) :: starEach [] X.env := by rfl) : PE X (.Call (.Name "len" p) [.Call (.Name "set" p2) [a] [] q] [] pos) (tLenTx X.K ta) := by
  refine ⟨fun pins s σ H Q I h => ?_⟩
  refine Call_ (ld_blt I hg hm boot_len ?_)
  refine PyProof.Rows.callWith_builtin1 (PyProof.Rows.args_cons ?_ rfl) rfl rfl
  refine Call_ (ld_blt I hg2 hm2 boot_set ?_)
  refine PyProof.Rows.callWith_type1 (PyProof.Rows.args_cons (thn (ha.run pins s σ H _ I h) fun v s1 ⟨x, H1, I1, r1, q1⟩ => PyProof.Rows.args_nil ?_) na) na rfl
  obtain ⟨l, xs, rfl, hq, h1, q1⟩ := q1
  cases r1
  obtain ⟨its, r, pl, hz⟩ := I1.list hq
  have hl : its.toArray.size = xs.length := by rw [List.size_toArray, ← r.length, List.length_map]
  refine DL.call_set_texts (I1.ok.hd hc) pl.isList (xs := xs) (by simpa using strsAre_texts r) (by unfold scanBound; omega) fun h' tk hS hk => ?_
  refine PyProof.Rows.args_nil ?_
  rw [hl] at hS
  obtain ⟨o, es, ep, t, ho, hex, hd, _, _, _, hf, hn⟩ := hS
  have I2 : Inv X pins σ H1 { s1 with heap := h', toks := tk } := I1.kept fun b o e => hk b o (Heap.lt_size e) e
  have hle := DL.frs_len xs xs.length
  exact call_len_set ho hex hd hf (by rw [hn] <;> omega) ⟨.int (DL.frs xs xs.length).length, H1, I2.tok _, ⟨_, by rw [hn]⟩, q1⟩
end L2
namespace DL
open PySem L2 PyProof.Rows
/-! ### len(set(..)) -/
def strsP : List P → Option (List Str)
  | [] => some []
  | .str i :: xs => match strsP xs with
    | some r => some (i :: r)
    | none => none
  | _ => none
theorem strsP_ok {K : PySem.W.Frag} {io : List Addr} {G : Hp} : ∀ {xs : List P} {ys : List Str} {vs : List V}, strsP xs = some ys → Rps K io G xs vs → vs = ys.map V.str
  | [], ys, vs, h, r => by
    cases h
    simp only [Rps] at r
    exact r
  | x :: xs, ys, vs, h, r => by
    simp only [Rps] at r
    obtain ⟨v, t, rfl, rx, rt⟩ := r
    unfold strsP at h
    split at h
    · rename_i e
      cases e
    · rename_i i xs' e
      cases e
      split at h
      · rename_i q e2
        cases h
        simp only [Rp] at rx
        rw [rx, strsP_ok e2 rt] <;> rfl
      · cases h
    · cases h
def dLenTx (f : DEn) : DEn := fun env cs => (f env cs).bind fun d cs => match lstk cs d with
  | some xs => (match strsP xs with
    | some ys => if ys.length ≤ 4000 then .ok (.int (frs ys ys.length).length) cs else .stuck
    | none => .stuck)
  | none => .stuck
section
variable {X : Cx} {W : WX} {hx : Hx} {a : Expr} {f : DEn} {p p2 q pos : Pos}
theorem je_lenTx (hc : X.calm = true) (hg : Gl X "len") (hm : X.mg "len" = none) (hg2 : Gl X "set") (hm2 : X.mg "set" = none) (ha : JE X W hx a f)
    (na : starEach [a] X.env = (false, eval a X.env) :: starEach [] X.env := by rfl) : JE X W hx (.Call (.Name "len" p) [.Call (.Name "set" p2) [a] [] q] [] pos) (dLenTx f) := by
  obtain ⟨t, a1, a2⟩ := ha
  refine ⟨_, pe_lenTx hc hg hm hg2 hm2 a1 na, ?_⟩
  intro io G H cs env σ Q s k
  refine a2 io G H cs env σ _ s (AfR.imp (AfR.bind k) fun i g1 h1 c d l w k v rv => ?_)
  cases e : lstk c d with
  | none => rw [e] at k; exact k.elim
  | some xs =>
    rw [e] at k
    dsimp only at k
    cases e2 : strsP xs with
    | none => rw [e2] at k; exact k.elim
    | some ys =>
      rw [e2] at k
      dsimp only at k
      split at k
      · rename_i hz
        obtain ⟨b, vs, rfl, q, t⟩ := lstk_ok w e rv
        have ev := strsP_ok e2 t
        subst ev
        exact ⟨b, ys, rfl, q, hz, AfR.ok k w _ (by simp only [Rp])⟩
      · exact k.elim
end

/-! ### while -/
def dWh (t : DTn) (b : DSn) : Nat → DSn
  | 0, _, _ => .stuck
  | n + 1, env, cs => match t env cs with
    | .ok true c => (match b env c with
      | .nx e c => dWh t b n e c
      | .ct e c => dWh t b n e c
      | .bk e c => .nx e c
      | o => o)
    | .ok false c => .nx env c
    | .ex e c => .ex e env c
    | .stuck => .stuck
open Classical in
/-- so many turns as it takes -/
noncomputable def dWhile (t : DTn) (b : DSn) : DSn := fun env cs => if h : ∃ n, dWh t b n env cs ≠ .stuck then dWh t b h.choose env cs else .stuck
theorem dWh_mono {t : DTn} {b : DSn} : ∀ {n m : Nat} {env : Env} {cs : Cells}, n ≤ m → dWh t b n env cs ≠ .stuck → dWh t b m env cs = dWh t b n env cs
  | 0, _, _, _, _, h => absurd rfl h
  | n + 1, 0, _, _, hl, _ => by omega
  | n + 1, m + 1, env, cs, hl, h => by
    simp only [dWh] at h ⊢
    split
    · rename_i c hc
      rw [hc] at h
      dsimp only at h
      cases q : b env c with
      | nx e2 c2 => rw [q] at h; exact dWh_mono (by omega) h
      | ct e2 c2 => rw [q] at h; exact dWh_mono (by omega) h
      | bk e2 c2 => rfl
      | rt d c2 => rfl
      | ex e en c2 => rfl
      | stuck => rfl
    · rfl
    · rfl
    · rfl
theorem dWhile_eq {t : DTn} {b : DSn} {n : Nat} {env : Env} {cs : Cells} (h : dWh t b n env cs ≠ .stuck) : dWhile t b env cs = dWh t b n env cs := by
  have he : ∃ n, dWh t b n env cs ≠ .stuck := ⟨n, h⟩
  unfold dWhile
  rw [dif_pos he]
  rcases Nat.le_total n he.choose with q | q
  · exact dWh_mono q h
  · exact (dWh_mono q he.choose_spec).symm
section
variable {X : Cx} {W : WX} {hx : Hx} {c : Expr} {body : List Stmt} {t : DTn} {fs : DSn} {pos : Pos}
theorem js_while (hp : PassesOwn (model X.prog X.w) X.A X.env X.xe) (hc : JT X W hx c t) (hb : JB X W hx body fs) : JS X W hx (.While c body [] pos) (dWhile t fs) := by
  obtain ⟨tc, a1, a2⟩ := hc
  obtain ⟨tb, b1, b2⟩ := hb
  refine ⟨_, ps_while hp a1 b1, ?_⟩
  intro io G H cs env σ D s k
  unfold dWhile at k
  split at k
  · rename_i he
    generalize he.choose = n at k
    refine ⟨fun m σ' H' => ∃ io' G' env' cs', Sta X.K hx io' G' H' cs' env' σ' ∧ AfS X.K hx W D io' G' H' (dWh t fs m env' cs'), ⟨n, io, G, env, cs, s, k⟩, ?_⟩
    rintro m σ' H' ⟨io', G', env', cs', st, k2⟩
    cases m with
    | zero => exact k2.elim
    | succ m =>
      simp only [dWh] at k2
      refine a2 io' G' H' cs' env' σ' _ st ?_
      cases q : t env' cs' with
      | stuck => rw [q] at k2; exact k2
      | ex e c1 => rw [q] at k2; exact fun i g h cl dd l w xo => k2 i g h σ' cl dd l (st.to l w) xo
      | ok b c1 =>
        rw [q] at k2
        intro i g h l w
        have s1 := st.to l w
        cases b with
        | false => exact k2 i g h σ' l s1
        | true =>
          dsimp only at k2
          have k3 := AfS.mono l k2
          refine ⟨fun σ2 H2 => ∃ io' G' env' cs', Sta X.K hx io' G' H2 cs' env' σ2 ∧ AfS X.K hx W D io' G' H2 (dWh t fs m env' cs'), fun σ2 H2 z => ⟨m, Nat.lt_succ_self _, z⟩, ?_⟩
          refine b2 i g h c1 env' σ' _ s1 ?_
          cases r : fs env' c1 with
          | nx e2 c2 => rw [r] at k3; exact fun i2 g2 h2 s2 l2 z => ⟨i2, g2, e2, c2, z, AfS.mono l2 k3⟩
          | ct e2 c2 => rw [r] at k3; exact fun i2 g2 h2 s2 l2 z => ⟨i2, g2, e2, c2, z, AfS.mono l2 k3⟩
          | bk e2 c2 => rw [r] at k3; exact k3
          | rt d c2 => rw [r] at k3; exact k3
          | ex e en c2 => rw [r] at k3; exact k3
          | stuck => rw [r] at k3; exact k3
  · exact k.elim
end

/-! ### a < b < c -/
def dChain (g g' : G2) (fa fb fc : DEn) : DEn := fun env cs => (fa env cs).bind fun x cs => (fb env cs).bind fun y cs => (g x y cs).bind fun z cs => match z with
  | .bl true => (fc env cs).bind fun w cs => g' y w cs
  | .bl false => .ok (.bl false) cs
  | _ => .stuck
end DL

namespace DL
open PySem L2 PyProof.Rows
theorem opd_at {K : PySem.W.Frag} {r : R2} {g : G2} (h : OpD K r g) {W : WX} {io : List Addr} {G H : Hp} {cs : Cells} {σ : L2.St} {x y : P} {v u : V} {Q : VK} (w : WOk K io G H cs) (rx : Rp K io G x v) (ry : Rp K io G y u)
    (k : AfR K W io G H σ (fun io' G' H' _ d => ∀ v, Rp K io' G' d v → Q v H') (g x y cs)) : r v u H Q := h W io G H cs σ x y v u Q w rx ry k
/-! ### a < b < c -/
section
variable {X : Cx} {W : WX} {hx : Hx} {a b c : Expr} {fa fb fc : DEn} {op op' : CmpOp} {g g' : G2} {pos : Pos}
theorem de_chain {r r' : R2} {ta tb tc : TE} (o2 : OpD X.K r g) (o2' : OpD X.K r' g') (a2 : DE X.K hx W ta fa) (b2 : DE X.K hx W tb fb) (c2 : DE X.K hx W tc fc) : DE X.K hx W (tChain r r' ta tb tc) (dChain g g' fa fb fc) := by
  intro io G H cs env σ Q s k
  refine a2 io G H cs env σ _ s (AfR.imp (AfR.bind k) fun i1 g1 h1 c1 x l1 w1 k v rv => ?_)
  refine b2 i1 g1 h1 c1 env σ _ (s.to l1 w1) (AfR.imp (AfR.bind k) fun i2 g2 h2 c2' y l2 w2 k u ru => ?_)
  refine opd_at o2 (σ := σ) w2 (rv.mono l2.io l2.g) ru (AfR.imp (AfR.bind k) fun i3 g3 h3 c3 z l3 w3 k zv rz => ?_)
  cases z with
  | bl bb =>
    simp only [Rp] at rz
    refine ⟨bb, rz, ?_⟩
    cases bb with
    | true =>
      rw [if_pos rfl]
      refine c2 i3 g3 h3 c3 env σ _ (((s.to l1 w1).to l2 w2).to l3 w3) (AfR.imp (AfR.bind k) fun i4 g4 h4 c4 q l4 w4 k wv rw' => ?_)
      exact opd_at o2' (σ := σ) w4 ((ru.mono l3.io l3.g).mono l4.io l4.g) rw' k
    | false =>
      rw [if_neg Bool.false_ne_true]
      exact AfR.ok k w3 _ (by simp only [Rp])
  | _ => exact k.elim
theorem je_chain (o : BinD X (compareOp op) g) (o' : BinD X (compareOp op') g') (ha : JE X W hx a fa) (hb : JE X W hx b fb) (hc : JE X W hx c fc)
    (hm : lastMarks [op, op'] [b, c] = false := by with_unfolding_all rfl) : JE X W hx (.Compare a [op, op'] [b, c] pos) (dChain g g' fa fb fc) := by
  obtain ⟨r, o1, o2⟩ := o
  obtain ⟨r', o1', o2'⟩ := o'
  obtain ⟨ta, a1, a2⟩ := ha
  obtain ⟨tb, b1, b2⟩ := hb
  obtain ⟨tc, c1, c2⟩ := hc
  exact ⟨_, pe_chain o1 o1' a1 b1 c1 hm, de_chain o2 o2' a2 b2 c2⟩
end

/-! ### xs[::-1] -/
def dRev (f : DEn) : DFn := fun env cs => (f env cs).bind fun d cs => match lstk cs d with
  | some xs => .ok (.lst xs.reverse) cs
  | none => .stuck
theorem Rps.rev {K : PySem.W.Frag} {io : List Addr} {G : Hp} : ∀ {xs : List P} {vs : List V}, Rps K io G xs vs → Rps K io G xs.reverse vs.reverse
  | [], _, h => by
    simp only [Rps] at h
    subst h
    simp only [List.reverse_nil, Rps]
  | x :: xs, _, h => by
    simp only [Rps] at h
    obtain ⟨v, r, rfl, rx, rt⟩ := h
    rw [List.reverse_cons, List.reverse_cons]
    exact (Rps.rev rt).append (by simp only [Rps]; exact ⟨v, [], rfl, rx, rfl⟩)
section
variable {X : Cx} {W : WX} {hx : Hx} {e : Expr} {f : DEn} {k : Nat} {p1 p2 p3 pos : Pos}
theorem jf_rev (h : JE X W hx e f) : JF X W hx (.Subscript e (.Slice none none (some (.UnaryOp .USub (.Constant (.int 1) k p1) p2)) p3) pos) (dRev f) := by
  obtain ⟨t, a1, a2⟩ := h
  refine ⟨_, pe_revL a1, ?_⟩
  intro io G H cs env σ Q s k
  refine a2 io G H cs env σ _ s (AfR.imp (AfR.bind k) fun i g h c d l w k v rv => ?_)
  cases e : lstk c d with
  | none => rw [e] at k; exact k.elim
  | some xs =>
    rw [e] at k
    obtain ⟨a, vs, rfl, q, t⟩ := lstk_ok w e rv
    refine ⟨a, vs, rfl, q, fun p n => ?_⟩
    obtain ⟨gn, np⟩ := w.free n
    exact k i g _ (Le.lay n) (w.lay n) p (l.new n) np (by rw [upd_same]; simp) ⟨gn, vs.reverse, upd_same, t.rev⟩ (by simp)
end

/-! ### enumerate, zip -/
def enumP (i : Nat) : List P → List P
  | [] => []
  | x :: r => .tup [.int (i : Int), x] :: enumP (i + 1) r
def zipP : List P → List P → List P
  | x :: xs, y :: ys => .tup [x, y] :: zipP xs ys
  | _, _ => []
theorem enumP_get : ∀ {xs : List P} {k i : Nat} {d : P}, (enumP k xs)[i]? = some d → ∃ x, xs[i]? = some x ∧ d = .tup [.int ((k + i : Nat) : Int), x]
  | [], _, _, _, h => by simp [enumP] at h
  | x :: xs, k, 0, d, h => by
    simp [enumP] at h
    exact ⟨x, rfl, by rw [← h]; rfl⟩
  | x :: xs, k, i + 1, d, h => by
    simp only [enumP, List.getElem?_cons_succ] at h
    obtain ⟨y, e1, e2⟩ := enumP_get h
    exact ⟨y, by simpa using e1, by rw [e2]; congr 3; omega⟩
theorem enumP_len : ∀ {xs : List P} {k : Nat}, (enumP k xs).length = xs.length
  | [], _ => rfl
  | _ :: xs, k => by rw [enumP, List.length_cons, List.length_cons, enumP_len]
theorem zipP_get : ∀ {xs ys : List P} {i : Nat} {d : P}, (zipP xs ys)[i]? = some d → ∃ x y, xs[i]? = some x ∧ ys[i]? = some y ∧ d = .tup [x, y]
  | [], _, _, _, h => by simp [zipP] at h
  | _ :: _, [], _, _, h => by simp [zipP] at h
  | x :: xs, y :: ys, 0, d, h => by
    simp [zipP] at h
    exact ⟨x, y, rfl, rfl, h.symm⟩
  | x :: xs, y :: ys, i + 1, d, h => by
    simp only [zipP, List.getElem?_cons_succ] at h
    obtain ⟨a, b, e1, e2, e3⟩ := zipP_get h
    exact ⟨a, b, by simpa using e1, by simpa using e2, e3⟩
theorem zipP_len : ∀ {xs ys : List P}, (zipP xs ys).length = min xs.length ys.length
  | [], ys => by simp [zipP]
  | _ :: _, [] => by simp [zipP]
  | _ :: xs, _ :: ys => by simp only [zipP, List.length_cons, zipP_len]; omega
section
variable {K : PySem.W.Frag} {io : List Addr} {G H : Hp} {cs : Cells}
/-- a new tuple, handed out by a loop's source -/
theorem new_tup (w : WOk K io G H cs) {xs : List P} {vs : List V} (r : Rps K io G xs vs) {T : Addr} (n : H T = none) : Le io G H io (upd G T (.tup vs)) (upd H T (.tup vs)) ∧ WOk K io (upd G T (.tup vs)) (upd H T (.tup vs)) cs ∧ Rp K io (upd G T (.tup vs)) (.tup xs) (.ref T) := by
  have w1 := w.lay (o := .tup vs) n
  have np := (w.free n).2
  refine ⟨Le.shareNew (Le.lay n) w1 n upd_same, w1.share upd_same np, ?_⟩
  simp only [Rp]
  exact ⟨T, vs, rfl, upd_same, r.mono (List.prefix_refl _) (same_upd (w.free n).1)⟩
theorem src_enum {a : Addr} {xs : List P} {ok : Cells → Bool}
    (st : ∀ io' G' H' cs', Le io G H io' G' H' → WOk K io' G' H' cs' → ok cs' = true → ∃ us, SqL K H' a us ∧ Rps K io' G' xs us) : Src K (Ite K a) io G H (enumP 0 xs) ok where
  go := fun i io' G' H' cs' l w h d hd => by
    obtain ⟨us, q, t⟩ := st io' G' H' cs' l w h
    obtain ⟨x, ex, ed⟩ := enumP_get hd
    obtain ⟨v, ev, rv⟩ := t.get ex
    refine ⟨⟨us, v, q, ev⟩, fun y H2 ⟨T, x', e1, n, e2, hx⟩ => ?_⟩
    have z := hx us q
    rw [ev] at z
    cases z
    subst e1 e2 ed
    obtain ⟨l2, w2, r2⟩ := new_tup w (xs := [.int ((0 + i : Nat) : Int), x]) (vs := [.int (i : Nat), v]) (by simp only [Rps, Rp]; exact ⟨_, _, rfl, by rw [Nat.zero_add], _, _, rfl, rv, rfl⟩) n
    exact ⟨io', _, l2, w2, r2⟩
  stop := fun io' G' H' cs' l w h => by
    obtain ⟨us, q, t⟩ := st io' G' H' cs' l w h
    exact ⟨us, q, by rw [t.length, enumP_len]; exact Nat.le_refl _⟩
theorem src_zip {a b : Addr} {xs ys : List P} {ok : Cells → Bool}
    (st : ∀ io' G' H' cs', Le io G H io' G' H' → WOk K io' G' H' cs' → ok cs' = true → (∃ us, SqL K H' a us ∧ Rps K io' G' xs us) ∧ ∃ us, SqL K H' b us ∧ Rps K io' G' ys us) : Src K (Itz K a b) io G H (zipP xs ys) ok where
  go := fun i io' G' H' cs' l w h d hd => by
    obtain ⟨⟨us, q, t⟩, us2, q2, t2⟩ := st io' G' H' cs' l w h
    obtain ⟨x, y, ex, ey, ed⟩ := zipP_get hd
    obtain ⟨v, ev, rv⟩ := t.get ex
    obtain ⟨v2, ev2, rv2⟩ := t2.get ey
    refine ⟨⟨us, us2, v, v2, q, q2, ev, ev2⟩, fun z H2 ⟨T, x', y', e1, n, e2, hx, hy⟩ => ?_⟩
    have z1 := hx us q
    have z2 := hy us2 q2
    rw [ev] at z1
    rw [ev2] at z2
    cases z1
    cases z2
    subst e1 e2 ed
    obtain ⟨l2, w2, r2⟩ := new_tup w (xs := [x, y]) (vs := [v, v2]) (by simp only [Rps]; exact ⟨_, _, rfl, rv, _, _, rfl, rv2, rfl⟩) n
    exact ⟨io', _, l2, w2, r2⟩
  stop := fun io' G' H' cs' l w h => by
    obtain ⟨⟨us, q, t⟩, us2, q2, t2⟩ := st io' G' H' cs' l w h
    refine ⟨us, us2, q, q2, ?_⟩
    rw [t.length, t2.length, zipP_len]
    omega
end
/-- a list, and what must hold so that it stays -/
noncomputable def walkL (cs : Cells) : P → Option (List P × (Cells → Bool))
  | .lst xs => some (xs, yes)
  | .klst xs => some (xs, yes)
  | .cell n => match cs[n]? with
    | some (.lst xs) => some (xs, isAt n xs)
    | _ => none
  | _ => none
theorem walkL_ok {K : PySem.W.Frag} {io : List Addr} {G H : Hp} {cs : Cells} {d : P} {v : V} {L : List P × (Cells → Bool)} (w : WOk K io G H cs) (h : walkL cs d = some L) (r : Rp K io G d v) :
    ∃ a, v = .ref a ∧ (∃ us, SqL K H a us) ∧ L.1.length ≤ L.1.length ∧ ∀ io' G' H' cs', Le io G H io' G' H' → WOk K io' G' H' cs' → L.2 cs' = true → ∃ us, SqL K H' a us ∧ Rps K io' G' L.1 us := by
  unfold walkL at h
  split at h
  · cases h
    simp only [Rp] at r
    obtain ⟨a, vs, rfl, e, t⟩ := r
    exact ⟨a, rfl, ⟨vs, .inl (.inl (w.same _ _ e))⟩, Nat.le_refl _, fun io' G' H' cs' l w' _ => ⟨vs, .inl (.inl (w'.same _ _ (l.g _ _ e))), t.mono l.io l.g⟩⟩
  · cases h
    simp only [Rp] at r
    obtain ⟨a, vs, rfl, e, t⟩ := r
    exact ⟨a, rfl, ⟨vs, w.same.seq e⟩, Nat.le_refl _, fun io' G' H' cs' l w' _ => ⟨vs, w'.same.seq (l.g.seq e), t.mono l.io l.g⟩⟩
  · rename_i n
    split at h
    · rename_i xs ec
      cases h
      simp only [Rp] at r
      obtain ⟨a, ea, rfl⟩ := r
      obtain ⟨_, vs, e1, _⟩ := w.live n a _ ea ec
      refine ⟨a, rfl, ⟨vs, .inl (.inl e1)⟩, Nat.le_refl _, fun io' G' H' cs' l w' hok => ?_⟩
      obtain ⟨_, us, e2, t2⟩ := w'.live n a _ (pre_get l.io ea) (isAt_iff.mp hok)
      exact ⟨us, .inl (.inl e2), t2⟩
    · cases h
  · cases h
noncomputable def dEnum (f : DAn) : DIn := fun env cs => (f env cs).bind fun ds cs => match ds with
  | [d] => (match walkL cs d with
    | some L => .ok (enumP 0 L.1, L.2) cs
    | none => .stuck)
  | _ => .stuck
noncomputable def dZip (f : DAn) : DIn := fun env cs => (f env cs).bind fun ds cs => match ds with
  | [d, d2] => (match walkL cs d, walkL cs d2 with
    | some L, some M => .ok (zipP L.1 M.1, fun c => L.2 c && M.2 c) cs
    | _, _ => .stuck)
  | _ => .stuck
section
variable {X : Cx} {W : WX} {hx : Hx} {e e2 : Expr} {elts : List Expr} {kk : Nat} {tpos p pos : Pos} {f : DAn}
theorem ji_enum (hg : Gl X "enumerate") (hm : X.mg "enumerate" = none) (ha : JA X W hx [e] f) (hs : starEach [e] X.env = [(false, eval e X.env)] := by rfl) : JI X W hx (.Tuple elts kk tpos) (.Call (.Name "enumerate" p) [e] [] pos) (dEnum f) := by
  obtain ⟨t, a1, a2⟩ := ha
  refine ⟨_, pi_enum hg hm a1 hs, ?_⟩
  intro io G H cs env σ R s k
  refine a2 io G H cs env σ _ s (AfR.imp (AfR.bind k) fun i g h c ds l w k vs rv => ?_)
  split at k
  · rename_i d
    cases e : walkL c d with
    | none => rw [e] at k; exact k.elim
    | some L =>
      rw [e] at k
      simp only [Rps] at rv
      obtain ⟨v, r, rfl, rx, rfl⟩ := rv
      obtain ⟨a, rfl, ⟨us, q⟩, _, st⟩ := walkL_ok w e rx
      exact ⟨a, us, rfl, q, AfR.ok k w _ (src_enum st)⟩
  · exact k.elim
theorem ji_zip (hg : Gl X "zip") (hm : X.mg "zip" = none) (ha : JA X W hx [e, e2] f) (hs : starEach [e, e2] X.env = (false, eval e X.env) :: starEach [e2] X.env := by rfl)
    (hpl : (backTo pos (starEach [e2] X.env)).any (·.1) = false := by rfl) : JI X W hx (.Tuple elts kk tpos) (.Call (.Name "zip" p) [e, e2] [] pos) (dZip f) := by
  obtain ⟨t, a1, a2⟩ := ha
  refine ⟨_, pi_zip hg hm a1 hs hpl, ?_⟩
  intro io G H cs env σ R s k
  refine a2 io G H cs env σ _ s (AfR.imp (AfR.bind k) fun i g h c ds l w k vs rv => ?_)
  split at k
  · rename_i d d2
    split at k
    · rename_i L M e1 e2'
      simp only [Rps] at rv
      obtain ⟨v, r, rfl, rx, v2, r2, rfl, ry, rfl⟩ := rv
      obtain ⟨a, rfl, ⟨us, q⟩, _, st⟩ := walkL_ok w e1 rx
      obtain ⟨b, rfl, ⟨us2, q2⟩, _, st2⟩ := walkL_ok w e2' ry
      refine ⟨a, b, us, us2, rfl, q, q2, AfR.ok k w _ (src_zip fun io' G' H' cs' l w' hok => ?_)⟩
      have hok : (L.2 cs' && M.2 cs') = true := hok
      rw [Bool.and_eq_true] at hok
      exact ⟨st _ _ _ _ l w' hok.1, st2 _ _ _ _ l w' hok.2⟩
    · exact k.elim
  · exact k.elim
end

/-! ### {k: v for .. in ..} -/
def dDcL (ok : Cells → Bool) (g : DGn) (ft : DTn) (fk fe : DEn) (env : Env) : List P → Cells → List (Key × P) → Rs CO
  | [], cs, acc => if ok cs = true then .ok (.dK acc) cs else .stuck
  | x :: r, cs, acc => if ok cs = true then (match g x env cs with
    | none => .stuck
    | some e => match ft e cs with
      | .ok true c => (match fk e c with
        | .ok kp c => (match keyP kp with
          | some k => (match fe e c with
            | .ok d c => dDcL ok g ft fk fe env r c (putP acc k d)
            | _ => .stuck)
          | none => .stuck)
        | _ => .stuck)
      | .ok false c => dDcL ok g ft fk fe env r c acc
      | _ => .stuck) else .stuck
def dDc (T : List Nat) (fi : DIn) (g : DGn) (ft : DTn) (fk fe : DEn) : DFn := fun env cs => (fi env cs).bind fun L cs => if L.1.length ≤ sizeLine then dDcL L.2 g ft fk fe (wipeE env T) L.1 cs [] else .stuck
theorem putP_len {κ : Type} [DecidableEq κ] (kvs : List (κ × P)) (k : κ) (v : P) : (putP kvs k v).length ≤ kvs.length + 1 := by
  unfold putP
  split
  · rw [List.length_map]; omega
  · rw [List.length_append]; simp
section
variable {X : Cx} {W : WX} {kx vx tg iter : Expr} {ifs : List Expr} {scope : Scope} {own : List (Str × Nat)} {pos : Pos} {fi : DIn} {g : DGn} {ft : DTn} {fk fe : DEn}
theorem dDcL_ne {ok : Cells → Bool} {env : Env} : ∀ (L : List P) (cs acc) (a : Ex) (c : Cells), dDcL ok g ft fk fe env L cs acc ≠ .ex a c
  | [], cs, acc, a, c => by
    simp only [dDcL]
    split <;> simp
  | x :: r, cs, acc, a, c => by
    simp only [dDcL]
    split
    · split
      · simp
      · split
        · split
          · split
            · split
              · exact dDcL_ne r _ _ a c
              · simp
            · simp
          · simp
        · exact dDcL_ne r _ _ a c
        · simp
    · simp
theorem dc_loop {K : PySem.W.Frag} {T : List Nat} {σ : L2.St} {H1 : Hp} {D : Addr} {J : It} {i1 : List Addr} {g1 : Hp} {L : List P} {ok : Cells → Bool} {env : Env} {cs : Cells} {Q : VK}
    (src : Src K J i1 g1 H1 L ok) (nD : H1 D = none) (hz : L.length ≤ sizeLine) (w1 : WOk K i1 g1 H1 cs) (s1 : Slots K i1 g1 env (L2.wipe σ T))
    (k : AfR K W0 i1 g1 H1 σ (fun io' G' H' _ c => ∀ p, H1 p = none → p ∉ io' → H' p ≠ none → COk K io' G' H' p c → c ≠ .dead → Q (.ref p) H') (dDcL ok g ft fk fe env L cs [])) :
    ∃ Wi : Nat → Nat → Hp → Prop, (∃ m, Wi 0 m (upd H1 D (.dK []))) ∧ ∀ i m H, Wi i m H →
      (J.stop i H ∧ Q (.ref D) H) ∨ (J.go i H ∧ ∃ Nx : Hp → Prop, (∀ H', Nx H' → ∃ m', m' < m ∧ Wi (i + 1) m' H') ∧ ∀ x H', J.yld i H x H' → cG K T g x (L2.wipe σ T) H' fun σ2 H2 => L2.wipe σ2 T = L2.wipe σ T ∧ cT K none W0 ft σ2 H2 fun b H3 =>
        if b = true then cE K none W0 fk σ2 H3 fun y H4 => cE K none W0 fe σ2 H4 fun z H5 => ∃ kvs k, y = kV k ∧ H5 D = some (.dK kvs) ∧ kvs.length < sizeLine ∧ Nx (upd H5 D (.dK (putK kvs k z))) else Nx H3) := by
  let Nw : Nat → Hp → Prop := fun i H => ∃ io G cs acc vs, Le i1 g1 H1 io G H ∧ WOk K io G H cs ∧ D ∉ io ∧ G D = none ∧ H D = some (.dK vs) ∧ RpK K io G acc vs ∧ acc.length ≤ i ∧
    AfR K W0 i1 g1 H1 σ (fun io' G' H' _ c => ∀ p, H1 p = none → p ∉ io' → H' p ≠ none → COk K io' G' H' p c → c ≠ .dead → Q (.ref p) H') (dDcL ok g ft fk fe env (L.drop i) cs acc)
  refine ⟨fun i m H => m = L.length - i ∧ i ≤ L.length ∧ Nw i H, ⟨_, rfl, Nat.zero_le _, i1, g1, cs, [], [], Le.refl.updNew nD, w1.other (w1.free nD).2 (w1.free nD).1, (w1.free nD).2, (w1.free nD).1, upd_same, by simp only [RpK], Nat.zero_le _, k⟩, ?_⟩
  rintro i m H ⟨rfl, hi, io, G, cs, acc, vs, le, w, nio, gD, hD, ra, hacc, k2⟩
  cases hd : L.drop i with
  | nil =>
    rw [hd] at k2
    simp only [dDcL] at k2
    split at k2
    · rename_i hok
      have ei : i = L.length := by
        have := congrArg List.length hd
        rw [List.length_drop] at this
        simp at this
        omega
      left
      refine ⟨by rw [ei]; exact src.stop io G H cs le w hok, ?_⟩
      exact k2 io G H le w D nD nio (by rw [hD]; simp) ⟨gD, vs, hD, ra⟩ (by simp)
    · exact k2.elim
  | cons d r =>
    rw [hd] at k2
    simp only [dDcL] at k2
    split at k2
    · rename_i hok
      have hdi : L[i]? = some d := by
        have : (L.drop i)[0]? = some d := by rw [hd]; rfl
        rw [List.getElem?_drop] at this
        simpa using this
      have hlt : i < L.length := (List.getElem?_eq_some_iff.mp hdi).1
      have hr : r = L.drop (i + 1) := by
        have : (L.drop i).drop 1 = r := by rw [hd]; rfl
        rw [List.drop_drop] at this
        rw [← this]
      obtain ⟨hgo, hy⟩ := src.go i io G H cs le w hok d hdi
      right
      refine ⟨hgo, Nw (i + 1), fun H' p' => ⟨L.length - (i + 1), by omega, rfl, hlt, p'⟩, fun x H' yd => ?_⟩
      obtain ⟨io2, G2, le2, w2, rx⟩ := hy x H' yd
      cases ge : g d env cs with
      | none => rw [ge] at k2; exact k2.elim
      | some e1 =>
        rw [ge] at k2
        dsimp only at k2
        have stay : ∀ {io2 : List Addr} {G2 H2 : Hp}, Le io G H io2 G2 H2 → D ∉ io2 ∧ G2 D = none ∧ H2 D = some (.dK vs) := fun {io2 G2 H2} l => by
          refine ⟨fun m => ?_, ?_, ?_⟩
          · rcases l.ion D m with z | z
            · exact nio z
            · rw [hD] at z; cases z
          · cases q : G2 D with
            | none => rfl
            | some o =>
              rcases l.gn D o q with z | z | z
              · rw [gD] at z; cases z
              · rw [hD] at z; cases z
              · exact absurd z nio
          · rcases l.h D _ hD with z | ⟨_, z⟩
            · exact z
            · exact absurd z nio
        have leq := le.trans le2
        refine ⟨io2, G2, cs, env, d, e1, ⟨w2, s1.mono leq.io leq.g, trivial⟩, rx, ge, fun σ3 s3 w3 => ⟨w3.trans (wipe_wipe T σ), io2, G2, cs, e1, s3, ?_⟩⟩
        cases te : ft e1 cs with
        | stuck => rw [te] at k2; exact k2
        | ex a c => rw [te] at k2; exact False.elim k2
        | ok b c =>
          rw [te] at k2
          intro io4 G4 H4 l4 w4
          cases b with
          | false =>
            dsimp only at k2
            rw [if_neg Bool.false_ne_true]
            have lt := le2.trans l4
            obtain ⟨q1, q2, q3⟩ := stay lt
            exact ⟨io4, G4, c, acc, vs, le.trans lt, w4, q1, q2, q3, ra.mono lt.io lt.g, by omega, by rw [← hr]; exact k2⟩
          | true =>
            dsimp only at k2
            rw [if_pos rfl]
            refine ⟨io4, G4, c, e1, s3.to l4 w4, ?_⟩
            cases ee : fk e1 c with
            | stuck => rw [ee] at k2; exact k2
            | ex a c => rw [ee] at k2; exact False.elim k2
            | ok y c5 =>
              rw [ee] at k2
              dsimp only at k2
              intro io5 G5 H5 l5 w5 v rv
              cases ek : keyP y with
              | none => rw [ek] at k2; exact k2.elim
              | some kk =>
                rw [ek] at k2
                dsimp only at k2
                refine ⟨io5, G5, c5, e1, (s3.to l4 w4).to l5 w5, ?_⟩
                cases ez : fe e1 c5 with
                | stuck => rw [ez] at k2; exact k2
                | ex a c => rw [ez] at k2; exact False.elim k2
                | ok z c6 =>
                  rw [ez] at k2
                  dsimp only at k2
                  intro io6 G6 H6 l6 w6 u ru
                  have lt := ((le2.trans l4).trans l5).trans l6
                  obtain ⟨q1, q2, q3⟩ := stay lt
                  have ra6 := ra.mono lt.io lt.g
                  refine ⟨vs, kk, keyP_ok ek rv, q3, by rw [ra6.length]; omega, io6, G6, c6, putP acc kk z, putK vs kk u, (le.trans lt).updNew nD, w6.other q1 q2, q1, q2, upd_same, ra6.put ru, by have := putP_len acc kk z; omega, ?_⟩
                  rw [← hr]
                  exact k2
    · exact k2.elim
theorem jf_dc (hc : X.calm = true) (hN : X.N.Nodup) (hi : JI X W none tg iter fi) (ok : BlkOk X.N X.env.scope scope own)
    (hg : ∀ (s : Shared) (H : Hp) (C : Addr) (cl : List (Str × Addr)) (fp : List Addr), JGw (X.blk s H scope (compEnvC scope cl C X.env) fp) (own.map (·.2)) tg g) (ht : ∀ (s : Shared) (H : Hp) (C : Addr) (cl : List (Str × Addr)) (fp : List Addr), JTs (X.blk s H scope (compEnvC scope cl C X.env) fp) W0 ifs ft)
    (hk : ∀ (s : Shared) (H : Hp) (C : Addr) (cl : List (Str × Addr)) (fp : List Addr), JE (X.blk s H scope (compEnvC scope cl C X.env) fp) W0 none kx fk)
    (he : ∀ (s : Shared) (H : Hp) (C : Addr) (cl : List (Str × Addr)) (fp : List Addr), JE (X.blk s H scope (compEnvC scope cl C X.env) fp) W0 none vx fe) (hs : ∀ x, foldedSetIterable iter X.env x = pure x := by intro _; rfl) :
    JF X W none (.DictComp kx vx [⟨tg, iter, ifs, 0⟩] scope pos) (dDc (own.map (·.2)) fi g ft fk fe) := by
  obtain ⟨ti, a1, a2⟩ := hi
  refine ⟨_, pe_dc (g := cG X.K (own.map (·.2)) g) (tt := cT X.K none W0 ft) (tk := cE X.K none W0 fk) (tv := cE X.K none W0 fe) hc hN a1 ok (fun s H C cl fp => pg_c (hg s H C cl fp)) (fun s H C cl fp => pts_c (ht s H C cl fp)) (fun s H C cl fp => pe_c (hk s H C cl fp)) (fun s H C cl fp => pe_c (he s H C cl fp)) hs, ?_⟩
  intro io G H cs env σ Q s k
  refine a2 io G H cs env σ _ s ?_
  have h1 := AfR.bind (show AfR X.K W io G H σ _ ((fi env cs).bind _) from k)
  cases q : fi env cs with
  | stuck => rw [q] at h1; exact h1
  | ex a c => rw [q] at h1; exact h1
  | ok L c =>
    rw [q] at h1
    intro i g' h' l w J src D nD
    have h2 := h1 i g' h' l w
    try dsimp only at h2
    split at h2
    · rename_i hz
      refine dc_loop src nD hz w ((s.s.mono l.io l.g).wipe _) ?_
      have h3 : ∀ (r : Rs CO), AfR X.K W i g' h' σ (fun io' G' H' x c => ∀ (p : Addr), H p = none → p ∉ io' → H' p ≠ none → COk X.K io' G' H' p c → c ≠ CO.dead → Q (V.ref p) H') r → (∀ a c, r ≠ .ex a c) → AfR X.K W0 i g' h' σ (fun io' G' H' x c => ∀ (p : Addr), h' p = none → p ∉ io' → H' p ≠ none → COk X.K io' G' H' p c → c ≠ CO.dead → Q (V.ref p) H') r := fun r a b => by
        cases r with
        | stuck => exact a
        | ex x c => exact absurd rfl (b x c)
        | ok x c => exact fun i g h l' w' p np => a i g h l' w' p (l.new np)
      exact h3 _ h2 (dDcL_ne _ _ _)
    · exact h2.elim
end
end DL

namespace DL
open PySem L2 PyProof.Rows
theorem tk0 {X : Cx} (h : X.xe = fun _ _ => False) : Takes X W0 := fun _ _ ⟨_, _, _, _, _, _, _, _, _, _, _, _, _, _, _, _, w⟩ => w.elim
theorem tk0' {X : Cx} : Takes X W0 := fun _ _ ⟨_, _, _, _, _, _, _, _, _, _, _, _, _, _, _, _, w⟩ => w.elim
section
variable {X : Cx} {W : WX} {elt tg iter : Expr} {ifs : List Expr} {scope : Scope} {own : List (Str × Nat)} {pos py spos : Pos} {fi : DIn} {g : DGn} {ft : DTn} {fe : DEn}
theorem df_lc {K : PySem.W.Frag} {T : List Nat} {ti : TI} (a2 : DI K none W ti fi) : DF K none W (tLc ti (cG K T g) (cT K none W0 ft) (cE K none W0 fe) T) (dLc T fi g ft fe) := by
  intro io G H cs env σ Q s k
  refine a2 io G H cs env σ _ s ?_
  have h1 := AfR.bind (show AfR K W io G H σ _ ((fi env cs).bind _) from k)
  cases q : fi env cs with
  | stuck => rw [q] at h1; exact h1
  | ex a c => rw [q] at h1; exact h1
  | ok L c =>
    rw [q] at h1
    intro i g' h' l w J src D nD
    have h2 := h1 i g' h' l w
    try dsimp only at h2
    split at h2
    · rename_i hz
      refine lc_loop src nD hz w ((s.s.mono l.io l.g).wipe _) ?_
      have h3 : ∀ (r : Rs CO), AfR K W i g' h' σ (fun io' G' H' x c => ∀ (p : Addr), H p = none → p ∉ io' → H' p ≠ none → COk K io' G' H' p c → c ≠ CO.dead → Q (V.ref p) H') r → (∀ a c, r ≠ .ex a c) → AfR K W0 i g' h' σ (fun io' G' H' x c => ∀ (p : Addr), h' p = none → p ∉ io' → H' p ≠ none → COk K io' G' H' p c → c ≠ CO.dead → Q (V.ref p) H') r := fun r a b => by
        cases r with
        | stuck => exact a
        | ex x c => exact absurd rfl (b x c)
        | ok x c => exact fun i g h l' w' p np => a i g h l' w' p (l.new np)
      exact h3 _ h2 (dLcL_ne _ _ _)
    · exact h2.elim
/-- x = [..] on one line, then what stands for the list: pub or own -/
theorem js_setLcG {fx : DEn} {y : Str} (i : Nat) (hc : X.calm = true) (hN : X.N.Nodup) (hy : X.N[i]? = some y) (hyl : X.env.scope.names.lookup y = some .local)
    (hsw : swapsWith (.ListComp elt [⟨tg, iter, ifs, 0⟩] scope pos) (some (.Name y py)) spos.line X.env = pure true) (hi : JI X W none tg iter fi) (ok : BlkOk X.N X.env.scope scope own)
    (hg : ∀ (s : Shared) (H : Hp) (C : Addr) (cl : List (Str × Addr)) (fp : List Addr), JGw (X.blk s H scope (compEnvC scope cl C X.env) fp) (own.map (·.2)) tg g) (ht : ∀ (s : Shared) (H : Hp) (C : Addr) (cl : List (Str × Addr)) (fp : List Addr), JTs (X.blk s H scope (compEnvC scope cl C X.env) fp) W0 ifs ft)
    (he : ∀ (s : Shared) (H : Hp) (C : Addr) (cl : List (Str × Addr)) (fp : List Addr), JE (X.blk s H scope (compEnvC scope cl C X.env) fp) W0 none elt fe)
    (hfx : ∀ t, DF X.K none W t (dLc (own.map (·.2)) fi g ft fe) → DE X.K none W t fx) (hs : ∀ x, foldedSetIterable iter X.env x = pure x := by intro _; rfl) :
    JS X W none (.Assign [.Name y py] (.ListComp elt [⟨tg, iter, ifs, 0⟩] scope pos) spos) (dSet i fx) := by
  obtain ⟨ti, a1, a2⟩ := hi
  refine ⟨_, ps_setLc (g := cG X.K (own.map (·.2)) g) (tt := cT X.K none W0 ft) (te := cE X.K none W0 fe) hc hN hy hyl hsw a1 ok (fun s H C cl fp => pg_c (hg s H C cl fp)) (fun s H C cl fp => pts_c (ht s H C cl fp)) (fun s H C cl fp => pe_c (he s H C cl fp)) hs, ?_⟩
  intro io G H cs env σ D s k
  exact ds_to (hfx _ (df_lc a2)) s k fun i g h c d v l st rv k => AfS.nx k (st.set _ (fun _ h => nomatch h) rv)
theorem js_setLcP {y : Str} (i : Nat) (hc : X.calm = true) (hN : X.N.Nodup) (hy : X.N[i]? = some y) (hyl : X.env.scope.names.lookup y = some .local)
    (hsw : swapsWith (.ListComp elt [⟨tg, iter, ifs, 0⟩] scope pos) (some (.Name y py)) spos.line X.env = pure true) (hi : JI X W none tg iter fi) (ok : BlkOk X.N X.env.scope scope own)
    (hg : ∀ (s : Shared) (H : Hp) (C : Addr) (cl : List (Str × Addr)) (fp : List Addr), JGw (X.blk s H scope (compEnvC scope cl C X.env) fp) (own.map (·.2)) tg g) (ht : ∀ (s : Shared) (H : Hp) (C : Addr) (cl : List (Str × Addr)) (fp : List Addr), JTs (X.blk s H scope (compEnvC scope cl C X.env) fp) W0 ifs ft)
    (he : ∀ (s : Shared) (H : Hp) (C : Addr) (cl : List (Str × Addr)) (fp : List Addr), JE (X.blk s H scope (compEnvC scope cl C X.env) fp) W0 none elt fe) (hs : ∀ x, foldedSetIterable iter X.env x = pure x := by intro _; rfl) :
    JS X W none (.Assign [.Name y py] (.ListComp elt [⟨tg, iter, ifs, 0⟩] scope pos) spos) (dSet i (dPub (dLc (own.map (·.2)) fi g ft fe))) := js_setLcG i hc hN hy hyl hsw hi ok hg ht he (fun _ h => de_pub h) hs
theorem js_setLcO {y : Str} (i : Nat) (hc : X.calm = true) (hN : X.N.Nodup) (hy : X.N[i]? = some y) (hyl : X.env.scope.names.lookup y = some .local)
    (hsw : swapsWith (.ListComp elt [⟨tg, iter, ifs, 0⟩] scope pos) (some (.Name y py)) spos.line X.env = pure true) (hi : JI X W none tg iter fi) (ok : BlkOk X.N X.env.scope scope own)
    (hg : ∀ (s : Shared) (H : Hp) (C : Addr) (cl : List (Str × Addr)) (fp : List Addr), JGw (X.blk s H scope (compEnvC scope cl C X.env) fp) (own.map (·.2)) tg g) (ht : ∀ (s : Shared) (H : Hp) (C : Addr) (cl : List (Str × Addr)) (fp : List Addr), JTs (X.blk s H scope (compEnvC scope cl C X.env) fp) W0 ifs ft)
    (he : ∀ (s : Shared) (H : Hp) (C : Addr) (cl : List (Str × Addr)) (fp : List Addr), JE (X.blk s H scope (compEnvC scope cl C X.env) fp) W0 none elt fe) (hs : ∀ x, foldedSetIterable iter X.env x = pure x := by intro _; rfl) :
    JS X W none (.Assign [.Name y py] (.ListComp elt [⟨tg, iter, ifs, 0⟩] scope pos) spos) (dSet i (dOwn (dLc (own.map (·.2)) fi g ft fe))) := js_setLcG i hc hN hy hyl hsw hi ok hg ht he (fun _ h => de_own h) hs
end
/-! ### the law's end -/
def CXA (P : Program) : CXT := fun outer H s E e s' => ∃ w, L2.CX P w outer H s E e s'
theorem cxa_none {P : Program} (H : Hp) (s : Shared) (e : Value) (s' : Shared) (h : CXA P [] H s (fun _ _ _ => False) e s') : False := by
  obtain ⟨w, a, B, H', cls, d, rfl, fl, hok, ub, na, os, ag, hE⟩ := h
  exact hE
theorem FnOk.cxa {P : Program} {w : World} {K : PySem.W.Frag} {mg : Str → Option Value} {base : Heap} {k : Nat} {f : Addr} {fd : FuncData} {ps : List Str} {sp : Sp} (F : FnOk P w K mg base (L2.CX P w) k f fd ps sp) : FnOk P w K mg base (CXA P) k f fd ps sp :=
  ⟨F.len, fun A outer s H args us vs Q E hr he hb hv hs => codeAny_mono (F.run A outer s H args us vs Q E hr he hb hv hs) fun r s' h => by
    cases r with
    | error e => exact ⟨w, h⟩
    | ok fl => cases fl <;> exact h⟩
/-- the law's promise, as its end wants it -/
theorem law_sp {K : PySem.W.Frag} {F : Fn} {n : Nat} (h : ∀ ns : List Int, ns.length ≤ n → ∃ cs, F [.klst (ns.map P.int)] [] = .ok (.bl true) cs) (H : Hp) (a : Addr) (ns : List Int) (hl : ns.length ≤ n) (hS : SqL K H a (ns.map V.int)) :
    spD K 1 F [.ref a] H (fun v _ => v = .bl true) (fun _ _ _ => False) := by
  obtain ⟨cs, e⟩ := h ns hl
  have rr : ∀ ms : List Int, Rps K [] H (ms.map P.int) (ms.map V.int) := fun ms => by
    induction ms with
    | nil => simp only [List.map_nil, Rps]
    | cons m ms ih => simp only [List.map_cons, Rps, Rp]; exact ⟨_, _, rfl, rfl, ih⟩
  refine ⟨rfl, [], H, [], [.klst (ns.map P.int)], ⟨fun _ _ h => h, rfl, List.nodup_nil, (fun a m => nomatch m), (fun i a c e => by simp at e)⟩, ?_, ?_⟩
  · simp only [Rps, Rp]
    exact ⟨_, _, rfl, ⟨a, _, rfl, hS, rr ns⟩, rfl⟩
  · rw [e]
    intro io' G' H' l w v rv
    simpa only [Rp] using rv
end DL

namespace DL
open PySem L2
/-! ### readings, evaluated: plain laws -/
def Out.seq (o : Out) (g : DSn) : Out := match o with
  | .nx e c => g e c
  | o => o
@[simp] theorem Out.seq_nx {e : Env} {c : Cells} {g : DSn} : (Out.nx e c).seq g = g e c := rfl
@[simp] theorem Out.seq_rt {d : P} {c : Cells} {g : DSn} : (Out.rt d c).seq g = .rt d c := rfl
@[simp] theorem Out.seq_bk {e : Env} {c : Cells} {g : DSn} : (Out.bk e c).seq g = .bk e c := rfl
@[simp] theorem Out.seq_ct {e : Env} {c : Cells} {g : DSn} : (Out.ct e c).seq g = .ct e c := rfl
@[simp] theorem Out.seq_ex {x : Ex} {e : Env} {c : Cells} {g : DSn} : (Out.ex x e c).seq g = .ex x e c := rfl
@[simp] theorem Out.seq_st {g : DSn} : Out.stuck.seq g = .stuck := rfl
def Rs.toO {α : Type} (r : Rs α) (env : Env) (k : α → DSn) : Out := match r with
  | .ok d c => k d env c
  | .ex e c => .ex e env c
  | .stuck => .stuck
@[simp] theorem Rs.toO_ok {α : Type} {a : α} {c : Cells} {env : Env} {k : α → DSn} : (Rs.ok a c).toO env k = k a env c := rfl
@[simp] theorem Rs.toO_ex {α : Type} {e : Ex} {c : Cells} {env : Env} {k : α → DSn} : (Rs.ex e c : Rs α).toO env k = .ex e env c := rfl
@[simp] theorem Rs.toO_st {α : Type} {env : Env} {k : α → DSn} : (Rs.stuck : Rs α).toO env k = .stuck := rfl
/-- a branch that waits for its test -/
def brO (f g : DSn) : Bool → DSn := fun b env cs => if b = true then f env cs else g env cs
@[simp] theorem brO_t {f g : DSn} {e : Env} {c : Cells} : brO f g true e c = f e c := rfl
@[simp] theorem brO_f {f g : DSn} {e : Env} {c : Cells} : brO f g false e c = g e c := rfl
def brR {α : Type} (f g : Env → Cells → Rs α) (env : Env) : Bool → Cells → Rs α := fun b cs => if b = true then f env cs else g env cs
@[simp] theorem brR_t {α : Type} {f g : Env → Cells → Rs α} {e : Env} {c : Cells} : brR f g e true c = f e c := rfl
@[simp] theorem brR_f {α : Type} {f g : Env → Cells → Rs α} {e : Env} {c : Cells} : brR f g e false c = g e c := rfl
section
variable {f g : DSn} {env : Env} {cs : Cells} {fa fb fc : DEn} {ta tb : DTn} {i : Nat} {x y : P}
@[simp] theorem e_next : dNext env cs = .nx env cs := rfl
@[simp] theorem e_seq : dSeq f g env cs = (f env cs).seq g := rfl
@[simp] theorem e_to {k : P → DSn} : dTo fa k env cs = (fa env cs).toO env k := by unfold dTo Rs.toO; cases fa env cs <;> rfl
@[simp] theorem e_if : dIf ta f g env cs = (ta env cs).toO env (brO f g) := by unfold dIf Rs.toO; cases ta env cs <;> rfl
@[simp] theorem e_ret : dRet fa env cs = (fa env cs).toO env (fun d _ c => .rt d c) := by unfold dRet dTo Rs.toO; cases fa env cs <;> rfl
@[simp] theorem e_retN : dRetN env cs = .rt .non cs := rfl
@[simp] theorem e_drop : dDrop fa env cs = (fa env cs).toO env (fun _ e c => .nx e c) := by unfold dDrop dTo Rs.toO; cases fa env cs <;> rfl
@[simp] theorem e_set : dSet i fa env cs = (fa env cs).toO env (fun d e c => .nx (e.set i (some d)) c) := by unfold dSet dTo Rs.toO; cases fa env cs <;> rfl
@[simp] theorem e_bk : dBk env cs = .bk env cs := rfl
@[simp] theorem e_ct : dCt env cs = .ct env cs := rfl
@[simp] theorem e_c : dC x env cs = .ok x cs := rfl
theorem e_var {d : P} (h : env[i]? = some (some d)) : dVar i env cs = .ok d cs := by unfold dVar; rw [h]
@[simp] theorem e_bin {q : G2} : dBin q fa fb env cs = (fa env cs).bind fun x cs => (fb env cs).bind fun y cs => q x y cs := rfl
@[simp] theorem e_not : dNot ta env cs = (ta env cs).bind fun b cs => .ok (!b) cs := rfl
@[simp] theorem e_and : dAnd ta tb env cs = (ta env cs).bind (brR tb (fun _ c => .ok false c) env) := rfl
@[simp] theorem e_or : dOr ta tb env cs = (ta env cs).bind (brR (fun _ c => .ok true c) tb env) := rfl
@[simp] theorem e_ifE : dIfE ta fa fb env cs = (ta env cs).bind (brR fa fb env) := rfl
def tstR : P → Cells → Rs Bool := fun d cs => match d with
  | .bl b => .ok b cs
  | _ => .stuck
@[simp] theorem tstR_bl {b : Bool} : tstR (.bl b) cs = .ok b cs := rfl
@[simp] theorem e_tst : dTst fa env cs = (fa env cs).bind tstR := rfl
def truR : P → Cells → Rs Bool := fun d cs => match tru cs d with
  | some b => .ok b cs
  | none => .stuck
@[simp] theorem truR_bl {b : Bool} : truR (.bl b) cs = .ok b cs := rfl
@[simp] theorem e_tru : dTru fa env cs = (fa env cs).bind truR := rfl
def notR : P → Cells → Rs P := fun d cs => match d with
  | .bl b => .ok (.bl (!b)) cs
  | _ => .stuck
@[simp] theorem e_nil : dNil env cs = .ok [] cs := rfl
@[simp] theorem e_cons {fs : DAn} : dCons fa fs env cs = (fa env cs).bind fun x cs => (fs env cs).bind fun xs cs => .ok (x :: xs) cs := rfl
@[simp] theorem e_call {q : GC} {fs : DAn} : dCallB q fs env cs = (fs env cs).bind fun xs cs => q xs cs := rfl
@[simp] theorem e_callF {q : GCF} {fs : DAn} : dCallF q fs env cs = (fs env cs).bind fun xs cs => q xs cs := rfl
@[simp] theorem e_dcall {F : Fn} {fs : DAn} : dCall F fs env cs = (fs env cs).bind fun ds cs => F ds cs := rfl
def pubR : CO → Cells → Rs P := fun c cs => match pubC c with
  | some d => .ok d cs
  | none => .stuck
@[simp] theorem pubR_lst {xs : List P} : pubR (.lst xs) cs = .ok (.lst xs) cs := rfl
@[simp] theorem pubR_dK {xs : List (Key × P)} : pubR (.dK xs) cs = .ok (.dK xs) cs := rfl
@[simp] theorem pubR_obj {C : Addr} {xs : List (Str × P)} : pubR (.obj C xs) cs = .ok (.obj C xs) cs := rfl
@[simp] theorem e_pub {q : DFn} : dPub q env cs = (q env cs).bind pubR := rfl
@[simp] theorem e_own {q : DFn} : dOwn q env cs = (q env cs).bind fun c cs => .ok (.cell cs.length) (cs ++ [c]) := rfl
/-- a guard that is checked once -/
def okIf (b : Prop) [Decidable b] {α : Type} (r : Rs α) : Rs α := if b then r else .stuck
theorem e_tup {fs : DAn} : dTup fs env cs = (fs env cs).bind fun xs cs => if xs.length ≤ sizeLine then .ok (.tup xs) cs else .stuck := rfl
theorem small_le {n : Nat} (h : n ≤ 1000000) : n ≤ sizeLine := by rw [sizeLine_eq]; omega
@[simp] theorem e_lst {fs : DAn} : dLst fs env cs = (fs env cs).bind fun xs cs => if xs.length ≤ sizeLine then .ok (.lst xs) cs else .stuck := rfl
-- ints
@[simp] theorem g_add {i j : Int} : gAdd (.int i) (.int j) cs = .ok (.int (i + j)) cs := rfl
@[simp] theorem g_sub {i j : Int} : gSub (.int i) (.int j) cs = .ok (.int (i - j)) cs := rfl
theorem g_mul {i j : Int} (h : mulOk i j = true) : gMul (.int i) (.int j) cs = .ok (.int (i * j)) cs := by unfold gMul gI; simp [h]
theorem g_div {i j : Int} (h : divOk i j = true) : gDiv (.int i) (.int j) cs = .ok (.int (i / j)) cs := by unfold gDiv gI; simp [h]
theorem g_mod {i j : Int} (h : 0 < j) : gMod (.int i) (.int j) cs = .ok (.int (i % j)) cs := by unfold gMod gI; simp [h]
theorem g_pow {i j : Int} (h : powOk i j = true) : gPow (.int i) (.int j) cs = .ok (.int (i ^ j.toNat)) cs := by unfold gPow gI; simp [h]
@[simp] theorem g_lt {i j : Int} : gLt (.int i) (.int j) cs = .ok (.bl (decide (i < j))) cs := rfl
@[simp] theorem g_le {i j : Int} : gLe (.int i) (.int j) cs = .ok (.bl (decide (i ≤ j))) cs := rfl
@[simp] theorem g_gt {i j : Int} : gGt (.int i) (.int j) cs = .ok (.bl (decide (j < i))) cs := rfl
@[simp] theorem g_ge {i j : Int} : gGe (.int i) (.int j) cs = .ok (.bl (decide (j ≤ i))) cs := rfl
@[simp] theorem g_abs {i : Int} : gAbs [.int i] cs = .ok (.int (if i < 0 then -i else i)) cs := rfl
@[simp] theorem g_int {i : Int} : orC gInt gIntS [.int i] cs = .ok (.int i) cs := rfl
@[simp] theorem g_intb {b : Bool} : orC gInt gIntS [.bl b] cs = .ok (.int (if b then 1 else 0)) cs := rfl
@[simp] theorem g_min {i j : Int} : gMin2 [.int i, .int j] cs = .ok (.int (if j < i then j else i)) cs := rfl
@[simp] theorem g_max {i j : Int} : gMax2 [.int i, .int j] cs = .ok (.int (if j > i then j else i)) cs := rfl
end
/-! ### for -/
section
variable {T : List Nat} {ok : Cells → Bool} {g : DGn} {body : DSn}
theorem e_for {fi : DIn} {env : Env} {cs : Cells} : dFor T fi g body env cs = (fi env cs).toO env (fun L e c => dForL T L.2 g body L.1 (killAll e T) c) := by unfold dFor Rs.toO; cases fi env cs <;> rfl
/-- a loop that never leaves: states s, env and cells of a state -/
theorem forL_fold {S : Type} (eo : S → Env) (co : S → Cells) (f : S → P → S) : ∀ {L : List P} {s : S}, (∀ L1 x L2, L = L1 ++ x :: L2 → ok (co (L1.foldl f s)) = true ∧ ∃ e, g x (eo (L1.foldl f s)) (co (L1.foldl f s)) = some e ∧
    ∃ e' c', (body e (co (L1.foldl f s)) = .nx e' c' ∨ body e (co (L1.foldl f s)) = .ct e' c') ∧ killAll e' T = eo (f (L1.foldl f s) x) ∧ c' = co (f (L1.foldl f s) x)) → ok (co (L.foldl f s)) = true →
    dForL T ok g body L (eo s) (co s) = .nx (eo (L.foldl f s)) (co (L.foldl f s))
  | [], s, _, hk => by
    simp only [dForL]
    exact if_pos hk
  | x :: r, s, h, hk => by
    obtain ⟨h1, e, h2, e', c', h3, h4, h5⟩ := h [] x r rfl
    have ih := forL_fold eo co f (L := r) (s := f s x) (fun L1 y L2 e => h (x :: L1) y L2 (by rw [e]; rfl)) hk
    simp only [List.foldl_nil] at h1 h2 h3 h4 h5
    simp only [dForL]
    rw [if_pos h1, h2]
    dsimp only
    rcases h3 with h3 | h3 <;> rw [h3] <;> dsimp only <;> rw [h4, h5, ih] <;> rfl
/-- a loop that looks for a bad one -/
theorem forL_all {env : Env} {cs : Cells} {v : P} (p : P → Bool) (hk : ok cs = true) : ∀ {L : List P}, (∀ x ∈ L, ∃ e, g x env cs = some e ∧ (p x = true → ∃ e', body e cs = .nx e' cs ∧ killAll e' T = env) ∧ (p x = false → body e cs = .rt v cs)) →
    dForL T ok g body L env cs = if L.all p = true then .nx env cs else .rt v cs
  | [], _ => by
    simp only [dForL]
    rw [if_pos hk]
    rfl
  | x :: r, h => by
    obtain ⟨e, h1, h2, h3⟩ := h x List.mem_cons_self
    have ih := forL_all p hk (L := r) fun y hy => h y (List.mem_cons_of_mem _ hy)
    simp only [dForL]
    rw [if_pos hk, h1]
    dsimp only
    cases q : p x with
    | true =>
      obtain ⟨e', h4, h5⟩ := h2 q
      rw [h4]
      dsimp only
      rw [h5, ih, List.all_cons, q]
      simp
    | false =>
      rw [h3 q, List.all_cons, q]
      simp
/-- .. or raises at it -/
theorem forL_allX {env : Env} {cs : Cells} {a : Ex} (p : P → Bool) (hk : ok cs = true) : ∀ {L : List P}, (∀ x ∈ L, ∃ e, g x env cs = some e ∧ (p x = true → ∃ e', body e cs = .nx e' cs ∧ killAll e' T = env) ∧ (p x = false → ∃ e', body e cs = .ex a e' cs)) →
    (L.all p = true → dForL T ok g body L env cs = .nx env cs) ∧ (L.all p = false → ∃ e', dForL T ok g body L env cs = .ex a e' cs)
  | [], _ => ⟨fun _ => by simp only [dForL]; rw [if_pos hk], fun h => by cases h⟩
  | x :: r, h => by
    obtain ⟨e, h1, h2, h3⟩ := h x List.mem_cons_self
    have ih := forL_allX p hk (L := r) fun y hy => h y (List.mem_cons_of_mem _ hy)
    simp only [dForL]
    rw [if_pos hk, h1]
    dsimp only
    cases q : p x with
    | true =>
      obtain ⟨e', h4, h5⟩ := h2 q
      rw [h4]
      dsimp only
      rw [h5, List.all_cons, q]
      simpa using ih
    | false =>
      obtain ⟨e', h4⟩ := h3 q
      rw [h4, List.all_cons, q]
      exact ⟨(fun z => nomatch z), (fun _ => ⟨e', rfl⟩)⟩
end
/-! ### comprehensions -/
section
variable {T : List Nat} {ok : Cells → Bool} {g : DGn} {ft : DTn} {fe : DEn}
theorem lcL_map {env : Env} {cs : Cells} (h : P → P) (hk : ok cs = true) : ∀ {L acc : List P}, (∀ x ∈ L, ∃ e, g x env cs = some e ∧ ft e cs = .ok true cs ∧ fe e cs = .ok (h x) cs) → dLcL ok g ft fe env L cs acc = .ok (.lst (acc ++ L.map h)) cs
  | [], acc, _ => by
    simp only [dLcL]
    rw [if_pos hk]
    simp
  | x :: r, acc, hh => by
    obtain ⟨e, h1, h2, h3⟩ := hh x List.mem_cons_self
    have ih := lcL_map h hk (L := r) (acc := acc ++ [h x]) fun y hy => hh y (List.mem_cons_of_mem _ hy)
    simp only [dLcL]
    rw [if_pos hk, h1]
    dsimp only
    rw [h2]
    dsimp only
    rw [h3]
    dsimp only
    rw [ih]
    simp
theorem e_lc {fi : DIn} {env : Env} {cs : Cells} : dLc T fi g ft fe env cs = (fi env cs).bind fun L cs => if L.1.length ≤ sizeLine then dLcL L.2 g ft fe (wipeE env T) L.1 cs [] else .stuck := rfl
theorem lc_map {fi : DIn} {env : Env} {cs : Cells} {L : List P × (Cells → Bool)} (h : P → P) (hi : fi env cs = .ok L cs) (hz : L.1.length ≤ sizeLine) (hk : L.2 cs = true) (hh : ∀ x ∈ L.1, ∃ e, g x (wipeE env T) cs = some e ∧ ft e cs = .ok true cs ∧ fe e cs = .ok (h x) cs) :
    dLc T fi g ft fe env cs = .ok (.lst (L.1.map h)) cs := by
  rw [e_lc, hi, Rs.bind_ok, if_pos hz, lcL_map h hk hh]
  rfl
end
/-! ### ends -/
theorem exitP_rt {cs c : Cells} {d : P} (h : cs <+: c) (q : clo cs.length d) : exitP cs (.rt d c) = .ok d cs := by
  unfold exitP
  exact if_pos ⟨h, q⟩
theorem exitP_nx {cs c : Cells} {e : Env} (h : cs <+: c) : exitP cs (.nx e c) = .ok .non cs := by
  unfold exitP
  exact if_pos h
theorem exitP_ex {cs c : Cells} {e : Env} {x : Ex} (h : cs <+: c) (q : cloF cs.length x.fs) : exitP cs (.ex x e c) = .ex x cs := by
  unfold exitP
  exact if_pos ⟨h, q⟩
@[simp] theorem clo_int {m : Nat} {i : Int} : clo m (.int i) := by simp only [clo]
@[simp] theorem clo_bl {m : Nat} {i : Bool} : clo m (.bl i) := by simp only [clo]
@[simp] theorem clo_str {m : Nat} {i : Str} : clo m (.str i) := by simp only [clo]
@[simp] theorem clo_non {m : Nat} : clo m .non := by simp only [clo]
end DL

namespace DL
open PySem L2
/-! ### d.get(k), d.get(k, e) -/
/-- a dict, whatever its keys -/
def isDc (cs : Cells) : P → Bool
  | .dK _ => true
  | .dT _ => true
  | .cell n => (match cs[n]? with
    | some (.dK _) => true
    | some (.dT _) => true
    | _ => false)
  | _ => false
def dGet1 (fd fk : DEn) : DEn := fun env cs => (fd env cs).bind fun d cs => if isDc cs d = true then (fk env cs).bind fun k cs => (match dget cs d k with
  | some o => .ok (o.getD .non) cs
  | none => .stuck) else .stuck
def dGet2 (fd fk fe : DEn) : DEn := fun env cs => (fd env cs).bind fun d cs => if isDc cs d = true then (fk env cs).bind fun k cs => (fe env cs).bind fun e cs => (match dget cs d k with
  | some o => .ok (o.getD e) cs
  | none => .stuck) else .stuck
section
variable {K : PySem.W.Frag} {io : List Addr} {G H : Hp} {cs : Cells}
theorem isDc_ok (w : WOk K io G H cs) {d : P} {v : V} (h : isDc cs d = true) (r : Rp K io G d v) : ∃ a, v = .ref a ∧ IsD H a := by
  cases d with
  | dK kvs =>
    simp only [Rp] at r
    obtain ⟨a, hs, rfl, e, _⟩ := r
    exact ⟨a, rfl, .inl ⟨hs, Rd.of (w.same _ _ e)⟩⟩
  | dT kvs =>
    simp only [Rp] at r
    obtain ⟨a, hs, rfl, e, _⟩ := r
    exact ⟨a, rfl, .inr ⟨hs, Rd.of (w.same _ _ e)⟩⟩
  | cell n =>
    simp only [isDc] at h
    split at h
    · rename_i kvs e
      obtain ⟨a, e1, rfl, _, hs, e3, t⟩ := w.cellAt e r
      exact ⟨a, rfl, .inl ⟨hs, Rd.of e3⟩⟩
    · rename_i kvs e
      obtain ⟨a, e1, rfl, _, hs, e3, t⟩ := w.cellAt e r
      exact ⟨a, rfl, .inr ⟨hs, Rd.of e3⟩⟩
    · cases h
  | _ => cases h
theorem RpO.getD {o : Option P} {o' : Option V} {d : P} {v : V} (h : RpO K io G o o') (r : Rp K io G d v) : Rp K io G (o.getD d) (o'.getD v) := by
  cases o with
  | none =>
    have h : o' = none := h
    subst h
    exact r
  | some x =>
    obtain ⟨u, rfl, q⟩ := h
    exact q
end
section
variable {X : Cx} {W : WX} {hx : Hx} {o e f : Expr} {fo fe ff : DEn} {apos cpos : Pos}
theorem je_dget1 (hu : X.A.units + 1 < cLine) (ho : JE X W hx o fo) (he : JE X W hx e fe) (m : M1 X o "get" apos e cpos := by exact ⟨rfl, rfl, rfl, rfl⟩) : JE X W hx (.Call (.Attribute o "get" apos) [e] [] cpos) (dGet1 fo fe) := by
  obtain ⟨to, a1, a2⟩ := ho
  obtain ⟨te, b1, b2⟩ := he
  refine ⟨_, pe_dget1 hu a1 b1 m, ?_⟩
  intro io G H cs env σ Q s k
  refine a2 io G H cs env σ _ s (AfR.imp (AfR.bind k) fun i g1 h1 c d l w k v rv => ?_)
  split at k
  · rename_i ht
    obtain ⟨a, rfl, q⟩ := isDc_ok w ht rv
    refine ⟨a, rfl, q, b2 i g1 h1 c env σ _ (s.to l w) (AfR.imp (AfR.bind k) fun i2 g2 h2 c2 y l2 w2 k2 u ru => ?_)⟩
    split at k2
    · rename_i oo e1
      obtain ⟨a', o', e2, e3, e4⟩ := dget_ok w2 e1 (rv.mono l2.io l2.g) ru
      cases e2
      exact ⟨o', e3, k2 i2 g2 h2 Le.refl w2 _ (e4.getD rsv_non)⟩
    · exact k2.elim
  · exact k.elim
theorem je_dget2 (hu : X.A.units + 1 < cLine) (ho : JE X W hx o fo) (he : JE X W hx e fe) (hf : JE X W hx f ff) (m : M2 X o "get" apos e f cpos := by exact ⟨rfl, rfl, rfl, rfl⟩) : JE X W hx (.Call (.Attribute o "get" apos) [e, f] [] cpos) (dGet2 fo fe ff) := by
  obtain ⟨to, a1, a2⟩ := ho
  obtain ⟨te, b1, b2⟩ := he
  obtain ⟨tf, c1, c2⟩ := hf
  refine ⟨_, pe_dget2 hu a1 b1 c1 m, ?_⟩
  intro io G H cs env σ Q s k
  refine a2 io G H cs env σ _ s (AfR.imp (AfR.bind k) fun i g1 h1 c d l w k v rv => ?_)
  split at k
  · rename_i ht
    obtain ⟨a, rfl, q⟩ := isDc_ok w ht rv
    refine ⟨a, rfl, q, b2 i g1 h1 c env σ _ (s.to l w) (AfR.imp (AfR.bind k) fun i2 g2 h2 c2' y l2 w2 k2 u ru => ?_)⟩
    refine c2 i2 g2 h2 c2' env σ _ ((s.to l w).to l2 w2) (AfR.imp (AfR.bind k2) fun i3 g3 h3 c3 z l3 w3 k3 t rt => ?_)
    split at k3
    · rename_i oo e1
      obtain ⟨a', o', e2, e3, e4⟩ := dget_ok w3 e1 ((rv.mono l2.io l2.g).mono l3.io l3.g) (ru.mono l3.io l3.g)
      cases e2
      exact ⟨o', e3, k3 i3 g3 h3 Le.refl w3 _ (e4.getD rt)⟩
    · exact k3.elim
  · exact k.elim
end
end DL

namespace TL
open PySem L2 DL
abbrev Env := DL.Env
abbrev Fg := PySem.W.Frag
/-! ### typed results -/
/-- what an exception of the program's own may carry -/
inductive Val where
  | i (n : Int) | l (ns : List Int)
def Val.p : Val → P
  | .i n => .int n
  | .l ns => .lst (ns.map .int)
/-- an exception, by its class's name -/
structure TX where
  n : Str
  fs : List (Str × Val)
def enX (K : Fg) (x : TX) : Ex := ⟨He.ga K x.n, x.fs.map fun f => (f.1, f.2.p)⟩
inductive R (α : Type) where
  | ok (a : α) | ex (x : TX) | stuck
def R.bind {α β : Type} (r : R α) (k : α → R β) : R β := match r with
  | .ok a => k a
  | .ex x => .ex x
  | .stuck => .stuck
@[simp] theorem R.bind_ok {α β : Type} (a : α) (k : α → R β) : (R.ok a).bind k = k a := Eq.trans rfl rfl
@[simp] theorem R.bind_ex {α β : Type} (x : TX) (k : α → R β) : (R.ex x : R α).bind k = .ex x := Eq.trans rfl rfl
@[simp] theorem R.bind_stuck {α β : Type} (k : α → R β) : (R.stuck : R α).bind k = .stuck := Eq.trans rfl rfl
theorem R.bind_assoc {α β γ : Type} (r : R α) (k : α → R β) (l : β → R γ) : (r.bind k).bind l = r.bind fun a => (k a).bind l := by cases r <;> rfl
/-- how a loop's turn, or a part of a block, ends -/
inductive Lp (σ ρ : Type) where
  | nx (s : σ) | bk (s : σ) | rt (r : ρ)
def R.then {σ τ : Type} (r : R (Lp σ τ)) (k : σ → R τ) : R τ := r.bind fun l => match l with
  | .nx s => k s
  | .bk s => k s
  | .rt y => .ok y
@[simp] theorem R.then_nx {σ τ : Type} (s : σ) (k : σ → R τ) : (R.ok (Lp.nx s)).then k = k s := Eq.trans rfl rfl
@[simp] theorem R.then_bk {σ τ : Type} (s : σ) (k : σ → R τ) : (R.ok (Lp.bk s)).then k = k s := Eq.trans rfl rfl
@[simp] theorem R.then_rt {σ τ : Type} (y : τ) (k : σ → R τ) : (R.ok (Lp.rt y)).then k = .ok y := Eq.trans rfl rfl
@[simp] theorem R.then_ex {σ τ : Type} (x : TX) (k : σ → R τ) : (R.ex x : R (Lp σ τ)).then k = .ex x := Eq.trans rfl rfl
@[simp] theorem R.then_stuck {σ τ : Type} (k : σ → R τ) : (R.stuck : R (Lp σ τ)).then k = .stuck := Eq.trans rfl rfl
def forR0 {α σ ρ : Type} (b : α → σ → R (Lp σ ρ)) : List α → σ → R (Lp σ ρ)
  | [], s => .ok (.nx s)
  | x :: xs, s => match b x s with
    | .ok (.nx s) => forR0 b xs s
    | .ok (.bk s) => .ok (.bk s)
    | .ok (.rt r) => .ok (.rt r)
    | .ex x => .ex x
    | .stuck => .stuck
@[irreducible] def forR {α σ ρ : Type} (b : α → σ → R (Lp σ ρ)) (l : List α) (s : σ) : R (Lp σ ρ) := forR0 b l s
theorem forR_nil {α σ ρ : Type} {b : α → σ → R (Lp σ ρ)} {s : σ} : forR b [] s = .ok (.nx s) := by
  unfold forR
  rfl
theorem forR_cons {α σ ρ : Type} {b : α → σ → R (Lp σ ρ)} {x : α} {xs : List α} {s : σ} : forR b (x :: xs) s = match b x s with
    | .ok (.nx s) => forR b xs s
    | .ok (.bk s) => .ok (.bk s)
    | .ok (.rt r) => .ok (.rt r)
    | .ex x => .ex x
    | .stuck => .stuck := by
  unfold forR
  rfl
def foldR0 {α σ : Type} (b : α → σ → R σ) : List α → σ → R σ
  | [], s => .ok s
  | x :: xs, s => (b x s).bind fun s => foldR0 b xs s
@[irreducible] def foldR {α σ : Type} (b : α → σ → R σ) (l : List α) (s : σ) : R σ := foldR0 b l s
theorem foldR_nil {α σ : Type} {b : α → σ → R σ} {s : σ} : foldR b [] s = .ok s := by
  unfold foldR
  rfl
theorem foldR_cons {α σ : Type} {b : α → σ → R σ} {x : α} {xs : List α} {s : σ} : foldR b (x :: xs) s = (b x s).bind fun s => foldR b xs s := by
  unfold foldR
  rfl
def mapR {α β : Type} (f : α → R β) : List α → R (List β)
  | [] => .ok []
  | x :: xs => (f x).bind fun y => (mapR f xs).bind fun ys => .ok (y :: ys)
/-- a comprehension with a test: some y, or none -/
def fmapR {α β : Type} (f : α → R (Option β)) : List α → R (List β)
  | [] => .ok []
  | x :: xs => (f x).bind fun y => (fmapR f xs).bind fun ys => .ok (match y with
    | some y => y :: ys
    | none => ys)

/-! ### types and their values -/
class Ty (α : Type) where
  enc : Fg → α → P
  clo : ∀ K m a, clo m (enc K a)
/-- types whose values may be cells -/
class Mt (α : Type) extends Ty α where
  co : Fg → α → CO
  pub : ∀ K a, pubC (co K a) = some (enc K a)
  cloC : ∀ K m a, cloC m (co K a)
open Ty (enc)
open Mt (co)
instance : Ty Int := ⟨fun _ i => .int i, fun _ _ _ => clo_int⟩
instance : Ty Bool := ⟨fun _ i => .bl i, fun _ _ _ => clo_bl⟩
instance : Ty Str := ⟨fun _ i => .str i, fun _ _ _ => clo_str⟩
instance : Ty Unit := ⟨fun _ _ => .non, fun _ _ _ => clo_non⟩
/-- any plain value -/
structure Dy where
  p : P
  c : ∀ m, clo m p
instance : Ty Dy := ⟨fun _ d => d.p, fun _ _ d => d.c _⟩
theorem clos_map {α : Type} {m : Nat} (f : α → P) (h : ∀ a, clo m (f a)) : ∀ l : List α, clos m (l.map f)
  | [] => by simp only [List.map_nil, clos]
  | a :: l => by
    simp only [List.map_cons, clos]
    exact ⟨h a, clos_map f h l⟩
instance {α : Type} [Ty α] : Mt (List α) where
  enc K l := .lst (l.map (enc K))
  clo K m l := by
    simp only [clo]
    exact clos_map _ (Ty.clo K m) l
  co K l := .lst (l.map (enc K))
  pub K l := rfl
  cloC K m l := by
    simp only [cloC]
    exact clos_map _ (Ty.clo K m) l
/-- the script: a list that nobody of the program has made -/
structure Scr where
  l : List Int
instance : Ty Scr := ⟨fun _ s => .klst (s.l.map .int), fun K m s => by
  simp only [clo]
  exact clos_map _ (fun _ => clo_int) _⟩
/-- a tuple of any length, its items alike -/
structure Tup (α : Type) where
  l : List α
deriving DecidableEq
instance {α : Type} [Ty α] : Ty (Tup α) := ⟨fun K t => .tup (t.l.map (enc K)), fun K m t => by
  simp only [clo]
  exact clos_map _ (Ty.clo K m) _⟩
structure T1 (α : Type) where
  a : α
deriving DecidableEq
structure T2 (α β : Type) where
  a : α
  b : β
deriving DecidableEq
structure T3 (α β γ : Type) where
  a : α
  b : β
  c : γ
deriving DecidableEq
structure T4 (α β γ δ : Type) where
  a : α
  b : β
  c : γ
  d : δ
deriving DecidableEq
structure T5 (α β γ δ ε : Type) where
  a : α
  b : β
  c : γ
  d : δ
  e : ε
deriving DecidableEq
structure T6 (α β γ δ ε ζ : Type) where
  a : α
  b : β
  c : γ
  d : δ
  e : ε
  f : ζ
deriving DecidableEq
section
variable {α β γ δ ε ζ : Type} [Ty α] [Ty β] [Ty γ] [Ty δ] [Ty ε] [Ty ζ]
instance : Ty (T1 α) := ⟨fun K t => .tup [enc K t.a], fun K m t => by
  simp only [clo, clos]
  exact ⟨Ty.clo K m _, trivial⟩⟩
instance : Ty (T2 α β) := ⟨fun K t => .tup [enc K t.a, enc K t.b], fun K m t => by
  simp only [clo, clos]
  exact ⟨Ty.clo K m _, Ty.clo K m _, trivial⟩⟩
instance : Ty (T3 α β γ) := ⟨fun K t => .tup [enc K t.a, enc K t.b, enc K t.c], fun K m t => by
  simp only [clo, clos]
  exact ⟨Ty.clo K m _, Ty.clo K m _, Ty.clo K m _, trivial⟩⟩
instance : Ty (T4 α β γ δ) := ⟨fun K t => .tup [enc K t.a, enc K t.b, enc K t.c, enc K t.d], fun K m t => by
  simp only [clo, clos]
  exact ⟨Ty.clo K m _, Ty.clo K m _, Ty.clo K m _, Ty.clo K m _, trivial⟩⟩
instance : Ty (T5 α β γ δ ε) := ⟨fun K t => .tup [enc K t.a, enc K t.b, enc K t.c, enc K t.d, enc K t.e], fun K m t => by
  simp only [clo, clos]
  exact ⟨Ty.clo K m _, Ty.clo K m _, Ty.clo K m _, Ty.clo K m _, Ty.clo K m _, trivial⟩⟩
instance : Ty (T6 α β γ δ ε ζ) := ⟨fun K t => .tup [enc K t.a, enc K t.b, enc K t.c, enc K t.d, enc K t.e, enc K t.f], fun K m t => by
  simp only [clo, clos]
  exact ⟨Ty.clo K m _, Ty.clo K m _, Ty.clo K m _, Ty.clo K m _, Ty.clo K m _, Ty.clo K m _, trivial⟩⟩
end
/-- None, or a value -/
instance {α : Type} [Ty α] : Ty (Option α) := ⟨fun K o => match o with
  | none => .non
  | some a => enc K a, fun K m o => by
  cases o with
  | none => exact clo_non
  | some a => exact Ty.clo K m a⟩
/-- one of two kinds -/
instance {α β : Type} [Ty α] [Ty β] : Ty (α ⊕ β) := ⟨fun K o => match o with
  | .inl a => enc K a
  | .inr b => enc K b, fun K m o => by
  cases o with
  | inl a => exact Ty.clo K m a
  | inr a => exact Ty.clo K m a⟩
instance : Ty TX := ⟨fun K x => .exn (He.ga K x.n) (x.fs.map fun f => (f.1, f.2.p)), fun K m x => by simp only [clo]⟩
/-- dicts, by their keys -/
class Ky (κ : Type) where
  dec : DecidableEq κ
  key : κ → Key
  enk : κ → P
  ok : ∀ k, keyP (enk k) = some (key k)
  inj : ∀ a b, key a = key b → a = b
instance : Ky Int := ⟨inferInstance, .inl, .int, fun _ => rfl, fun _ _ h => by cases h; rfl⟩
instance : Ky Str := ⟨inferInstance, .inr, .str, fun _ => rfl, fun _ _ h => by cases h; rfl⟩
structure Dict (κ α : Type) where
  l : List (κ × α)
theorem cloK_map {α κ : Type} {m : Nat} (g : κ → Key) (f : α → P) (h : ∀ a, clo m (f a)) : ∀ l : List (κ × α), cloK m (l.map fun q => (g q.1, f q.2))
  | [] => by simp only [List.map_nil, cloK]
  | a :: l => by
    simp only [List.map_cons, cloK]
    exact ⟨h a.2, cloK_map g f h l⟩
instance {κ α : Type} [Ky κ] [Ty α] : Mt (Dict κ α) where
  enc K d := .dK (d.l.map fun q => (Ky.key q.1, enc K q.2))
  clo K m l := by
    simp only [clo]
    exact cloK_map _ _ (Ty.clo K m) _
  co K d := .dK (d.l.map fun q => (Ky.key q.1, enc K q.2))
  pub K l := rfl
  cloC K m l := by
    simp only [cloC]
    exact cloK_map _ _ (Ty.clo K m) _

/-! ### what is known of a def's run at a point -/
inductive Ent where
  | v (p : P)
  | o (m : Option Nat) (c : CO)
  | r (p : P) (c : CO)
abbrev Ents := List (Nat × Ent)
def getE : Ents → Nat → Option Ent
  | [], _ => none
  | (j, e) :: r, i => if Nat.beq j i = true then some e else getE r i
/-- a value that is data, or a cell with data -/
def Rd (cs : Cells) (p : P) (c : CO) (d : P) : Prop := d = p ∨ ∃ n : Nat, d = .cell n ∧ cs[n]? = some c
def EntOk (base : Cells) (env : Env) (cs : Cells) (i : Nat) : Ent → Prop
  | .v p => env[i]? = some (some p)
  | .o m c => ∃ n : Nat, env[i]? = some (some (.cell n)) ∧ base.length ≤ n ∧ cs[n]? = some c ∧ ∀ k, m = some k → n = k
  | .r p c => ∃ d, env[i]? = some (some d) ∧ Rd base p c d
def Clo (cs : Cells) : Prop := ∀ (n : Nat) (x : CO), cs[n]? = some x → ∀ m, cloC m x
structure Hold (base : Cells) (n : Nat) (Γ : Ents) (env : Env) (cs : Cells) : Prop where
  len : env.length = n
  pre : base <+: cs
  at' : ∀ i e, getE Γ i = some e → EntOk base env cs i e
  dis : ∀ i j mc md c d n, getE Γ i = some (.o mc c) → getE Γ j = some (.o md d) → env[i]? = some (some (.cell n)) → env[j]? = some (some (.cell n)) → i = j
  cl : Clo cs
section
variable {K : Fg} {base : Cells} {n : Nat} {Γ Δ : Ents} {env : Env} {cs : Cells}
theorem pre_at {base cs : Cells} (h : base <+: cs) {n : Nat} {c : CO} (e : base[n]? = some c) : cs[n]? = some c := by
  obtain ⟨t, rfl⟩ := h
  have hl := (List.getElem?_eq_some_iff.mp e).1
  rw [List.getElem?_append_left hl]
  exact e
theorem Rd.pre {base cs : Cells} (h : base <+: cs) {p d : P} {c : CO} (r : Rd base p c d) : Rd cs p c d := by
  rcases r with r | ⟨n, r, e⟩
  · exact .inl r
  · exact .inr ⟨n, r, pre_at h e⟩
/-- all that is said in Δ is said in Γ -/
def Sub (Δ Γ : Ents) : Prop := ∀ i e, getE Δ i = some e → getE Γ i = some e
theorem Sub.nil : Sub [] Γ := fun i e h => by cases h
theorem Sub.refl : Sub Γ Γ := fun i e h => h
theorem Sub.cons {i : Nat} {e : Ent} (h : getE Γ i = some e) (s : Sub Δ Γ) : Sub ((i, e) :: Δ) Γ := fun j f q => by
  unfold getE at q
  split at q
  · rename_i hb
    have : i = j := Nat.eq_of_beq_eq_true hb
    subst this
    exact h.trans q
  · exact s j f q
theorem Hold.sub (h : Hold base n Γ env cs) (s : Sub Δ Γ) : Hold base n Δ env cs :=
  ⟨h.len, h.pre, fun i e q => h.at' i e (s i e q), fun i j mc md c d n q r => h.dis i j mc md c d n (s _ _ q) (s _ _ r), h.cl⟩
theorem getE_ne {i j : Nat} {e : Ent} (h : i ≠ j) : getE ((i, e) :: Γ) j = getE Γ j := by
  rw [getE]
  rw [if_neg (by intro hb; exact h (Nat.eq_of_beq_eq_true hb))]
theorem getE_same {i : Nat} {e : Ent} : getE ((i, e) :: Γ) i = some e := by
  rw [getE, if_pos (by rw [Nat.beq_eq])]
/-- a slot gets a plain value -/
theorem Hold.set (h : Hold base n Γ env cs) {i : Nat} {p : P} (hi : i < n) : Hold base n ((i, .v p) :: Γ) (env.set i (some p)) cs := by
  have hi : i < env.length := by rw [h.len]; exact hi
  refine ⟨by rw [List.length_set]; exact h.len, h.pre, fun j e q => ?_, fun j k mc md c d n q r e1 e2 => ?_, h.cl⟩
  · by_cases z : i = j
    · subst z
      rw [getE_same] at q
      cases q
      exact List.getElem?_set_self hi
    · rw [getE_ne z] at q
      have w := h.at' j e q
      cases e with
      | v p => exact (List.getElem?_set_ne z).trans w
      | o m c => obtain ⟨n, w1, w2⟩ := w; exact ⟨n, (List.getElem?_set_ne z).trans w1, w2⟩
      | r p c => obtain ⟨d, w1, w2⟩ := w; exact ⟨d, (List.getElem?_set_ne z).trans w1, w2⟩
  · have zj : i ≠ j := fun z => by subst z; rw [getE_same] at q; cases q
    have zk : i ≠ k := fun z => by subst z; rw [getE_same] at r; cases r
    rw [getE_ne zj] at q
    rw [getE_ne zk] at r
    rw [List.getElem?_set_ne zj] at e1
    rw [List.getElem?_set_ne zk] at e2
    exact h.dis j k mc md c d n q r e1 e2
theorem Clo.app {cs : Cells} (h : Clo cs) {c : CO} (hc : ∀ m, cloC m c) : Clo (cs ++ [c]) := fun n x e m => by
  rcases Nat.lt_or_ge n cs.length with z | z
  · rw [List.getElem?_append_left z] at e
    exact h n x e m
  · rw [List.getElem?_append_right z] at e
    cases q : n - cs.length with
    | zero => rw [q] at e; cases e; exact hc m
    | succ k => rw [q] at e; cases e
/-- a slot gets a new cell -/
theorem Hold.own (h : Hold base n Γ env cs) {i : Nat} {c : CO} (hi : i < n) (hc : ∀ m, cloC m c) : Hold base n ((i, .o none c) :: Γ) (env.set i (some (.cell cs.length))) (cs ++ [c]) := by
  have hi : i < env.length := by rw [h.len]; exact hi
  have hb : base.length ≤ cs.length := h.pre.length_le
  have old : ∀ (n : Nat) (x : CO), cs[n]? = some x → (cs ++ [c])[n]? = some x := fun n x e => pre_at (List.prefix_append _ _) e
  have lt : ∀ (j n : Nat) (md : Option Nat) (d : CO), getE Γ j = some (.o md d) → env[j]? = some (some (.cell n)) → n < cs.length := fun j n md d q e => by
    obtain ⟨m, w1, w2, w3, _⟩ := h.at' j _ q
    rw [w1] at e
    cases e
    exact (List.getElem?_eq_some_iff.mp w3).1
  refine ⟨by rw [List.length_set]; exact h.len, h.pre.trans (List.prefix_append _ _), fun j e q => ?_, fun j k ma mb a b n q r e1 e2 => ?_, h.cl.app hc⟩
  · by_cases z : i = j
    · subst z
      rw [getE_same] at q
      cases q
      exact ⟨cs.length, List.getElem?_set_self hi, hb, by simp, fun k y => nomatch y⟩
    · rw [getE_ne z] at q
      have w := h.at' j e q
      cases e with
      | v p => exact (List.getElem?_set_ne z).trans w
      | o m c => obtain ⟨n, w1, w2, w3, w4⟩ := w; exact ⟨n, (List.getElem?_set_ne z).trans w1, w2, old _ _ w3, w4⟩
      | r p c => obtain ⟨d, w1, w2⟩ := w; exact ⟨d, (List.getElem?_set_ne z).trans w1, w2⟩
  · by_cases zj : i = j
    · by_cases zk : i = k
      · exact zj.symm.trans zk
      · rw [getE_ne zk] at r
        subst zj
        rw [List.getElem?_set_self hi] at e1
        cases e1
        rw [List.getElem?_set_ne zk] at e2
        exact absurd (lt k _ _ _ r e2) (Nat.lt_irrefl _)
    · rw [getE_ne zj] at q
      rw [List.getElem?_set_ne zj] at e1
      by_cases zk : i = k
      · subst zk
        rw [List.getElem?_set_self hi] at e2
        cases e2
        exact absurd (lt j _ _ _ q e1) (Nat.lt_irrefl _)
      · rw [getE_ne zk] at r
        rw [List.getElem?_set_ne zk] at e2
        exact h.dis j k ma mb a b n q r e1 e2
/-- a cell of one's own is changed -/
theorem Hold.put (h : Hold base n Γ env cs) {i : Nat} {mo : Option Nat} {c c' : CO} (q : getE Γ i = some (.o mo c)) (hc : ∀ m, cloC m c') : ∃ m : Nat, env[i]? = some (some (.cell m)) ∧ cs[m]? = some c ∧ Hold base n ((i, .o mo c') :: Γ) env (cs.set m c') := by
  obtain ⟨m, w1, w2, w3, w4⟩ := h.at' i _ q
  have hn : m < cs.length := (List.getElem?_eq_some_iff.mp w3).1
  refine ⟨m, w1, w3, h.len, ?_, fun j e z => ?_, fun j k ma mb a b x z1 z2 e1 e2 => ?_, fun x y e k => ?_⟩
  · obtain ⟨t, rfl⟩ := h.pre
    rw [List.set_append_right _ _ w2]
    exact List.prefix_append _ _
  · by_cases y : i = j
    · subst y
      rw [getE_same] at z
      cases z
      exact ⟨m, w1, w2, by rw [List.getElem?_set_self hn], w4⟩
    · rw [getE_ne y] at z
      have w := h.at' j e z
      cases e with
      | v p => exact w
      | o md d =>
        obtain ⟨x, u1, u2, u3, u4⟩ := w
        refine ⟨x, u1, u2, ?_, u4⟩
        have : m ≠ x := fun v => by
          subst v
          exact y (h.dis i j _ _ _ _ m q z w1 u1)
        rw [List.getElem?_set_ne this]
        exact u3
      | r p d => exact w
  · have f : ∀ (j : Nat) (ma : Option Nat) (a : CO), getE ((i, .o mo c') :: Γ) j = some (.o ma a) → ∃ mb b, getE Γ j = some (.o mb b) := fun j ma a z => by
      by_cases y : i = j
      · subst y
        exact ⟨_, _, q⟩
      · rw [getE_ne y] at z
        exact ⟨_, _, z⟩
    obtain ⟨_, a', z1⟩ := f j ma a z1
    obtain ⟨_, b', z2⟩ := f k mb b z2
    exact h.dis j k _ _ _ _ x z1 z2 e1 e2
  · by_cases y' : m = x
    · subst y'
      rw [List.getElem?_set_self hn] at e
      cases e
      exact hc k
    · rw [List.getElem?_set_ne y'] at e
      exact h.cl x y e k
/-- a slot is forgotten -/
theorem Hold.kill (h : Hold base n Γ env cs) {i : Nat} (q : getE Γ i = none) : Hold base n Γ (env.set i none) cs := by
  have ne : ∀ j e, getE Γ j = some e → i ≠ j := fun j e z y => by subst y; rw [q] at z; cases z
  refine ⟨by rw [List.length_set]; exact h.len, h.pre, fun j e z => ?_, fun j k mc md c d n z1 z2 e1 e2 => ?_, h.cl⟩
  · have w := h.at' j e z
    have y := ne j e z
    cases e with
    | v p => exact (List.getElem?_set_ne y).trans w
    | o m c => obtain ⟨n, w1, w2⟩ := w; exact ⟨n, (List.getElem?_set_ne y).trans w1, w2⟩
    | r p c => obtain ⟨d, w1, w2⟩ := w; exact ⟨d, (List.getElem?_set_ne y).trans w1, w2⟩
  · rw [List.getElem?_set_ne (ne _ _ z1)] at e1
    rw [List.getElem?_set_ne (ne _ _ z2)] at e2
    exact h.dis j k mc md c d n z1 z2 e1 e2
def noneIn (T : List Nat) (Γ : Ents) : Bool := T.all fun i => (getE Γ i).isNone
theorem noneIn_cons {i : Nat} {T : List Nat} (q : noneIn (i :: T) Γ = true) : getE Γ i = none ∧ noneIn T Γ = true := by
  unfold noneIn at q
  rw [List.all_cons, Bool.and_eq_true] at q
  obtain ⟨q1, q2⟩ := q
  refine ⟨?_, q2⟩
  cases z : getE Γ i with
  | none => rfl
  | some e => rw [z] at q1; cases q1
theorem Hold.kills : ∀ {T : List Nat} {env : Env}, Hold base n Γ env cs → noneIn T Γ = true → Hold base n Γ (killAll env T) cs
  | [], _, h, _ => h
  | i :: T, env, h, q => Hold.kills (T := T) (h.kill (noneIn_cons q).1) (noneIn_cons q).2
theorem Hold.wipe : ∀ {T : List Nat}, Hold base n Γ env cs → noneIn T Γ = true → Hold base n Γ (wipeE env T) cs
  | [], h, _ => h
  | i :: T, h, q => (Hold.wipe (T := T) h (noneIn_cons q).2).kill (noneIn_cons q).1
/-- without some slots -/
def dropE (T : List Nat) : Ents → Ents
  | [] => []
  | (i, e) :: r => if T.any (fun j => Nat.beq i j) = true then dropE T r else (i, e) :: dropE T r
theorem dropE_get {T : List Nat} : ∀ {Γ : Ents} {i : Nat}, getE (dropE T Γ) i = if T.any (fun j => Nat.beq i j) = true then none else getE Γ i
  | [], i => by simp [dropE, getE]
  | (j, e) :: r, i => by
    rw [dropE]
    by_cases z : T.any (fun k => Nat.beq j k) = true
    · rw [if_pos z, dropE_get (Γ := r)]
      by_cases y : T.any (fun k => Nat.beq i k) = true
      · rw [if_pos y, if_pos y]
      · rw [if_neg y, if_neg y]
        rw [getE_ne]
        intro w
        subst w
        exact y z
    · rw [if_neg z]
      by_cases w : j = i
      · subst w
        rw [getE_same, if_neg z, getE_same]
      · rw [getE_ne w, getE_ne w]
        exact dropE_get (Γ := r)
theorem dropE_sub {T : List Nat} : Sub (dropE T Γ) Γ := fun i e h => by
  rw [dropE_get] at h
  split at h
  · cases h
  · exact h
theorem dropE_none {T : List Nat} : noneIn T (dropE T Γ) = true := by
  unfold noneIn
  rw [List.all_eq_true]
  intro i hi
  rw [dropE_get, if_pos (List.any_eq_true.mpr ⟨i, hi, by rw [Nat.beq_eq]⟩)]
  rfl
end

/-! ### expressions -/
/-- how a result of a reading stands to a typed one -/
def ER (K : Fg) {α β : Type} (q : Cells → α → β → Prop) (cs : Cells) (r : Rs β) : R α → Prop
  | .ok a => ∃ p, r = .ok p cs ∧ q cs a p
  | .ex x => r = .ex (enX K x) cs
  | .stuck => True
/-- plain values -/
abbrev qP (K : Fg) {α : Type} [Ty α] : Cells → α → P → Prop := fun _ a p => p = enc K a
/-- values that may be cells -/
abbrev qR (K : Fg) {α : Type} [Mt α] : Cells → α → P → Prop := fun cs a p => Rd cs (enc K a) (co K a) p
abbrev qB : Cells → Bool → Bool → Prop := fun _ a b => b = a
def TE (K : Fg) (base : Cells) (n : Nat) (Γ : Ents) {α β : Type} (q : Cells → α → β → Prop) (f : Env → Cells → Rs β) (t : R α) : Prop :=
  ∀ env cs, Hold base n Γ env cs → ER K q cs (f env cs) t
section
variable {K : Fg} {base : Cells} {n : Nat} {Γ : Ents}
theorem ER.bind {α β α' β' : Type} {q : Cells → α → β → Prop} {q' : Cells → α' → β' → Prop} {cs : Cells} {r : Rs β} {t : R α} {k : β → Cells → Rs β'} {l : α → R α'} (h : ER K q cs r t) (hk : ∀ a p, q cs a p → ER K q' cs (k p cs) (l a)) : ER K q' cs (r.bind k) (t.bind l) := by
  cases t with
  | ok a =>
    obtain ⟨p, e, hq⟩ := h
    rw [e]
    exact hk a p hq
  | ex x =>
    have h : r = _ := h
    rw [h]
    rfl
  | stuck => trivial
theorem TE.bind {α β α' β' : Type} {q : Cells → α → β → Prop} {q' : Cells → α' → β' → Prop} {f : Env → Cells → Rs β} {t : R α} {k : Env → β → Cells → Rs β'} {l : α → R α'} (h : TE K base n Γ q f t) (hk : ∀ a env cs p, Hold base n Γ env cs → q cs a p → ER K q' cs (k env p cs) (l a)) :
    TE K base n Γ q' (fun env cs => (f env cs).bind (k env)) (t.bind l) := fun env cs hh => (h env cs hh).bind fun a p z => hk a env cs p hh z
theorem TE.weak {α β : Type} {q q' : Cells → α → β → Prop} {f : Env → Cells → Rs β} {t : R α} (h : TE K base n Γ q f t) (w : ∀ cs a p, q cs a p → q' cs a p) : TE K base n Γ q' f t := fun env cs hh => by
  have := h env cs hh
  cases t with
  | ok a => obtain ⟨p, e, z⟩ := this; exact ⟨p, e, w _ _ _ z⟩
  | ex x => exact this
  | stuck => trivial
theorem te_var {α : Type} [Ty α] (i : Nat) (a : α) (h : getE Γ i = some (.v (enc K a))) : TE K base n Γ (qP K) (dVar i) (.ok a) := fun env cs hh => ⟨_, e_var (hh.at' i _ h), rfl⟩
theorem te_own {α : Type} [Mt α] {mo : Option Nat} (i : Nat) (a : α) (h : getE Γ i = some (.o mo (co K a))) : TE K base n Γ (qR K) (dVar i) (.ok a) := fun env cs hh => by
  obtain ⟨m, w1, w2, w3, _⟩ := hh.at' i _ h
  exact ⟨_, e_var w1, .inr ⟨m, rfl, w3⟩⟩
theorem te_rd {α : Type} [Mt α] (i : Nat) (a : α) (h : getE Γ i = some (.r (enc K a) (co K a))) : TE K base n Γ (qR K) (dVar i) (.ok a) := fun env cs hh => by
  obtain ⟨d, w1, w2⟩ := hh.at' i _ h
  exact ⟨_, e_var w1, w2.pre hh.pre⟩
/-- what is plain may be read -/
theorem te_up {α : Type} [Mt α] {f : DEn} {t : R α} (h : TE K base n Γ (qP K) f t) : TE K base n Γ (qR K) f t := h.weak fun _ _ _ z => .inl z
theorem te_c {α : Type} [Ty α] (a : α) {p : P} (h : p = enc K a) : TE K base n Γ (qP K) (dC p) (.ok a) := fun env cs hh => ⟨_, rfl, h⟩
theorem te_int (i : Int) : TE K base n Γ (qP K) (dC (.int i)) (.ok i) := te_c i rfl
theorem te_str (i : Str) : TE K base n Γ (qP K) (dC (.str i)) (.ok i) := te_c i rfl
theorem te_bl (i : Bool) : TE K base n Γ (qP K) (dC (.bl i)) (.ok i) := te_c i rfl
theorem te_non : TE K base n Γ (qP K) (dC .non) (.ok ()) := te_c () rfl
/-- operators -/
def Op2 (K : Fg) {α β γ : Type} (q1 : Cells → α → P → Prop) (q2 : Cells → β → P → Prop) (q3 : Cells → γ → P → Prop) (g : G2) (op : α → β → R γ) : Prop :=
  ∀ cs a b p r, q1 cs a p → q2 cs b r → ER K q3 cs (g p r cs) (op a b)
theorem te_bin {α β γ : Type} {q1 : Cells → α → P → Prop} {q2 : Cells → β → P → Prop} {q3 : Cells → γ → P → Prop} {g : G2} {op : α → β → R γ} (o : Op2 K q1 q2 q3 g op) {fa fb : DEn} {ta : R α} {tb : R β} (ha : TE K base n Γ q1 fa ta) (hb : TE K base n Γ q2 fb tb) :
    TE K base n Γ q3 (dBin g fa fb) (ta.bind fun a => tb.bind fun b => op a b) :=
  ha.bind fun a env cs p hh z => (hb env cs hh).bind fun b r y => o cs a b p r z y
/-- calls of one argument by values -/
def Op1 (K : Fg) {α γ : Type} (q1 : Cells → α → P → Prop) (q3 : Cells → γ → P → Prop) (g : GC) (op : α → R γ) : Prop := ∀ cs a p, q1 cs a p → ER K q3 cs (g [p] cs) (op a)
theorem te_cb1 {α γ : Type} {q1 : Cells → α → P → Prop} {q3 : Cells → γ → P → Prop} {g : GC} {op : α → R γ} (o : Op1 K q1 q3 g op) {fa : DEn} {ta : R α} (ha : TE K base n Γ q1 fa ta) :
    TE K base n Γ q3 (dCallB g (dCons fa dNil)) (ta.bind op) := fun env cs hh => by
  unfold dCallB
  rw [e_cons]
  have := ha env cs hh
  cases ta with
  | ok a => obtain ⟨p, e, z⟩ := this; rw [e]; exact o cs a p z
  | ex x => have this : _ = _ := this; rw [this]; exact rfl
  | stuck => trivial
def OpB2 (K : Fg) {α β γ : Type} (q1 : Cells → α → P → Prop) (q2 : Cells → β → P → Prop) (q3 : Cells → γ → P → Prop) (g : GC) (op : α → β → R γ) : Prop :=
  ∀ cs a b p r, q1 cs a p → q2 cs b r → ER K q3 cs (g [p, r] cs) (op a b)
theorem te_cb2 {α β γ : Type} {q1 : Cells → α → P → Prop} {q2 : Cells → β → P → Prop} {q3 : Cells → γ → P → Prop} {g : GC} {op : α → β → R γ} (o : OpB2 K q1 q2 q3 g op) {fa fb : DEn} {ta : R α} {tb : R β} (ha : TE K base n Γ q1 fa ta) (hb : TE K base n Γ q2 fb tb) :
    TE K base n Γ q3 (dCallB g (dCons fa (dCons fb dNil))) (ta.bind fun a => tb.bind fun b => op a b) := fun env cs hh => by
  have h1 := ha env cs hh
  have h2 := hb env cs hh
  unfold dCallB
  rw [e_cons]
  cases ta with
  | ok a =>
    obtain ⟨p, e, z⟩ := h1
    rw [e]
    simp only [Rs.bind_ok, e_cons, e_nil]
    cases tb with
    | ok b => obtain ⟨r, e, y⟩ := h2; rw [e]; exact o cs a b p r z y
    | ex x => have h2 : _ = _ := h2; rw [h2]; exact rfl
    | stuck => trivial
  | ex x => have h1 : _ = _ := h1; rw [h1]; exact rfl
  | stuck => trivial
/-- -a -/
theorem te_neg {f : DEn} {t : R Int} (h : TE K base n Γ (qP K) f t) : TE K base n Γ (qP K) (dNeg f) (t.bind fun i => .ok (-i)) := h.bind fun a env cs p hh z => by
  have z : p = .int a := z
  subst z
  exact ⟨_, rfl, rfl⟩
/-- tests -/
theorem tt_tst {f : DEn} {t : R Bool} (h : TE K base n Γ (qP K) f t) : TE K base n Γ qB (dTst f) t := fun env cs hh => by
  have := h env cs hh
  unfold dTst
  cases t with
  | ok a => obtain ⟨p, e, z⟩ := this; rw [e]; have z : p = .bl a := z; subst z; exact ⟨_, rfl, rfl⟩
  | ex x => have this : _ = _ := this; rw [this]; exact rfl
  | stuck => trivial
/-- truth of a value -/
def Tru {α : Type} (q : Cells → α → P → Prop) (op : α → R Bool) : Prop := ∀ cs a p, q cs a p → ∀ b, op a = .ok b → tru cs p = some b
theorem tt_tru {K : Fg} {α : Type} {q : Cells → α → P → Prop} {op : α → R Bool} (o : Tru q op) (oe : ∀ a x, op a ≠ .ex x) {f : DEn} {t : R α} (h : TE K base n Γ q f t) : TE K base n Γ qB (dTru f) (t.bind op) := h.bind fun a env cs p hh z => by
  cases e : op a with
  | ok b => rw [o cs a p z b e]; exact ⟨_, rfl, rfl⟩
  | ex x => exact absurd e (oe a x)
  | stuck => trivial
theorem tt_not {f : DTn} {t : R Bool} (h : TE K base n Γ qB f t) : TE K base n Γ qB (dNot f) (t.bind fun b => .ok (!b)) := h.bind fun a env cs p hh z => by
  subst z
  exact ⟨_, rfl, rfl⟩
def andR (t u : R Bool) : R Bool := t.bind fun b => if b = true then u else .ok false
def orR (t u : R Bool) : R Bool := t.bind fun b => if b = true then .ok true else u
theorem tt_and {f g : DTn} {t u : R Bool} (h : TE K base n Γ qB f t) (h' : TE K base n Γ qB g u) : TE K base n Γ qB (dAnd f g) (andR t u) := h.bind fun a env cs p hh z => by
  subst z
  cases p with
  | true => exact h' env cs hh
  | false => exact ⟨_, rfl, rfl⟩
theorem tt_or {f g : DTn} {t u : R Bool} (h : TE K base n Γ qB f t) (h' : TE K base n Γ qB g u) : TE K base n Γ qB (dOr f g) (orR t u) := h.bind fun a env cs p hh z => by
  subst z
  cases p with
  | true => exact ⟨_, rfl, rfl⟩
  | false => exact h' env cs hh
theorem te_andV {f g : DEn} {t u : R Bool} (h : TE K base n Γ (qP K) f t) (h' : TE K base n Γ (qP K) g u) : TE K base n Γ (qP K) (dAndV f g) (andR t u) := h.bind fun a env cs p hh z => by
  have z : p = .bl a := z
  subst z
  cases a with
  | true => exact h' env cs hh
  | false => exact ⟨_, rfl, rfl⟩
theorem te_orV {f g : DEn} {t u : R Bool} (h : TE K base n Γ (qP K) f t) (h' : TE K base n Γ (qP K) g u) : TE K base n Γ (qP K) (dOrV f g) (orR t u) := h.bind fun a env cs p hh z => by
  have z : p = .bl a := z
  subst z
  cases a with
  | true => exact ⟨_, rfl, rfl⟩
  | false => exact h' env cs hh
theorem te_notV {f : DEn} {t : R Bool} (h : TE K base n Γ (qP K) f t) : TE K base n Γ (qP K) (dNotV f) (t.bind fun b => .ok (!b)) := h.bind fun a env cs p hh z => by
  have z : p = .bl a := z
  subst z
  exact ⟨_, rfl, rfl⟩
def iteR {α : Type} (t : R Bool) (u v : R α) : R α := t.bind fun b => if b = true then u else v
theorem te_ifE {α : Type} {q : Cells → α → P → Prop} {t : DTn} {f g : DEn} {tt : R Bool} {u v : R α} (h : TE K base n Γ qB t tt) (hf : TE K base n Γ q f u) (hg : TE K base n Γ q g v) : TE K base n Γ q (dIfE t f g) (iteR tt u v) := h.bind fun a env cs p hh z => by
  subst z
  cases p with
  | true => exact hf env cs hh
  | false => exact hg env cs hh
/-- arguments, one after the other -/
def TA (K : Fg) (base : Cells) (n : Nat) (Γ : Ents) {α : Type} (fa : DAn) (W : Cells → List P → R α → Prop) (t : R α) : Prop := ∀ env cs, Hold base n Γ env cs →
  t = .stuck ∨ (∃ ds, fa env cs = .ok ds cs ∧ W cs ds t) ∨ ∃ x, fa env cs = .ex (enX K x) cs ∧ t = .ex x
theorem ta_nil {α : Type} {W : Cells → List P → R α → Prop} {t : R α} (h : ∀ cs, Clo cs → W cs [] t) : TA K base n Γ dNil W t := fun env cs hh => .inr (.inl ⟨[], rfl, h cs hh.cl⟩)
theorem ta_cons {α τ : Type} {q : Cells → α → P → Prop} {f : DEn} {t1 : R α} {g : DAn} {W : Cells → List P → R τ → Prop} {t2 : α → R τ} (h : TE K base n Γ q f t1) (h2 : ∀ a, TA K base n Γ g (fun cs ds t => ∀ d, q cs a d → W cs (d :: ds) t) (t2 a)) : TA K base n Γ (dCons f g) W (t1.bind t2) := fun env cs hh => by
  have z := h env cs hh
  cases t1 with
  | ok a =>
    obtain ⟨p, e, y⟩ := z
    rw [e_cons, e]
    rcases h2 a env cs hh with w | ⟨ds, w1, w2⟩ | ⟨x, w1, w2⟩
    · exact .inl w
    · refine .inr (.inl ⟨p :: ds, ?_, w2 p y⟩)
      rw [Rs.bind_ok, w1]
      rfl
    · refine .inr (.inr ⟨x, ?_, w2⟩)
      rw [Rs.bind_ok, w1]
      rfl
  | ex x =>
    refine .inr (.inr ⟨x, ?_, rfl⟩)
    rw [e_cons, show f env cs = _ from z]
    rfl
  | stuck => exact .inl rfl
theorem TA.er {α β : Type} {fa : DAn} {q : Cells → α → β → Prop} {t : R α} (G : List P → Cells → Rs β) (h : TA K base n Γ fa (fun cs ds t => ER K q cs (G ds cs) t) t) : TE K base n Γ q (fun env cs => (fa env cs).bind fun ds cs => G ds cs) t := fun env cs hh => by
  rcases h env cs hh with w | ⟨ds, w1, w2⟩ | ⟨x, w1, w2⟩
  · rw [w]; trivial
  · show ER K q cs ((fa env cs).bind _) t
    rw [w1]
    exact w2
  · show ER K q cs ((fa env cs).bind _) t
    rw [w1, w2]
    exact rfl
theorem te_call {α : Type} {q : Cells → α → P → Prop} {F : Fn} {fa : DAn} {t : R α} (h : TA K base n Γ fa (fun cs ds t => ER K q cs (F ds cs) t) t) : TE K base n Γ q (dCall F fa) t := TA.er (fun ds cs => F ds cs) h
theorem te_callB {α : Type} {q : Cells → α → P → Prop} {g : GC} {fa : DAn} {t : R α} (h : TA K base n Γ fa (fun cs ds t => ER K q cs (g ds cs) t) t) : TE K base n Γ q (dCallB g fa) t := TA.er (fun ds cs => g ds cs) h
theorem te_tupA {α : Type} [Ty α] {fa : DAn} {t : R α} (h : TA K base n Γ fa (fun cs ds t => ∃ a, t = .ok a ∧ enc K a = .tup ds ∧ ds.length ≤ sizeLine) t) : TE K base n Γ (qP K) (dTup fa) t := by
  refine TA.er (β := P) (fun xs cs => if xs.length ≤ sizeLine then .ok (.tup xs) cs else .stuck) fun env cs hh => ?_
  rcases h env cs hh with w | ⟨ds, w1, a, w2, w3, w4⟩ | w
  · exact .inl w
  · refine .inr (.inl ⟨ds, w1, ?_⟩)
    rw [w2]
    show ER K (qP K) cs (if ds.length ≤ sizeLine then .ok (.tup ds) cs else .stuck) (R.ok a)
    rw [if_pos w4]
    exact ⟨_, rfl, w3.symm⟩
  · exact .inr (.inr w)
/-- fresh objects -/
abbrev qF (K : Fg) {α : Type} [Mt α] : Cells → α → CO → Prop := fun _ a c => c = co K a
theorem te_lstA {α : Type} [Ty α] {fa : DAn} {t : R (List α)} (h : TA K base n Γ fa (fun cs ds t => ∃ a, t = .ok a ∧ a.map (enc K) = ds ∧ ds.length ≤ sizeLine) t) : TE K base n Γ (qF K) (dLst fa) t := by
  refine TA.er (β := CO) (fun xs cs => if xs.length ≤ sizeLine then .ok (.lst xs) cs else .stuck) fun env cs hh => ?_
  rcases h env cs hh with w | ⟨ds, w1, a, w2, w3, w4⟩ | w
  · exact .inl w
  · refine .inr (.inl ⟨ds, w1, ?_⟩)
    rw [w2]
    show ER K (qF K) cs (if ds.length ≤ sizeLine then .ok (.lst ds) cs else .stuck) (R.ok a)
    rw [if_pos w4]
    refine ⟨_, rfl, ?_⟩
    show _ = CO.lst (a.map (enc K))
    rw [w3]
  · exact .inr (.inr w)
theorem te_pub {α : Type} [Mt α] {f : DFn} {t : R α} (h : TE K base n Γ (qF K) f t) : TE K base n Γ (qP K) (dPub f) t := fun env cs hh => by
  have := h env cs hh
  rw [e_pub]
  cases t with
  | ok a =>
    obtain ⟨c, e, z⟩ := this
    rw [e]
    have z : c = co K a := z
    subst z
    refine ⟨_, ?_, rfl⟩
    rw [Rs.bind_ok]
    unfold pubR
    rw [Mt.pub]
  | ex x => have this : _ = _ := this; rw [this]; exact rfl
  | stuck => trivial
/-- calls that make an object: of one value -/
def OpF1 (K : Fg) {α γ : Type} (q1 : Cells → α → P → Prop) (q3 : Cells → γ → CO → Prop) (g : GCF) (op : α → R γ) : Prop := ∀ cs a p, q1 cs a p → ER K q3 cs (g [p] cs) (op a)
theorem te_cf1 {α γ : Type} {q1 : Cells → α → P → Prop} {q3 : Cells → γ → CO → Prop} {g : GCF} {op : α → R γ} (o : OpF1 K q1 q3 g op) {fa : DEn} {ta : R α} (ha : TE K base n Γ q1 fa ta) :
    TE K base n Γ q3 (dCallF g (dCons fa dNil)) (ta.bind op) := fun env cs hh => by
  unfold dCallF
  rw [e_cons]
  have := ha env cs hh
  cases ta with
  | ok a => obtain ⟨p, e, z⟩ := this; rw [e]; exact o cs a p z
  | ex x => have this : _ = _ := this; rw [this]; exact rfl
  | stuck => trivial
end
end TL

namespace TL
open PySem L2 DL
open Ty (enc)
open Mt (co)
/-! ### statements -/
/-- what is wanted behind a block -/
structure Post (τ : Type) where
  nx : Env → Cells → R τ → Prop
  rt : P → Cells → R τ → Prop
  bk : Env → Cells → R τ → Prop
  ct : Env → Cells → R τ → Prop
  ex : Env → Cells → Prop
def BR (K : Fg) {τ : Type} (Q : Post τ) (o : Out) (t : R τ) : Prop := t = .stuck ∨ match o with
  | .nx e c => Q.nx e c t
  | .rt d c => Q.rt d c t
  | .bk e c => Q.bk e c t
  | .ct e c => Q.ct e c t
  | .ex e v c => ∃ x, t = .ex x ∧ e = enX K x ∧ Q.ex v c
  | .stuck => False
def TB (K : Fg) (base : Cells) (n : Nat) (Γ : Ents) {τ : Type} (g : DSn) (Q : Post τ) (t : R τ) : Prop := ∀ env cs, Hold base n Γ env cs → BR K Q (g env cs) t
/-- an error may end the block here -/
abbrev HX (base : Cells) (n : Nat) (Γ : Ents) {τ : Type} (Q : Post τ) {α : Type} (t : R α) : Prop := (∃ x, t = .ex x) → ∀ e c, Hold base n Γ e c → Q.ex e c
/-- an error here is not told of -/
def R.nox {α : Type} (r : R α) : R α := match r with
  | .ex _ => .stuck
  | r => r
@[simp] theorem R.nox_ok {α : Type} (a : α) : (R.ok a).nox = .ok a := Eq.trans rfl rfl
@[simp] theorem R.nox_ex {α : Type} (x : TX) : (R.ex x : R α).nox = .stuck := Eq.trans rfl rfl
@[simp] theorem R.nox_stuck {α : Type} : (R.stuck : R α).nox = .stuck := Eq.trans rfl rfl
section
variable {K : Fg} {base : Cells} {n : Nat} {Γ Δ : Ents}
theorem HX.nox {τ α : Type} {Q : Post τ} {t : R α} : HX base n Γ Q t.nox := fun ⟨x, h⟩ => by
  cases t with
  | ok a => cases h
  | ex x => cases h
  | stuck => cases h
theorem HX.ok {τ α : Type} {Q : Post τ} {a : α} : HX base n Γ Q (R.ok a) := fun ⟨x, h⟩ => by cases h
theorem te_nox {α β : Type} {q : Cells → α → β → Prop} {f : Env → Cells → Rs β} {t : R α} (h : TE K base n Γ q f t) : TE K base n Γ q f t.nox := fun env cs hh => by
  have := h env cs hh
  cases t with
  | ok a => exact this
  | ex x => trivial
  | stuck => trivial
def Post.seq (K : Fg) {τ : Type} (Q : Post τ) (g : DSn) : Post τ := { Q with nx := fun e c t => BR K Q (g e c) t }
theorem tb_seq {τ : Type} {f g : DSn} {Q : Post τ} {t : R τ} (h : TB K base n Γ f (Q.seq K g) t) : TB K base n Γ (dSeq f g) Q t := fun env cs hh => by
  have := h env cs hh
  rw [e_seq]
  rcases this with z | z
  · exact .inl z
  · cases q : f env cs with
    | nx e c => rw [q] at z; exact z
    | _ => rw [q] at z; exact .inr z
theorem tb_last {τ : Type} {f : DSn} {Q : Post τ} {t : R τ} (h : TB K base n Γ (dSeq f dNext) Q t) : TB K base n Γ f Q t := fun env cs hh => by
  have := h env cs hh
  rw [e_seq] at this
  rcases this with z | z
  · exact .inl z
  · refine .inr ?_
    cases q : f env cs with
    | _ => rw [q] at z; exact z
theorem tb_nxseq {τ : Type} {g : DSn} {Q : Post τ} {t : R τ} (h : TB K base n Γ g Q t) : TB K base n Γ dNext (Q.seq K g) t := fun env cs hh => .inr (h env cs hh)
theorem tb_pass {τ : Type} {g : DSn} {Q : Post τ} {t : R τ} (h : TB K base n Γ g Q t) : TB K base n Γ (dSeq dNext g) Q t := fun env cs hh => h env cs hh
theorem tb_sub {τ : Type} {g : DSn} {Q : Post τ} {t : R τ} (h : TB K base n Δ g Q t) (s : Sub Δ Γ) : TB K base n Γ g Q t := fun env cs hh => h env cs (hh.sub s)
theorem TB.of {τ α : Type} {Q : Post τ} {f : Env → Cells → Rs P} {q : Cells → α → P → Prop} {t : R α} {k : P → DSn} {l : α → R τ} (h : TE K base n Γ q f t) (hx : HX base n Γ Q t) (hk : ∀ a env cs p, Hold base n Γ env cs → q cs a p → BR K Q (k p env cs) (l a)) : TB K base n Γ (dTo f k) Q (t.bind l) := fun env cs hh => by
  have := h env cs hh
  unfold dTo
  cases t with
  | ok a => obtain ⟨p, e, z⟩ := this; rw [e]; exact hk a env cs p hh z
  | ex x => rw [show f env cs = _ from this]; exact .inr ⟨x, rfl, rfl, hx ⟨x, rfl⟩ _ _ hh⟩
  | stuck => exact .inl rfl
theorem seq_to {f : DEn} {k : P → DSn} {g : DSn} : dSeq (dTo f k) g = dTo f fun p => dSeq (k p) g := by
  funext env cs
  unfold dSeq dTo
  cases f env cs <;> rfl
theorem tb_set {α τ : Type} [Ty α] {i : Nat} {f : DEn} {g : DSn} {Q : Post τ} {t : R α} {l : α → R τ} (hi : i < n) (h : TE K base n Γ (qP K) f t) (hx : HX base n Γ Q t) (hk : ∀ a, TB K base n ((i, .v (enc K a)) :: Γ) g Q (l a)) : TB K base n Γ (dSeq (dSet i f) g) Q (t.bind l) := by
  unfold dSet
  rw [seq_to]
  exact TB.of h hx fun a env cs p hh z => by
    subst z
    exact hk a _ _ (hh.set hi)
theorem tb_own {α τ : Type} [Mt α] {i : Nat} {f : DFn} {g : DSn} {Q : Post τ} {t : R α} {l : α → R τ} (hi : i < n) (h : TE K base n Γ (qF K) f t) (hx : HX base n Γ Q t) (hk : ∀ a, TB K base n ((i, .o none (co K a)) :: Γ) g Q (l a)) : TB K base n Γ (dSeq (dSet i (dOwn f)) g) Q (t.bind l) := fun env cs hh => by
  have := h env cs hh
  rw [e_seq, e_set, e_own]
  cases t with
  | ok a =>
    obtain ⟨p, e, z⟩ := this
    rw [e]
    have z : p = co K a := z
    subst z
    exact hk a _ _ (hh.own hi (fun m => Mt.cloC K m a))
  | ex x => rw [show f env cs = _ from this]; exact .inr ⟨x, rfl, rfl, hx ⟨x, rfl⟩ _ _ hh⟩
  | stuck => exact .inl rfl
theorem tb_drop {α τ : Type} {q : Cells → α → P → Prop} {f : DEn} {g : DSn} {Q : Post τ} {t : R α} {l : α → R τ} (h : TE K base n Γ q f t) (hx : HX base n Γ Q t) (hk : ∀ a, TB K base n Γ g Q (l a)) : TB K base n Γ (dSeq (dDrop f) g) Q (t.bind l) := by
  unfold dDrop
  rw [seq_to]
  exact TB.of h hx fun a env cs p hh z => hk a _ _ hh
theorem tb_ret {α τ : Type} {q : Cells → α → P → Prop} {f : DEn} {g : DSn} {Q : Post τ} {t : R α} {l : α → R τ} (h : TE K base n Γ q f t) (hx : HX base n Γ Q t) (hk : ∀ a c p, base <+: c → q c a p → Q.rt p c (l a)) : TB K base n Γ (dSeq (dRet f) g) Q (t.bind l) := by
  unfold dRet
  rw [seq_to]
  exact TB.of h hx fun a env cs p hh z => .inr (hk a cs p hh.pre z)
theorem tb_retN {τ : Type} {g : DSn} {Q : Post τ} {t : R τ} (hk : ∀ c, base <+: c → Q.rt .non c t) : TB K base n Γ (dSeq dRetN g) Q t := fun env cs hh => .inr (hk cs hh.pre)
theorem tb_bk {τ : Type} {g : DSn} {Q : Post τ} {t : R τ} (hk : ∀ e c, Hold base n Γ e c → Q.bk e c t) : TB K base n Γ (dSeq dBk g) Q t := fun env cs hh => .inr (hk _ _ hh)
theorem tb_ct {τ : Type} {g : DSn} {Q : Post τ} {t : R τ} (hk : ∀ e c, Hold base n Γ e c → Q.ct e c t) : TB K base n Γ (dSeq dCt g) Q t := fun env cs hh => .inr (hk _ _ hh)
theorem tb_next {τ : Type} {Q : Post τ} {t : R τ} (hk : ∀ e c, Hold base n Γ e c → Q.nx e c t) : TB K base n Γ dNext Q t := fun env cs hh => .inr (hk _ _ hh)
/-- a dead end: nothing is told of it -/
theorem tb_dead {τ : Type} {Q : Post τ} {g : DSn} : TB K base n Γ g Q .stuck := fun env cs hh => .inl rfl
theorem tb_if {τ : Type} {f g : DSn} {td : DTn} {Q : Post τ} {t : R Bool} {u v : R τ} (h : TE K base n Γ qB td t) (hx : HX base n Γ Q t) (hf : TB K base n Γ f Q u) (hg : TB K base n Γ g Q v) : TB K base n Γ (dIf td f g) Q (iteR t u v) := fun env cs hh => by
  have := h env cs hh
  unfold dIf iteR
  cases t with
  | ok a =>
    obtain ⟨p, e, z⟩ := this
    rw [e]
    have z : p = a := z
    subst z
    cases p with
    | true => exact hf env cs hh
    | false => exact hg env cs hh
  | ex x => rw [show td env cs = _ from this]; exact .inr ⟨x, rfl, rfl, hx ⟨x, rfl⟩ _ _ hh⟩
  | stuck => exact .inl rfl
/-- raise of an own class without an __init__ -/
theorem tb_raise {α τ : Type} {q : Cells → α → P → Prop} {x : Str} {f : DEn} {g : DSn} {Q : Post τ} {t : R α} (h : TE K base n Γ q f t) (hx : HX base n Γ Q t) (hq : ∀ e c, Hold base n Γ e c → Q.ex e c) : TB K base n Γ (dSeq (dRaise (dX1 (He.ga K x) f)) g) Q (t.bind fun _ => .ex ⟨x, []⟩) := fun env cs hh => by
  have := h env cs hh
  rw [e_seq]
  unfold dRaise dX1
  cases t with
  | ok a => obtain ⟨p, e, z⟩ := this; rw [e]; exact .inr ⟨⟨x, []⟩, rfl, rfl, hq _ _ hh⟩
  | ex y => rw [show f env cs = _ from this]; exact .inr ⟨y, rfl, rfl, hx ⟨y, rfl⟩ _ _ hh⟩
  | stuck => exact .inl rfl
/-- where two ways meet, none of which has left the block -/
def Post.jn (base : Cells) (n : Nat) {σ τ : Type} (Γj : σ → Ents) (Q : Post τ) : Post σ where
  nx e c t := ∃ s, t = .ok s ∧ Hold base n (Γj s) e c
  rt _ _ _ := False
  bk _ _ _ := False
  ct _ _ _ := False
  ex := Q.ex
/-- .. some of which may have -/
def Post.je (base : Cells) (n : Nat) {σ τ : Type} (Γj : σ → Ents) (Q : Post τ) : Post (Lp σ τ) where
  nx e c t := ∃ s, t = .ok (.nx s) ∧ Hold base n (Γj s) e c
  rt d c t := ∃ y, t = .ok (.rt y) ∧ Q.rt d c (.ok y)
  bk e c t := ∃ y, t = .ok (.rt y) ∧ Q.bk e c (.ok y)
  ct e c t := ∃ y, t = .ok (.rt y) ∧ Q.ct e c (.ok y)
  ex := Q.ex
theorem tb_join {σ τ : Type} {f g : DSn} {Q : Post τ} {Γj : σ → Ents} {t : R σ} {k : σ → R τ} (h : TB K base n Γ f (Post.jn base n Γj Q) t) (hk : ∀ s, TB K base n (Γj s) g Q (k s)) : TB K base n Γ (dSeq f g) Q (t.bind k) := fun env cs hh => by
  have := h env cs hh
  rw [e_seq]
  rcases this with z | z
  · rw [z]; exact .inl rfl
  · cases q : f env cs with
    | nx e c => rw [q] at z; obtain ⟨s, w1, w2⟩ := z; rw [w1]; exact hk s _ _ w2
    | rt d c => rw [q] at z; exact z.elim
    | bk d c => rw [q] at z; exact z.elim
    | ct d c => rw [q] at z; exact z.elim
    | ex e v c => rw [q] at z; obtain ⟨x, w1, w2, w3⟩ := z; rw [w1]; exact .inr ⟨x, rfl, w2, w3⟩
    | stuck => rw [q] at z; exact z.elim
theorem tb_joinE {σ τ : Type} {f g : DSn} {Q : Post τ} {Γj : σ → Ents} {t : R (Lp σ τ)} {k : σ → R τ} (h : TB K base n Γ f (Post.je base n Γj Q) t) (hk : ∀ s, TB K base n (Γj s) g Q (k s)) : TB K base n Γ (dSeq f g) Q (t.then k) := fun env cs hh => by
  have := h env cs hh
  rw [e_seq]
  rcases this with z | z
  · rw [z]; exact .inl rfl
  · cases q : f env cs with
    | nx e c => rw [q] at z; obtain ⟨s, w1, w2⟩ := z; rw [w1]; exact hk s _ _ w2
    | rt d c => rw [q] at z; obtain ⟨s, w1, w2⟩ := z; rw [w1]; exact .inr w2
    | bk d c => rw [q] at z; obtain ⟨s, w1, w2⟩ := z; rw [w1]; exact .inr w2
    | ct d c => rw [q] at z; obtain ⟨s, w1, w2⟩ := z; rw [w1]; exact .inr w2
    | ex e v c => rw [q] at z; obtain ⟨x, w1, w2, w3⟩ := z; rw [w1]; exact .inr ⟨x, rfl, w2, w3⟩
    | stuck => rw [q] at z; exact z.elim
/-! ### targets -/
def TG (base : Cells) (n : Nat) (g : DGn) (p : P) (Γ Γ' : Ents) : Prop := ∀ env cs, Hold base n Γ env cs → ∃ e, g p env cs = some e ∧ Hold base n Γ' e cs
def TGs (base : Cells) (n : Nat) (g : List P → Env → Cells → Option Env) (ps : List P) (Γ Γ' : Ents) : Prop := ∀ env cs, Hold base n Γ env cs → ∃ e, g ps env cs = some e ∧ Hold base n Γ' e cs
theorem tg_nm {i : Nat} {p : P} (hi : i < n) : TG base n (gNm i) p Γ ((i, .v p) :: Γ) := fun env cs hh => ⟨_, rfl, hh.set hi⟩
theorem tgs_nil : TGs base n gsNil [] Γ Γ := fun env cs hh => ⟨_, rfl, hh⟩
theorem tgs_cons {g : DGn} {gs : List P → Env → Cells → Option Env} {p : P} {ps : List P} {Γ1 Γ2 Γ3 : Ents} (h : TG base n g p Γ1 Γ2) (r : TGs base n gs ps Γ2 Γ3) : TGs base n (gsCons g gs) (p :: ps) Γ1 Γ3 := fun env cs hh => by
  obtain ⟨e, w1, w2⟩ := h env cs hh
  obtain ⟨e', u1, u2⟩ := r e cs w2
  refine ⟨e', ?_, u2⟩
  show (match g p env cs with | some e => gs ps e cs | none => none) = _
  rw [w1]
  exact u1
theorem tg_tp {gs : List P → Env → Cells → Option Env} {ps : List P} {Γ1 Γ2 : Ents} (r : TGs base n gs ps Γ1 Γ2) : TG base n (gTp gs) (.tup ps) Γ1 Γ2 := r
theorem tb_asg {α τ : Type} [Ty α] {f : DEn} {gt : DGn} {g : DSn} {Q : Post τ} {t : R α} {l : α → R τ} {Γ' : α → Ents} (h : TE K base n Γ (qP K) f t) (hx : HX base n Γ Q t) (hg : ∀ a, TG base n gt (enc K a) Γ (Γ' a)) (hk : ∀ a, TB K base n (Γ' a) g Q (l a)) : TB K base n Γ (dSeq (dAsg f gt) g) Q (t.bind l) := by
  unfold dAsg
  rw [seq_to]
  exact TB.of h hx fun a env cs p hh z => by
    subst z
    obtain ⟨e, w1, w2⟩ := hg a env cs hh
    rw [e_seq, w1]
    exact hk a _ _ w2
/-! ### for -/
def qI (K : Fg) (base : Cells) {α : Type} (en : α → P) : Cells → List α → List P × (Cells → Bool) → Prop := fun _ xs L => L.1 = xs.map en ∧ ∀ c, base <+: c → L.2 c = true
def Post.lf (base : Cells) (n : Nat) {σ τ : Type} (Γl : σ → Ents) (Q : Post τ) : Post σ where
  nx e c t := ∃ s, t = .ok s ∧ Hold base n (Γl s) e c
  ct e c t := ∃ s, t = .ok s ∧ Hold base n (Γl s) e c
  rt _ _ _ := False
  bk _ _ _ := False
  ex := Q.ex
def Post.lg (base : Cells) (n : Nat) {σ τ : Type} (Γl : σ → Ents) (Q : Post τ) : Post (Lp σ τ) where
  nx e c t := ∃ s, t = .ok (.nx s) ∧ Hold base n (Γl s) e c
  ct e c t := ∃ s, t = .ok (.nx s) ∧ Hold base n (Γl s) e c
  bk e c t := ∃ s, t = .ok (.bk s) ∧ Hold base n (Γl s) e c
  rt d c t := ∃ y, t = .ok (.rt y) ∧ Q.rt d c (.ok y)
  ex := Q.ex
theorem forL_lf {α σ τ : Type} {en : α → P} {T : List Nat} {ok : Cells → Bool} {gt : DGn} {body : DSn} {Γl : σ → Ents} {Q : Post τ} {b : α → σ → R σ} (hok : ∀ c, base <+: c → ok c = true) (hT : ∀ s, noneIn T (Γl s) = true)
    (hb : ∀ x s, ∃ Γ', TG base n gt (en x) (Γl s) Γ' ∧ TB K base n Γ' body (Post.lf base n Γl Q) (b x s)) : ∀ {L : List α} {s : σ} {env : Env} {cs : Cells}, Hold base n (Γl s) env cs → BR K (Post.jn base n Γl Q) (dForL T ok gt body (L.map en) env cs) (foldR b L s)
  | [], s, env, cs, hh => by
    rw [List.map_nil, dForL, if_pos (hok cs hh.pre)]
    exact .inr ⟨s, foldR_nil, hh⟩
  | x :: L, s, env, cs, hh => by
    rw [List.map_cons, dForL, if_pos (hok cs hh.pre)]
    obtain ⟨Γ', h1, h2⟩ := hb x s
    obtain ⟨e, w1, w2⟩ := h1 env cs hh
    rw [w1, foldR_cons]
    dsimp only
    have z := h2 e cs w2
    rcases z with z | z
    · rw [z]; exact .inl rfl
    · cases q : body e cs with
      | nx e2 c2 => rw [q] at z; obtain ⟨s', u1, u2⟩ := z; rw [u1]; exact forL_lf hok hT hb (u2.kills (hT s'))
      | ct e2 c2 => rw [q] at z; obtain ⟨s', u1, u2⟩ := z; rw [u1]; exact forL_lf hok hT hb (u2.kills (hT s'))
      | bk e2 c2 => rw [q] at z; exact z.elim
      | rt e2 c2 => rw [q] at z; exact z.elim
      | ex e2 v c2 => rw [q] at z; obtain ⟨x, u1, u2, u3⟩ := z; rw [u1]; exact .inr ⟨x, rfl, u2, u3⟩
      | stuck => rw [q] at z; exact z.elim
theorem forL_lg {α σ τ : Type} {en : α → P} {T : List Nat} {ok : Cells → Bool} {gt : DGn} {body : DSn} {Γl : σ → Ents} {Q : Post τ} {b : α → σ → R (Lp σ τ)} (hok : ∀ c, base <+: c → ok c = true) (hT : ∀ s, noneIn T (Γl s) = true)
    (hb : ∀ x s, ∃ Γ', TG base n gt (en x) (Γl s) Γ' ∧ TB K base n Γ' body (Post.lg base n Γl Q) (b x s)) : ∀ {L : List α} {s : σ} {env : Env} {cs : Cells}, Hold base n (Γl s) env cs → BR K (Post.je base n Γl Q) (dForL T ok gt body (L.map en) env cs) (forR b L s) ∨ ∃ s' e c, dForL T ok gt body (L.map en) env cs = .nx e c ∧ forR b L s = .ok (.bk s') ∧ Hold base n (Γl s') e c
  | [], s, env, cs, hh => by
    rw [List.map_nil, dForL, if_pos (hok cs hh.pre)]
    exact .inl (.inr ⟨s, forR_nil, hh⟩)
  | x :: L, s, env, cs, hh => by
    rw [List.map_cons, dForL, if_pos (hok cs hh.pre)]
    obtain ⟨Γ', h1, h2⟩ := hb x s
    obtain ⟨e, w1, w2⟩ := h1 env cs hh
    rw [w1, forR_cons]
    dsimp only
    have z := h2 e cs w2
    rcases z with z | z
    · rw [z]; exact .inl (.inl rfl)
    · cases q : body e cs with
      | nx e2 c2 => rw [q] at z; obtain ⟨s', u1, u2⟩ := z; rw [u1]; exact forL_lg hok hT hb (u2.kills (hT s'))
      | ct e2 c2 => rw [q] at z; obtain ⟨s', u1, u2⟩ := z; rw [u1]; exact forL_lg hok hT hb (u2.kills (hT s'))
      | bk e2 c2 => rw [q] at z; obtain ⟨s', u1, u2⟩ := z; rw [u1]; exact .inr ⟨s', _, _, rfl, rfl, u2.kills (hT s')⟩
      | rt e2 c2 => rw [q] at z; obtain ⟨s', u1, u2⟩ := z; rw [u1]; exact .inl (.inr ⟨s', rfl, u2⟩)
      | ex e2 v c2 => rw [q] at z; obtain ⟨x, u1, u2, u3⟩ := z; rw [u1]; exact .inl (.inr ⟨x, rfl, u2, u3⟩)
      | stuck => rw [q] at z; exact z.elim
theorem tb_fold {α σ τ : Type} {en : α → P} {T : List Nat} {fi : DIn} {gt : DGn} {body g : DSn} {Q : Post τ} {ti : R (List α)} {b : α → σ → R σ} {k : σ → R τ} (Γl : σ → Ents) (s0 : σ) (hi : TE K base n Γ (qI K base en) fi ti) (hx : HX base n Γ Q ti) (hs : Sub (Γl s0) Γ) (hT : ∀ s, noneIn T (Γl s) = true)
    (hb : ∀ x s, ∃ Γ', TG base n gt (en x) (Γl s) Γ' ∧ TB K base n Γ' body (Post.lf base n Γl Q) (b x s)) (hk : ∀ s, TB K base n (Γl s) g Q (k s)) : TB K base n Γ (dSeq (dFor T fi gt body) g) Q (ti.bind fun L => (foldR b L s0).bind k) := fun env cs hh => by
  have z := hi env cs hh
  rw [e_seq, e_for]
  cases ti with
  | ok L =>
    obtain ⟨M, e, y1, y2⟩ := z
    rw [e, Rs.toO_ok, R.bind_ok, y1]
    have := forL_lf (L := L) y2 hT hb ((hh.sub hs).kills (hT s0))
    rcases this with w | w
    · rw [w]; exact .inl rfl
    · cases q : dForL T M.2 gt body (L.map en) (killAll env T) cs with
      | nx e c => rw [q] at w; obtain ⟨s, w1, w2⟩ := w; rw [w1]; exact hk s _ _ w2
      | ct e c => rw [q] at w; exact w.elim
      | bk e c => rw [q] at w; exact w.elim
      | rt e c => rw [q] at w; exact w.elim
      | ex e v c => rw [q] at w; obtain ⟨x, w1, w2, w3⟩ := w; rw [w1]; exact .inr ⟨x, rfl, w2, w3⟩
      | stuck => rw [q] at w; exact w.elim
  | ex x => rw [show fi env cs = _ from z]; exact .inr ⟨x, rfl, rfl, hx ⟨x, rfl⟩ _ _ hh⟩
  | stuck => exact .inl rfl
theorem tb_for {α σ τ : Type} {en : α → P} {T : List Nat} {fi : DIn} {gt : DGn} {body g : DSn} {Q : Post τ} {ti : R (List α)} {b : α → σ → R (Lp σ τ)} {k : σ → R τ} (Γl : σ → Ents) (s0 : σ) (hi : TE K base n Γ (qI K base en) fi ti) (hx : HX base n Γ Q ti) (hs : Sub (Γl s0) Γ) (hT : ∀ s, noneIn T (Γl s) = true)
    (hb : ∀ x s, ∃ Γ', TG base n gt (en x) (Γl s) Γ' ∧ TB K base n Γ' body (Post.lg base n Γl Q) (b x s)) (hk : ∀ s, TB K base n (Γl s) g Q (k s)) : TB K base n Γ (dSeq (dFor T fi gt body) g) Q (ti.bind fun L => (forR b L s0).then k) := fun env cs hh => by
  have z := hi env cs hh
  rw [e_seq, e_for]
  cases ti with
  | ok L =>
    obtain ⟨M, e, y1, y2⟩ := z
    rw [e, Rs.toO_ok, R.bind_ok, y1]
    rcases forL_lg (L := L) y2 hT hb ((hh.sub hs).kills (hT s0)) with w | ⟨s, e, c, w1, w2, w3⟩
    · rcases w with w | w
      · rw [w]; exact .inl rfl
      · cases q : dForL T M.2 gt body (L.map en) (killAll env T) cs with
        | nx e c => rw [q] at w; obtain ⟨s, w1, w2⟩ := w; rw [w1]; exact hk s _ _ w2
        | ct e c => rw [q] at w; obtain ⟨s, w1, w2⟩ := w; rw [w1]; exact .inr w2
        | bk e c => rw [q] at w; obtain ⟨s, w1, w2⟩ := w; rw [w1]; exact .inr w2
        | rt e c => rw [q] at w; obtain ⟨s, w1, w2⟩ := w; rw [w1]; exact .inr w2
        | ex e v c => rw [q] at w; obtain ⟨x, w1, w2, w3⟩ := w; rw [w1]; exact .inr ⟨x, rfl, w2, w3⟩
        | stuck => rw [q] at w; exact w.elim
    · rw [w1, w2]
      exact hk s _ _ w3
  | ex x => rw [show fi env cs = _ from z]; exact .inr ⟨x, rfl, rfl, hx ⟨x, rfl⟩ _ _ hh⟩
  | stuck => exact .inl rfl
end
end TL

namespace TL
open PySem L2 DL
open Ty (enc)
open Mt (co)
/-! ### defs -/
inductive Arg where
  | v (p : P) | r (p : P) (c : CO)
def ArgOk (cs : Cells) : Arg → P → Prop
  | .v p, d => d = p
  | .r p c, d => Rd cs p c d
def ArgsOk (cs : Cells) : List Arg → List P → Prop
  | [], ds => ds = []
  | a :: as, ds => ∃ d r, ds = d :: r ∧ ArgOk cs a d ∧ ArgsOk cs as r
def entA : Nat → List Arg → Ents
  | _, [] => []
  | i, .v p :: r => (i, .v p) :: entA (i + 1) r
  | i, .r p c :: r => (i, .r p c) :: entA (i + 1) r
theorem ArgsOk.len {cs : Cells} : ∀ {as : List Arg} {ds : List P}, ArgsOk cs as ds → ds.length = as.length
  | [], ds, h => by have h : ds = [] := h; rw [h]; rfl
  | a :: as, ds, ⟨d, r, e, _, h⟩ => by rw [e, List.length_cons, List.length_cons, h.len]
theorem entA_get {cs : Cells} : ∀ {as : List Arg} {ds : List P} {i j : Nat} {e : Ent}, ArgsOk cs as ds → getE (entA i as) j = some e → i ≤ j ∧ ∃ d, ds[j - i]? = some d ∧ ((e = .v d) ∨ ∃ p c, e = .r p c ∧ Rd cs p c d)
  | [], ds, i, j, e, h, q => by cases q
  | a :: as, ds, i, j, e, ⟨d, r, e1, h1, h2⟩, q => by
    by_cases z : i = j
    · subst z
      refine ⟨Nat.le_refl _, d, by rw [e1]; simp, ?_⟩
      cases a with
      | v p => rw [entA, getE_same] at q; cases q; have h1 : d = p := h1; subst h1; exact .inl rfl
      | r p c => rw [entA, getE_same] at q; cases q; exact .inr ⟨p, c, rfl, h1⟩
    · have q : getE (entA (i + 1) as) j = some e := by
        cases a with
        | v p => rw [entA, getE_ne z] at q; exact q
        | r p c => rw [entA, getE_ne z] at q; exact q
      obtain ⟨w1, w2, w3, w4⟩ := entA_get h2 q
      refine ⟨by omega, w2, ?_, w4⟩
      have : j - i = (j - (i + 1)) + 1 := by omega
      rw [e1, this, List.getElem?_cons_succ]
      exact w3
theorem ent_get {N : Nat} {ds : List P} {i : Nat} {d : P} (h : ds[i]? = some d) : (ent N ds)[i]? = some (some d) := by
  unfold ent
  have : i < (ds.map some).length := by rw [List.length_map]; exact (List.getElem?_eq_some_iff.mp h).1
  rw [List.getElem?_append_left this, List.getElem?_map, h]
  rfl
theorem ent_len {N : Nat} {ds : List P} (h : ds.length ≤ N) : (ent N ds).length = N := by
  unfold ent
  rw [List.length_append, List.length_map, List.length_replicate]
  omega
theorem Hold.entry {N : Nat} {cs : Cells} {as : List Arg} {ds : List P} (hc : Clo cs) (h : ArgsOk cs as ds) (hl : as.length ≤ N) : Hold cs N (entA 0 as) (ent N ds) cs := by
  refine ⟨ent_len (by rw [h.len]; exact hl), List.prefix_refl _, fun i e q => ?_, fun i j mc md c d n q => ?_, hc⟩
  · obtain ⟨_, d, w1, w2⟩ := entA_get h q
    rw [Nat.sub_zero] at w1
    have w3 := ent_get (N := N) w1
    rcases w2 with rfl | ⟨p, c, rfl, r⟩
    · exact w3
    · exact ⟨d, w3, r⟩
  · obtain ⟨_, d, w1, w2⟩ := entA_get h q
    rcases w2 with w2 | ⟨p, c, w2, r⟩ <;> cases w2
/-- a def keeps its typed reading -/
def FT (K : Fg) (F : Fn) (as : List Arg) {α : Type} [Ty α] (t : R α) : Prop := ∀ cs ds, Clo cs → ArgsOk cs as ds → ER K (qP K) cs (F ds cs) t
def Post.fn (K : Fg) (base : Cells) {α : Type} [Ty α] : Post α where
  nx _ _ _ := False
  rt d c t := base <+: c ∧ ∃ a, t = .ok a ∧ d = enc K a
  bk _ _ _ := False
  ct _ _ _ := False
  ex _ c := base <+: c
def Post.fnU (K : Fg) (base : Cells) : Post Unit where
  nx _ c t := base <+: c ∧ t = .ok ()
  rt d c t := base <+: c ∧ t = .ok () ∧ d = .non
  bk _ _ _ := False
  ct _ _ _ := False
  ex _ c := base <+: c
/-- .. that may end without a return -/
def Post.fnO (K : Fg) (base : Cells) {α : Type} [Ty α] : Post (Option α) where
  nx _ c t := base <+: c ∧ t = .ok none
  rt d c t := base <+: c ∧ ∃ a, t = .ok a ∧ d = enc K a
  bk _ _ _ := False
  ct _ _ _ := False
  ex _ c := base <+: c
theorem enX_clo {K : Fg} {m : Nat} {x : TX} : cloF m (enX K x).fs := by
  show cloF m (x.fs.map fun f => (f.1, f.2.p))
  generalize x.fs = l
  induction l with
  | nil => simp only [List.map_nil, cloF]
  | cons f r ih =>
    simp only [List.map_cons, cloF]
    refine ⟨?_, ih⟩
    cases f.2 with
    | i n => exact clo_int
    | l ns =>
      simp only [Val.p, clo]
      exact clos_map _ (fun _ => clo_int) _
section
variable {K : Fg} {N : Nat} {g : DSn} {as : List Arg}
theorem ft_P {α : Type} [Ty α] {t : R α} (hl : as.length ≤ N) (h : ∀ cs, TB K cs N (entA 0 as) g (Post.fn K cs) t) : FT K (fnP N g) as t := fun cs ds hc ha => by
  have := h cs _ _ (Hold.entry hc ha hl)
  unfold fnP
  rcases this with z | z
  · rw [z]; trivial
  · cases q : g (ent N ds) cs with
    | nx e c => rw [q] at z; exact z.elim
    | bk e c => rw [q] at z; exact z.elim
    | ct e c => rw [q] at z; exact z.elim
    | stuck => rw [q] at z; exact z.elim
    | rt d c =>
      rw [q] at z
      obtain ⟨w1, a, w2, w3⟩ := z
      rw [w2]
      subst w3
      exact ⟨_, exitP_rt w1 (Ty.clo K _ a), rfl⟩
    | ex e v c =>
      rw [q] at z
      obtain ⟨x, w1, w2, w3⟩ := z
      rw [w1, w2]
      exact exitP_ex w3 enX_clo
theorem ft_U {t : R Unit} (hl : as.length ≤ N) (h : ∀ cs, TB K cs N (entA 0 as) g (Post.fnU K cs) t) : FT K (fnP N g) as t := fun cs ds hc ha => by
  have := h cs _ _ (Hold.entry hc ha hl)
  unfold fnP
  rcases this with z | z
  · rw [z]; trivial
  · cases q : g (ent N ds) cs with
    | nx e c => rw [q] at z; obtain ⟨z1, z2⟩ := z; rw [z2]; exact ⟨_, exitP_nx z1, rfl⟩
    | bk e c => rw [q] at z; exact z.elim
    | ct e c => rw [q] at z; exact z.elim
    | stuck => rw [q] at z; exact z.elim
    | rt d c =>
      rw [q] at z
      obtain ⟨w1, w2, w3⟩ := z
      rw [w2]
      subst w3
      exact ⟨_, exitP_rt w1 clo_non, rfl⟩
    | ex e v c =>
      rw [q] at z
      obtain ⟨x, w1, w2, w3⟩ := z
      rw [w1, w2]
      exact exitP_ex w3 enX_clo
theorem ft_O {α : Type} [Ty α] {t : R (Option α)} (hl : as.length ≤ N) (h : ∀ cs, TB K cs N (entA 0 as) g (Post.fnO K cs) t) : FT K (fnP N g) as t := fun cs ds hc ha => by
  have := h cs _ _ (Hold.entry hc ha hl)
  unfold fnP
  rcases this with z | z
  · rw [z]; trivial
  · cases q : g (ent N ds) cs with
    | nx e c => rw [q] at z; obtain ⟨z1, z2⟩ := z; rw [z2]; exact ⟨_, exitP_nx z1, rfl⟩
    | bk e c => rw [q] at z; exact z.elim
    | ct e c => rw [q] at z; exact z.elim
    | stuck => rw [q] at z; exact z.elim
    | rt d c =>
      rw [q] at z
      obtain ⟨w1, a, w2, w3⟩ := z
      rw [w2]
      subst w3
      exact ⟨_, exitP_rt w1 (Ty.clo K _ a), rfl⟩
    | ex e v c =>
      rw [q] at z
      obtain ⟨x, w1, w2, w3⟩ := z
      rw [w1, w2]
      exact exitP_ex w3 enX_clo
end
/-! ### objects -/
class Ob (α : Type) extends Mt α where
  cls : Str
  fl : Fg → α → List (Str × P)
  cof : ∀ K a, co K a = .obj (He.ga K cls) (fl K a)
theorem Ob.encf {α : Type} [Ob α] (K : Fg) (a : α) : enc K a = .obj (He.ga K (Ob.cls α)) (Ob.fl K a) := by
  have := Mt.pub K a
  rw [Ob.cof] at this
  exact (Option.some.inj this).symm
/-- what an __init__ keeps -/
def FI (K : Fg) (F : Fn) (as : List Arg) {α : Type} [Ob α] (t : R α) : Prop := ∀ cs ds, Clo cs → ArgsOk cs as ds → match t with
  | .ok a => F (.cell cs.length :: ds) (cs ++ [.obj (He.ga K (Ob.cls α)) []]) = .ok .non (cs ++ [co K a])
  | .ex x => ∃ c, F (.cell cs.length :: ds) (cs ++ [.obj (He.ga K (Ob.cls α)) []]) = .ex (enX K x) c ∧ cs <+: c
  | .stuck => True
def Post.ini (K : Fg) (base : Cells) {α : Type} [Ob α] : Post α where
  nx _ c t := ∃ a, t = .ok a ∧ base <+: c ∧ Clo c ∧ c[base.length]? = some (co K a)
  rt d c t := ∃ a, d = .non ∧ t = .ok a ∧ base <+: c ∧ Clo c ∧ c[base.length]? = some (co K a)
  bk _ _ _ := False
  ct _ _ _ := False
  ex _ c := base <+: c ∧ base.length < c.length ∧ Clo c
section
variable {K : Fg} {base : Cells} {n : Nat} {Γ : Ents}
theorem ini_nx {α : Type} [Ob α] {i : Nat} {fs : List (Str × P)} (a : α) (q : getE Γ i = some (.o (some base.length) (.obj (He.ga K (Ob.cls α)) fs))) (e : fs = Ob.fl K a) : ∀ e c, Hold base n Γ e c → (Post.ini K base (α := α)).nx e c (.ok a) := fun e' c hh => by
  obtain ⟨m, w1, w2, w3, w4⟩ := hh.at' i _ q
  refine ⟨a, rfl, hh.pre, hh.cl, ?_⟩
  rw [← w4 _ rfl, w3, Ob.cof, e]
theorem ini_ex {α : Type} [Ob α] {i : Nat} {x : CO} (q : getE Γ i = some (.o (some base.length) x)) : ∀ e c, Hold base n Γ e c → (Post.ini K base (α := α)).ex e c := fun e' c hh => by
  obtain ⟨m, w1, w2, w3, w4⟩ := hh.at' i _ q
  refine ⟨hh.pre, ?_, hh.cl⟩
  rw [← w4 _ rfl]
  exact (List.getElem?_eq_some_iff.mp w3).1
theorem take_pre {cs c : Cells} {x : CO} (h : cs <+: c) (e : c[cs.length]? = some x) : c.take (cs.length + 1) = cs ++ [x] := by
  obtain ⟨t, rfl⟩ := h
  rw [List.getElem?_append_right (Nat.le_refl _), Nat.sub_self] at e
  cases t with
  | nil => cases e
  | cons y t =>
    cases e
    rw [List.take_append]
    simp [List.take_of_length_le]
theorem mem_take {c : Cells} {m n : Nat} {x : CO} (h : (c.take m)[n]? = some x) : c[n]? = some x := by
  rw [List.getElem?_take] at h
  split at h
  · exact h
  · cases h
theorem ft_ini {α : Type} [Ob α] {N : Nat} {g : DSn} {as : List Arg} {t : R α} (hl : as.length + 1 ≤ N) (h : ∀ cs, TB K cs N ((0, .o (some cs.length) (.obj (He.ga K (Ob.cls α)) [])) :: entA 1 as) g (Post.ini K cs) t) : FI K (fnM N g) as t := fun cs ds hc ha => by
  have hh : Hold cs N ((0, .o (some cs.length) (.obj (He.ga K (Ob.cls α)) [])) :: entA 1 as) (ent N (.cell cs.length :: ds)) (cs ++ [.obj (He.ga K (Ob.cls α)) []]) := by
    have gt : ∀ {i : Nat} {e : Ent}, getE ((0, .o (some cs.length) (.obj (He.ga K (Ob.cls α)) [])) :: entA 1 as) i = some e → (i = 0 ∧ e = .o (some cs.length) (.obj (He.ga K (Ob.cls α)) [])) ∨ ∃ d, (P.cell cs.length :: ds)[i]? = some d ∧ ((e = .v d) ∨ ∃ p c, e = .r p c ∧ Rd cs p c d) := fun {i e} q => by
      by_cases z : 0 = i
      · subst z
        rw [getE_same] at q
        cases q
        exact .inl ⟨rfl, rfl⟩
      · rw [getE_ne z] at q
        obtain ⟨w1, d, w2, w3⟩ := entA_get ha q
        refine .inr ⟨d, ?_, w3⟩
        have : i = (i - 1) + 1 := by omega
        rw [this, List.getElem?_cons_succ]
        exact w2
    refine ⟨ent_len (by rw [List.length_cons, ha.len]; exact hl), List.prefix_append _ _, fun i e q => ?_, fun i j mc md c d n q r e1 e2 => ?_, hc.app (fun m => by simp only [cloC, cloF])⟩
    · rcases gt q with ⟨rfl, rfl⟩ | ⟨d, w1, w2⟩
      · exact ⟨cs.length, ent_get (by simp), Nat.le_refl _, by simp, fun k y => by cases y; rfl⟩
      · have w3 := ent_get (N := N) w1
        rcases w2 with rfl | ⟨p, c, rfl, r⟩
        · exact w3
        · exact ⟨d, w3, r⟩
    · rcases gt q with ⟨w1, _⟩ | ⟨d, w1, w2⟩
      · rcases gt r with ⟨w3, _⟩ | ⟨d, w3, w4⟩
        · exact w1.trans w3.symm
        · rcases w4 with w4 | ⟨p, c, w4, r⟩ <;> cases w4
      · rcases w2 with w2 | ⟨p, c, w2, r⟩ <;> cases w2
  have := h cs _ _ hh
  have ok : ∀ (a : α) (c : Cells), cs <+: c → Clo c → c[cs.length]? = some (co K a) → exitM (cs ++ [.obj (He.ga K (Ob.cls α)) []]) (.rt .non c) = .ok .non (cs ++ [co K a]) := fun a c w1 w2 w3 => by
    have wl : cs.length < c.length := (List.getElem?_eq_some_iff.mp w3).1
    unfold exitM exitK
    dsimp only
    have hl : (cs ++ [CO.obj (He.ga K (Ob.cls α)) []]).length = cs.length + 1 := by simp
    rw [hl, if_pos ⟨by omega, clo_non, fun n x q => w2 n x (mem_take q) _⟩, take_pre w1 w3]
  unfold fnM
  rcases this with z | z
  · rw [z]; trivial
  · cases q : g (ent N (.cell cs.length :: ds)) (cs ++ [.obj (He.ga K (Ob.cls α)) []]) with
    | nx e c => rw [q] at z; obtain ⟨a, z1, z2, z3, z4⟩ := z; rw [z1]; exact ok a c z2 z3 z4
    | rt d c => rw [q] at z; obtain ⟨a, z0, z1, z2, z3, z4⟩ := z; rw [z1, z0]; exact ok a c z2 z3 z4
    | bk e c => rw [q] at z; exact z.elim
    | ct e c => rw [q] at z; exact z.elim
    | stuck => rw [q] at z; exact z.elim
    | ex e v c =>
      rw [q] at z
      obtain ⟨x, w1, w2, w3, w4, w5⟩ := z
      rw [w1, w2]
      refine ⟨c.take (cs.length + 1), ?_, ?_⟩
      · unfold exitM exitK
        dsimp only
        have hl : (cs ++ [CO.obj (He.ga K (Ob.cls α)) []]).length = cs.length + 1 := by simp
        rw [hl, if_pos ⟨by omega, enX_clo, fun n x q => w5 n x (mem_take q) _⟩]
      · rw [List.prefix_take_iff]
        exact ⟨w3, by omega⟩
/-- a new object -/
theorem te_make {α : Type} [Ob α] {F : Fn} {fa : DAn} {t : R α} {C : Str} (hC : Ob.cls α = C) (h : TA K base n Γ fa (fun cs ds t => ∃ as, FI K F as t ∧ ArgsOk cs as ds) t) : TE K base n Γ (qF K) (dMake (He.ga K C) F fa) t := fun env cs hh => by
  subst hC
  unfold dMake
  rcases h env cs hh with w | ⟨ds, w1, as, w3, w2⟩ | ⟨x, w1, w2⟩
  · rw [w]; trivial
  · rw [w1, Rs.bind_ok]
    have := w3 cs ds hh.cl w2
    cases t with
    | ok a =>
      have this : F _ _ = _ := this
      rw [this]
      refine ⟨co K a, ?_, rfl⟩
      unfold splitC
      dsimp only
      rw [show (cs ++ [co K a])[cs.length]? = some (co K a) by simp]
      dsimp only
      have e : (cs ++ [co K a]).take cs.length = cs := by simp
      rw [e, if_pos ⟨by simp, by rw [Ob.cof]; simp, Mt.cloC K _ a, fun n y q => hh.cl n y q _⟩]
    | ex x =>
      obtain ⟨c, z1, z2⟩ := this
      rw [z1]
      unfold splitC
      dsimp only
      rw [if_pos ⟨z2, enX_clo⟩]
      exact rfl
    | stuck => trivial
  · rw [w1, w2]
    exact rfl
/-- a field of a shared object -/
theorem te_fld {α β : Type} [Ob α] [Ty β] {x : Str} {f : DEn} {t : R α} {C : Str} (hC : Ob.cls α = C) (pr : α → β) (hf : FldOk K (He.ga K C) x) (hl : ∀ a, (Ob.fl K a).lookup x = some (enc K (pr a))) (h : TE K base n Γ (qP K) f t) : TE K base n Γ (qP K) (dFld K x f) (t.bind fun a => .ok (pr a)) := h.bind fun a env cs p hh z => by
  subst hC
  have z : p = enc K a := z
  rw [Ob.encf] at z
  subst z
  simp only [objc]
  rw [if_pos hf, hl]
  exact ⟨_, rfl, rfl⟩
/-- a field of an object in the making -/
theorem te_fldO {β : Type} [Ty β] {x : Str} {i : Nat} {mo : Option Nat} {C : Addr} {fs : List (Str × P)} (q : getE Γ i = some (.o mo (.obj C fs))) (b : β) (hf : FldOk K C x) (hl : fs.lookup x = some (enc K b)) : TE K base n Γ (qP K) (dFld K x (dVar i)) (.ok b) := fun env cs hh => by
  obtain ⟨m, w1, w2, w3, w4⟩ := hh.at' i _ q
  unfold dFld
  rw [e_var w1, Rs.bind_ok]
  simp only [objc, w3]
  rw [if_pos hf, hl]
  exact ⟨_, rfl, rfl⟩
theorem tb_fld {α τ : Type} [Ty α] {x : Str} {i : Nat} {mo : Option Nat} {C : Addr} {fs : List (Str × P)} {f : DEn} {g : DSn} {Q : Post τ} {t : R α} {l : α → R τ} (q : getE Γ i = some (.o mo (.obj C fs))) (hf : FldOk K C x) (hs : fs.length < 1000) (hcl : ∀ m, cloF m fs)
    (hp : ∀ v, putFP x v fs = fs ++ [(x, v)]) (h : TE K base n Γ (qP K) f t) (hx : HX base n Γ Q t) (hk : ∀ a, TB K base n ((i, .o mo (.obj C (fs ++ [(x, enc K a)]))) :: Γ) g Q (l a)) : TB K base n Γ (dSeq (dPutF K x (dVar i) f) g) Q (t.bind l) := by
  unfold dPutF
  rw [seq_to]
  exact TB.of h hx fun a env cs p hh z => by
    subst z
    rw [e_seq, e_to]
    obtain ⟨m, w1, w2, w3⟩ := hh.put (c' := .obj C (fs ++ [(x, enc K a)])) q (fun m => by
      simp only [cloC]
      have : ∀ (l : List (Str × P)), cloF m l → cloF m (l ++ [(x, enc K a)]) := fun l hl => by
        induction l with
        | nil => simp only [List.nil_append, cloF]; exact ⟨Ty.clo K m a, trivial⟩
        | cons y r ih => simp only [List.cons_append, cloF] at hl ⊢; exact ⟨hl.1, ih hl.2⟩
      exact this fs (hcl m))
    rw [e_var w1, Rs.toO_ok]
    have e : putO K x cs (.cell m) (enc K a) = some (cs.set m (.obj C (fs ++ [(x, enc K a)]))) := by
      simp only [putO, w2]
      rw [if_pos ⟨hf, hs⟩, hp]
    rw [e]
    exact hk a _ _ w3
end
theorem putFP_new {x : Str} {v : P} : ∀ {fs : List (Str × P)}, (fs.all fun f => !decide (f.1 = x)) = true → putFP x v fs = fs ++ [(x, v)]
  | [], _ => rfl
  | (y, u) :: r, h => by
    rw [List.all_cons, Bool.and_eq_true] at h
    rw [putFP, if_neg (by simpa using h.1), putFP_new h.2]
    rfl
end TL

namespace TL
open PySem L2 DL
open Ty (enc)
open Mt (co)
/-! ### operators on values -/
section
variable {K : Fg}
/-- a total operator -/
theorem op2_of {α β γ : Type} [Ty γ] {q1 : Cells → α → P → Prop} {q2 : Cells → β → P → Prop} {g : G2} {f : α → β → γ} (h : ∀ cs a b p r, q1 cs a p → q2 cs b r → g p r cs = .ok (enc K (f a b)) cs) : Op2 K q1 q2 (qP K) g fun a b => .ok (f a b) := fun cs a b p r h1 h2 => ⟨_, h cs a b p r h1 h2, rfl⟩
/-- one with a guard -/
theorem op2_if {α β γ : Type} [Ty γ] {q1 : Cells → α → P → Prop} {q2 : Cells → β → P → Prop} {g : G2} {f : α → β → γ} {c : α → β → Prop} [∀ a b, Decidable (c a b)] (h : ∀ cs a b p r, q1 cs a p → q2 cs b r → c a b → g p r cs = .ok (enc K (f a b)) cs) : Op2 K q1 q2 (qP K) g fun a b => if c a b then .ok (f a b) else .stuck := fun cs a b p r h1 h2 => by
  dsimp only
  by_cases z : c a b
  · rw [if_pos z]; exact ⟨_, h cs a b p r h1 h2 z, rfl⟩
  · rw [if_neg z]; trivial
theorem o_add : Op2 K (qP K) (qP K) (qP K) gAdd fun (i j : Int) => .ok (i + j) := op2_of fun cs a b p r h1 h2 => by subst h1 h2; rfl
theorem o_sub : Op2 K (qP K) (qP K) (qP K) gSub fun (i j : Int) => .ok (i - j) := op2_of fun cs a b p r h1 h2 => by subst h1 h2; rfl
open Classical in
@[irreducible] noncomputable def mulR (i j : Int) : R Int := if mulOk i j = true then .ok (i * j) else .stuck
open Classical in
@[irreducible] noncomputable def divR (i j : Int) : R Int := if divOk i j = true then .ok (i / j) else .stuck
open Classical in
@[irreducible] noncomputable def modR (i j : Int) : R Int := if 0 < j then .ok (i % j) else .stuck
open Classical in
@[irreducible] noncomputable def powR (i j : Int) : R Int := if powOk i j = true then .ok (i ^ j.toNat) else .stuck
theorem o_mul : Op2 K (qP K) (qP K) (qP K) gMul mulR := by
  unfold mulR
  exact op2_if fun cs a b p r h1 h2 z => by subst h1 h2; exact g_mul z
theorem o_div : Op2 K (qP K) (qP K) (qP K) gDiv divR := by
  unfold divR
  exact op2_if fun cs a b p r h1 h2 z => by subst h1 h2; exact g_div z
theorem o_mod : Op2 K (qP K) (qP K) (qP K) gMod modR := by
  unfold modR
  exact op2_if fun cs a b p r h1 h2 z => by subst h1 h2; exact g_mod z
theorem o_pow : Op2 K (qP K) (qP K) (qP K) gPow powR := by
  unfold powR
  exact op2_if fun cs a b p r h1 h2 z => by subst h1 h2; exact g_pow z
theorem o_lt : Op2 K (qP K) (qP K) (qP K) gLt fun (i j : Int) => .ok (decide (i < j)) := op2_of fun cs a b p r h1 h2 => by subst h1 h2; rfl
theorem o_le : Op2 K (qP K) (qP K) (qP K) gLe fun (i j : Int) => .ok (decide (i ≤ j)) := op2_of fun cs a b p r h1 h2 => by subst h1 h2; rfl
theorem o_gt : Op2 K (qP K) (qP K) (qP K) gGt fun (i j : Int) => .ok (decide (j < i)) := op2_of fun cs a b p r h1 h2 => by subst h1 h2; rfl
theorem o_ge : Op2 K (qP K) (qP K) (qP K) gGe fun (i j : Int) => .ok (decide (j ≤ i)) := op2_of fun cs a b p r h1 h2 => by subst h1 h2; rfl
open Classical in
/-- lists, tuples and texts put together -/
@[irreducible] noncomputable def catS (a b : Str) : R Str := if a.length + b.length ≤ sizeLine then .ok (a ++ b) else .stuck
open Classical in
@[irreducible] noncomputable def catL {α : Type} (a b : List α) : R (List α) := if a.length + b.length ≤ sizeLine then .ok (a ++ b) else .stuck
open Classical in
@[irreducible] noncomputable def catT {α : Type} (a b : Tup α) : R (Tup α) := if a.l.length + b.l.length ≤ sizeLine then .ok ⟨a.l ++ b.l⟩ else .stuck
theorem o_catS : Op2 K (qP K) (qP K) (qP K) gAdd catS := by
  unfold catS
  refine op2_if fun cs a b p r h1 h2 z => ?_
  subst h1 h2
  show orG _ (orG gStr _) (P.str a) (.str b) cs = _
  simp only [orG, gI, gStr]
  rw [if_pos z]
  rfl
section
variable {α : Type} [Ty α]
theorem Rd.seqc {cs : Cells} {l : List α} {d : P} (h : qR K cs l d) : DL.seqc cs d = some (l.map (enc K)) := by
  rcases h with rfl | ⟨n, rfl, e⟩
  · rfl
  · simp only [DL.seqc, e]
    rfl
theorem Rd.lstc {cs : Cells} {l : List α} {d : P} (h : qR K cs l d) : DL.lstc cs d = some (l.map (enc K)) := by
  rcases h with rfl | ⟨n, rfl, e⟩
  · rfl
  · simp only [DL.lstc, e]
    rfl
/-- a list is no int and no text -/
theorem Rd.orI {cs : Cells} {l : List α} {d : P} (h : qR K cs l d) : (∃ xs, d = .lst xs) ∨ ∃ n, d = .cell n := by
  rcases h with rfl | ⟨n, rfl, e⟩
  · exact .inl ⟨_, rfl⟩
  · exact .inr ⟨n, rfl⟩
theorem o_catL : Op2 K (qR K) (qR K) (qP K) gAdd (catL (α := α)) := by
  unfold catL
  refine op2_if fun cs a b p r h1 h2 z => ?_
  have e1 := h1.lstc
  have e2 := h2.lstc
  have g1 : ∀ y, gI (fun _ _ => true) (fun i j => .int (i + j)) p y cs = .stuck := fun y => by
    rcases h1.orI with ⟨xs, rfl⟩ | ⟨n, rfl⟩ <;> rfl
  have g2 : ∀ y, gStr p y cs = .stuck := fun y => by
    rcases h1.orI with ⟨xs, rfl⟩ | ⟨n, rfl⟩ <;> rfl
  show orG _ (orG gStr (orG gCat gCatT)) p r cs = _
  have g3 : gCat p r cs = .ok (.lst (a.map (enc K) ++ b.map (enc K))) cs := by
    unfold gCat
    rw [e1, e2]
    dsimp only
    rw [if_pos (by rw [List.length_map, List.length_map]; exact z)]
  simp only [orG, g1, g2, g3]
  rw [← List.map_append]
  rfl
theorem o_catT : Op2 K (qP K) (qP K) (qP K) gAdd (catT (α := α)) := by
  unfold catT
  refine op2_if fun cs a b p r h1 h2 z => ?_
  subst h1 h2
  show orG _ (orG gStr (orG gCat gCatT)) (P.tup (a.l.map (enc K))) (.tup (b.l.map (enc K))) cs = _
  simp only [orG, gI, gStr, gCat, DL.lstc, gCatT]
  rw [if_pos (by rw [List.length_map, List.length_map]; exact z), ← List.map_append]
  rfl
/-! subscripts -/
theorem atI_map {α β : Type} (f : α → β) (l : List α) (i : Int) : atI (l.map f) i = (atI l i).map f := by
  unfold atI
  rw [List.length_map]
  cases ixN l.length i with
  | none => rfl
  | some j => simp
@[irreducible] def ixL {α : Type} (l : List α) (i : Int) : R α := match atI l i with
  | some a => .ok a
  | none => .stuck
open Classical in
@[irreducible] noncomputable def ixS (z : Str) (i : Int) : R Str := if z.length ≤ sizeLine then (match atI z.cps.toList i with
  | some c => .ok ⟨#[c]⟩
  | none => .stuck) else .stuck
theorem ix_seq {cs : Cells} {l : List α} {d : P} {i : Int} (h : DL.seqc cs d = some (l.map (enc K))) : ER K (qP K) cs (gIx d (.int i) cs) (ixL l i) := by
  have g1 : gIxL d (.int i) cs = match atI (l.map (enc K)) i with | some d => .ok d cs | none => .stuck := by
    unfold gIxL
    rw [h] <;> rfl
  unfold ixL
  cases e : atI l i with
  | none => trivial
  | some a =>
    refine ⟨enc K a, ?_, rfl⟩
    have : gIxL d (.int i) cs = .ok (enc K a) cs := by
      rw [g1, atI_map, e]
      rfl
    show orG gIxL _ d (.int i) cs = _
    unfold orG
    rw [this]
theorem o_ixL : Op2 K (qR K) (qP K) (qP K) gIx (ixL (α := α)) := fun cs a b p r h1 h2 => by
  subst h2
  exact ix_seq h1.seqc
theorem o_ixT : Op2 K (qP K) (qP K) (qP K) gIx (fun (a : Tup α) i => ixL a.l i) := fun cs a b p r h1 h2 => by
  subst h1 h2
  exact ix_seq rfl
theorem o_ixS : Op2 K (qP K) (qP K) (qP K) gIx ixS := fun cs a b p r h1 h2 => by
  subst h1 h2
  unfold ixS
  split
  · rename_i h
    split
    · rename_i c e
      refine ⟨.str ⟨#[c]⟩, ?_, rfl⟩
      show gIx (.str a) (.int b) cs = _
      simp [gIx, orG, gIxL, DL.seqc, gIxS, h, e]
    · trivial
  · trivial
theorem o_ixScr : Op2 K (qP K) (qP K) (qP K) gIx (fun (a : Scr) i => ixL a.l i) := fun cs a b p r h1 h2 => by
  subst h1 h2
  exact ix_seq (α := Int) (by simp only [enc, DL.seqc])
/-- a place of a tuple whose items are not alike -/
theorem te_prj {base : Cells} {n : Nat} {Γ : Ents} {β γ : Type} [Ty β] [Ty γ] {k : Int} (pr : β → γ) (h : ∀ (a : β), ∃ ps, enc K a = .tup ps ∧ atI ps k = some (enc K (pr a))) {f : DEn} {t : R β} (ht : TE K base n Γ (qP K) f t) : TE K base n Γ (qP K) (dBin gIx f (dC (.int k))) (t.bind fun a => .ok (pr a)) := ht.bind fun a env cs p hh z => by
  subst z
  obtain ⟨ps, e1, e2⟩ := h a
  rw [e1]
  simp only [e_c, Rs.bind_ok]
  refine ⟨_, ?_, rfl⟩
  show orG gIxL _ (.tup ps) (.int k) cs = _
  unfold orG gIxL
  simp only [DL.seqc, e2]
end
/-! slices -/
theorem cutP_map {α β : Type} (f : α → β) (l : List α) (lo hi : Option Int) : cutP (l.map f) lo hi = (cutP l lo hi).map f := by
  unfold cutP
  rw [List.length_map, List.map_take, List.map_drop]
abbrev qO : Cells → Option Int → Option Int → Prop := fun _ a b => b = a
section
variable {base : Cells} {n : Nat} {Γ : Ents}
theorem to_none : TE K base n Γ qO dNoP (.ok none) := fun env cs hh => ⟨_, rfl, rfl⟩
theorem to_some {f : DEn} {t : R Int} (h : TE K base n Γ (qP K) f t) : TE K base n Γ qO (dPart f) (t.bind fun i => .ok (some i)) := h.bind fun a env cs p hh z => by
  have z : p = .int a := z
  subst z
  exact ⟨_, rfl, rfl⟩
open Classical in
@[irreducible] noncomputable def slS (z : Str) (lo hi : Option Int) : R Str := if z.length ≤ sizeLine then .ok (cutS z lo hi) else .stuck
theorem te_sl {α β : Type} {q1 : Cells → α → P → Prop} {q : Cells → β → P → Prop} {g : GSl} {op : α → Option Int → Option Int → R β} (o : ∀ cs a p lo hi, q1 cs a p → ER K q cs (g p lo hi cs) (op a lo hi)) {f : DEn} {l h : DOn} {t : R α} {tl th : R (Option Int)}
    (hf : TE K base n Γ q1 f t) (hl : TE K base n Γ qO l tl) (hh : TE K base n Γ qO h th) : TE K base n Γ q (dSl g f l h) (t.bind fun a => tl.bind fun lo => th.bind fun hi => op a lo hi) :=
  hf.bind fun a env cs p hq z => (hl env cs hq).bind fun lo lo' y => (hh env cs hq).bind fun hi hi' x => by
    subst y x
    exact o cs a p _ _ z
theorem sl_l {α : Type} [Ty α] : ∀ cs (a : List α) p lo hi, qR K cs a p → ER K (qP K) cs (gSl p lo hi cs) (.ok (cutP a lo hi)) := fun cs a p lo hi h => by
  refine ⟨_, ?_, rfl⟩
  show orS gSlL _ p lo hi cs = _
  unfold orS gSlL
  rw [h.lstc]
  dsimp only
  rw [cutP_map]
  rfl
theorem sl_t {α : Type} [Ty α] : ∀ cs (a : Tup α) p lo hi, qP K cs a p → ER K (qP K) cs (gSl p lo hi cs) (.ok (⟨cutP a.l lo hi⟩ : Tup α)) := fun cs a p lo hi h => by
  subst h
  refine ⟨_, ?_, rfl⟩
  show orS gSlL (orS gSlT gSlS) (.tup (a.l.map (enc K))) lo hi cs = _
  simp only [orS, gSlL, DL.lstc, gSlT]
  rw [cutP_map]
  rfl
theorem sl_s : ∀ cs (a : Str) p lo hi, qP K cs a p → ER K (qP K) cs (gSl p lo hi cs) (slS a lo hi) := fun cs a p lo hi h => by
  subst h
  unfold slS
  split
  · rename_i hz
    refine ⟨.str (cutS a lo hi), ?_, rfl⟩
    show orS gSlL (orS gSlT gSlS) (.str a) lo hi cs = _
    simp only [orS, gSlL, DL.lstc, gSlT, gSlS]
    rw [if_pos hz]
  · trivial
theorem te_slF {α : Type} [Ty α] {f : DEn} {l h : DOn} {t : R (List α)} {tl th : R (Option Int)}
    (hf : TE K base n Γ (qR K) f t) (hl : TE K base n Γ qO l tl) (hh : TE K base n Γ qO h th) : TE K base n Γ (qF K) (dSlF f l h) (t.bind fun a => tl.bind fun lo => th.bind fun hi => .ok (cutP a lo hi)) :=
  hf.bind fun a env cs p hq z => (hl env cs hq).bind fun lo lo' y => (hh env cs hq).bind fun hi hi' x => by
    subst y x
    rw [z.lstc]
    dsimp only
    rw [cutP_map]
    exact ⟨_, rfl, rfl⟩
end
/-! == -/
class Sc (α : Type) extends Ty α where
  eqb : α → α → Bool
  iff : ∀ a b, eqb a b = true ↔ a = b
  sc : ∀ K a b, scP (enc K a) (enc K b) = true
  eq : ∀ K a b, eqS (enc K a) (enc K b) = eqb a b
  fl : ∀ K a, flatP (enc K a) = true
  ef : ∀ K a b, eqF (enc K a) (enc K b) = eqb a b
instance : Sc Int := ⟨fun a b => decide (a = b), fun _ _ => decide_eq_true_iff, fun _ _ _ => rfl, fun _ _ _ => rfl, fun _ _ => rfl, fun K a b => by
  show (a == b) = _
  rw [Bool.eq_iff_iff]; simp⟩
instance : Sc Bool := ⟨fun a b => decide (a = b), fun _ _ => decide_eq_true_iff, fun _ _ _ => rfl, fun _ _ _ => rfl, fun _ _ => rfl, fun K a b => by
  show (a == b) = _
  rw [Bool.eq_iff_iff]; simp⟩
instance : Sc Str := ⟨fun a b => decide (a = b), fun _ _ => decide_eq_true_iff, fun _ _ _ => rfl, fun _ _ _ => rfl, fun _ _ => rfl, fun K a b => by
  show (a == b) = _
  rw [Bool.eq_iff_iff]; simp⟩
@[irreducible] def eqC {α : Type} [Sc α] (a b : α) : Bool := Sc.eqb a b
@[simp] theorem eqC_iff {α : Type} [Sc α] {a b : α} : eqC a b = true ↔ a = b := by
  unfold eqC
  exact Sc.iff a b
theorem o_eqS {α : Type} [Sc α] : Op2 K (qP K) (qP K) (qP K) (gEq false) fun (a b : α) => .ok (eqC a b) := op2_of fun cs a b p r h1 h2 => by
  subst h1 h2
  show orG (gEqS false) _ (enc K a) (enc K b) cs = _
  unfold orG gEqS
  rw [if_pos (Sc.sc K a b), Sc.eq]
  simp only [eqC]
  rfl
theorem o_neS {α : Type} [Sc α] : Op2 K (qP K) (qP K) (qP K) (gEq true) fun (a b : α) => .ok (!eqC a b) := op2_of fun cs a b p r h1 h2 => by
  subst h1 h2
  show orG (gEqS true) _ (enc K a) (enc K b) cs = _
  unfold orG gEqS
  rw [if_pos (Sc.sc K a b), Sc.eq]
  simp only [eqC]
  rfl
/-- data that is compared as a whole -/
class Dt (α : Type) extends Ty α where
  da : α → PyData
  fit : α → Bool
  dep : Nat
  pd : ∀ K cs a m, dep ≤ m → fit a = true → pdc cs m (enc K a) = some (da a)
  ev : ∀ a b, PyData.eqv (da a) (da b) = true ↔ a = b
instance : Dt Int := ⟨.int, fun _ => true, 0, fun K cs a m _ _ => by simp only [enc, pdc], fun a b => by simp only [PyData.eqv]; exact beq_iff_eq⟩
instance : Dt Bool := ⟨.bool, fun _ => true, 0, fun K cs a m _ _ => by simp only [enc, pdc], fun a b => by simp only [PyData.eqv]; exact beq_iff_eq⟩
instance : Dt Str := ⟨.str, PyData.strOk, 0, fun K cs a m _ h => by simp only [enc, pdc]; exact if_pos h, fun a b => by simp only [PyData.eqv]; exact beq_iff_eq⟩
theorem eqvAll_map {α : Type} [Dt α] : ∀ a b : List α, PyData.eqvAll (a.map Dt.da) (b.map Dt.da) = true ↔ a = b
  | [], [] => by simp [PyData.eqvAll]
  | [], _ :: _ => by simp [PyData.eqvAll]
  | _ :: _, [] => by simp [PyData.eqvAll]
  | x :: xs, y :: ys => by
    rw [List.map_cons, List.map_cons, PyData.eqvAll, Bool.and_eq_true, Dt.ev, eqvAll_map xs ys, List.cons.injEq]
theorem mapO_map {α : Type} [Dt α] {cs : Cells} {m : Nat} (hm : Dt.dep α ≤ m) : ∀ l : List α, (l.all Dt.fit) = true → mapO (pdc cs m) (l.map (enc K)) = some (l.map Dt.da)
  | [], _ => rfl
  | x :: xs, h => by
    rw [List.all_cons, Bool.and_eq_true] at h
    simp only [List.map_cons, mapO]
    rw [Dt.pd K cs x m hm h.1, mapO_map hm xs h.2]
instance {α : Type} [Dt α] : Dt (List α) := { (inferInstance : Ty (List α)) with
  da := fun l => .list (l.map Dt.da)
  fit := fun l => l.all Dt.fit
  dep := Dt.dep α + 1
  pd := fun K cs a m hm h => by
    cases m with
    | zero => omega
    | succ m =>
      simp only [enc, pdc]
      rw [mapO_map (by omega) a h]
      rfl
  ev := fun a b => by simp only [PyData.eqv]; exact eqvAll_map a b }
instance {α : Type} [Dt α] : Dt (Tup α) := { (inferInstance : Ty (Tup α)) with
  da := fun l => .tuple (l.l.map Dt.da)
  fit := fun l => l.l.all Dt.fit
  dep := Dt.dep α + 1
  pd := fun K cs a m hm h => by
    cases m with
    | zero => omega
    | succ m =>
      simp only [enc, pdc]
      rw [mapO_map (by omega) a.l h]
      rfl
  ev := fun a b => by
    simp only [PyData.eqv]
    rw [eqvAll_map a.l b.l]
    exact ⟨fun h => by cases a; cases b; cases h; rfl, fun h => by rw [h]⟩ }
@[irreducible] def eqD {α : Type} [Dt α] (a b : α) : Bool := PyData.eqv (Dt.da a) (Dt.da b)
@[simp] theorem eqD_iff {α : Type} [Dt α] {a b : α} : eqD a b = true ↔ a = b := by
  unfold eqD
  exact Dt.ev a b
@[irreducible] def eqR {α : Type} [Dt α] (a b : α) : R Bool := if (Dt.fit a && Dt.fit b) = true then .ok (eqD a b) else .stuck
@[irreducible] def neR {α : Type} [Dt α] (a b : α) : R Bool := if (Dt.fit a && Dt.fit b) = true then .ok (!eqD a b) else .stuck
theorem eqD_ev {α : Type} [Dt α] (a b : α) : PyData.eqv (Dt.da a) (Dt.da b) = eqD a b := by
  unfold eqD
  rfl
theorem pdc_R {α : Type} [Dt α] {cs : Cells} {l : List α} {d : P} {m : Nat} (h : qR K cs l d) (hm : Dt.dep α + 1 ≤ m) (hf : l.all Dt.fit = true) : pdc cs m d = some (.list (l.map Dt.da)) := by
  cases m with
  | zero => omega
  | succ m =>
    rcases h with rfl | ⟨n, rfl, e⟩
    · simp only [enc, pdc]
      rw [mapO_map (by omega) l hf]
      rfl
    · simp only [pdc, e, co]
      rw [mapO_map (by omega) l hf]
      rfl
/-- no scalars: compared as a whole -/
theorem eq_pd {cs : Cells} {p r : P} {x y : PyData} {neg : Bool} (hs : scP p r = false) (h1 : pdc cs 8 p = some x) (h2 : pdc cs 8 r = some y) : gEq neg p r cs = .ok (.bl (if neg then !PyData.eqv x y else PyData.eqv x y)) cs := by
  show orG (gEqS neg) (gEqD neg) p r cs = _
  unfold orG gEqS
  rw [hs, if_neg Bool.false_ne_true]
  dsimp only
  unfold gEqD
  rw [h1, h2]
theorem sc_R {α : Type} [Ty α] {cs : Cells} {l : List α} {d : P} (h : qR K cs l d) (r : P) : scP d r = false := by
  rcases h.orI with ⟨xs, rfl⟩ | ⟨n, rfl⟩ <;> rfl
theorem o_eqL {α : Type} [Dt α] (hd : Dt.dep α + 1 ≤ 8) : Op2 K (qR K) (qR K) (qP K) (gEq false) fun (a b : List α) => eqR a b := by
  unfold eqR
  refine op2_if fun cs a b p r h1 h2 z => ?_
  rw [Bool.and_eq_true] at z
  rw [eq_pd (sc_R h1 r) (pdc_R h1 hd z.1) (pdc_R h2 hd z.2)]
  show Rs.ok (P.bl (PyData.eqv (Dt.da a) (Dt.da b))) cs = _
  rw [eqD_ev]
  rfl
theorem o_neL {α : Type} [Dt α] (hd : Dt.dep α + 1 ≤ 8) : Op2 K (qR K) (qR K) (qP K) (gEq true) fun (a b : List α) => neR a b := by
  unfold neR
  refine op2_if fun cs a b p r h1 h2 z => ?_
  rw [Bool.and_eq_true] at z
  rw [eq_pd (sc_R h1 r) (pdc_R h1 hd z.1) (pdc_R h2 hd z.2)]
  show Rs.ok (P.bl (!PyData.eqv (Dt.da a) (Dt.da b))) cs = _
  rw [eqD_ev]
  rfl
theorem o_eqD {α : Type} [Dt α] (hd : Dt.dep α ≤ 8) (hs : ∀ K (a b : α), scP (enc K a) (enc K b) = false) : Op2 K (qP K) (qP K) (qP K) (gEq false) fun (a b : α) => eqR a b := by
  unfold eqR
  refine op2_if fun cs a b p r h1 h2 z => ?_
  subst h1 h2
  rw [Bool.and_eq_true] at z
  rw [eq_pd (hs K a b) (Dt.pd K cs a 8 hd z.1) (Dt.pd K cs b 8 hd z.2)]
  show Rs.ok (P.bl (PyData.eqv (Dt.da a) (Dt.da b))) cs = _
  rw [eqD_ev]
  rfl
theorem o_neD {α : Type} [Dt α] (hd : Dt.dep α ≤ 8) (hs : ∀ K (a b : α), scP (enc K a) (enc K b) = false) : Op2 K (qP K) (qP K) (qP K) (gEq true) fun (a b : α) => neR a b := by
  unfold neR
  refine op2_if fun cs a b p r h1 h2 z => ?_
  subst h1 h2
  rw [Bool.and_eq_true] at z
  rw [eq_pd (hs K a b) (Dt.pd K cs a 8 hd z.1) (Dt.pd K cs b 8 hd z.2)]
  show Rs.ok (P.bl (!PyData.eqv (Dt.da a) (Dt.da b))) cs = _
  rw [eqD_ev]
  rfl
section
variable {α β γ δ ε : Type} [Dt α] [Dt β] [Dt γ] [Dt δ] [Dt ε]
instance : Dt (T2 α β) := { (inferInstance : Ty (T2 α β)) with
  da := fun t => .tuple [Dt.da t.a, Dt.da t.b]
  fit := fun t => Dt.fit t.a && Dt.fit t.b
  dep := max (Dt.dep α) (Dt.dep β) + 1
  pd := fun K cs a m hm h => by
    cases m with
    | zero => omega
    | succ m =>
      simp only [Bool.and_eq_true] at h
      simp only [enc, pdc, mapO]
      rw [Dt.pd K cs a.a m (by omega) h.1, Dt.pd K cs a.b m (by omega) h.2]
      rfl
  ev := fun a b => by
    simp only [PyData.eqv, PyData.eqvAll, Bool.and_true]
    rw [Bool.and_eq_true, Dt.ev, Dt.ev]
    exact ⟨fun h => by cases a; cases b; cases h.1; cases h.2; rfl, fun h => by rw [h]; exact ⟨rfl, rfl⟩⟩ }
instance : Dt (T3 α β γ) := { (inferInstance : Ty (T3 α β γ)) with
  da := fun t => .tuple [Dt.da t.a, Dt.da t.b, Dt.da t.c]
  fit := fun t => Dt.fit t.a && (Dt.fit t.b && Dt.fit t.c)
  dep := max (Dt.dep α) (max (Dt.dep β) (Dt.dep γ)) + 1
  pd := fun K cs a m hm h => by
    cases m with
    | zero => omega
    | succ m =>
      simp only [Bool.and_eq_true] at h
      simp only [enc, pdc, mapO]
      rw [Dt.pd K cs a.a m (by omega) h.1, Dt.pd K cs a.b m (by omega) h.2.1, Dt.pd K cs a.c m (by omega) h.2.2]
      rfl
  ev := fun a b => by
    simp only [PyData.eqv, PyData.eqvAll, Bool.and_true]
    rw [Bool.and_eq_true, Bool.and_eq_true, Dt.ev, Dt.ev, Dt.ev]
    exact ⟨fun h => by cases a; cases b; cases h.1; cases h.2.1; cases h.2.2; rfl, fun h => by rw [h]; exact ⟨rfl, rfl, rfl⟩⟩ }
instance : Dt (T4 α β γ δ) := { (inferInstance : Ty (T4 α β γ δ)) with
  da := fun t => .tuple [Dt.da t.a, Dt.da t.b, Dt.da t.c, Dt.da t.d]
  fit := fun t => Dt.fit t.a && (Dt.fit t.b && (Dt.fit t.c && Dt.fit t.d))
  dep := max (Dt.dep α) (max (Dt.dep β) (max (Dt.dep γ) (Dt.dep δ))) + 1
  pd := fun K cs a m hm h => by
    cases m with
    | zero => omega
    | succ m =>
      simp only [Bool.and_eq_true] at h
      simp only [enc, pdc, mapO]
      rw [Dt.pd K cs a.a m (by omega) h.1, Dt.pd K cs a.b m (by omega) h.2.1, Dt.pd K cs a.c m (by omega) h.2.2.1, Dt.pd K cs a.d m (by omega) h.2.2.2]
      rfl
  ev := fun a b => by
    simp only [PyData.eqv, PyData.eqvAll, Bool.and_true]
    rw [Bool.and_eq_true, Bool.and_eq_true, Bool.and_eq_true, Dt.ev, Dt.ev, Dt.ev, Dt.ev]
    exact ⟨fun h => by cases a; cases b; cases h.1; cases h.2.1; cases h.2.2.1; cases h.2.2.2; rfl, fun h => by rw [h]; exact ⟨rfl, rfl, rfl, rfl⟩⟩ }
instance : Dt (T5 α β γ δ ε) := { (inferInstance : Ty (T5 α β γ δ ε)) with
  da := fun t => .tuple [Dt.da t.a, Dt.da t.b, Dt.da t.c, Dt.da t.d, Dt.da t.e]
  fit := fun t => Dt.fit t.a && (Dt.fit t.b && (Dt.fit t.c && (Dt.fit t.d && Dt.fit t.e)))
  dep := max (Dt.dep α) (max (Dt.dep β) (max (Dt.dep γ) (max (Dt.dep δ) (Dt.dep ε)))) + 1
  pd := fun K cs a m hm h => by
    cases m with
    | zero => omega
    | succ m =>
      simp only [Bool.and_eq_true] at h
      simp only [enc, pdc, mapO]
      rw [Dt.pd K cs a.a m (by omega) h.1, Dt.pd K cs a.b m (by omega) h.2.1, Dt.pd K cs a.c m (by omega) h.2.2.1, Dt.pd K cs a.d m (by omega) h.2.2.2.1, Dt.pd K cs a.e m (by omega) h.2.2.2.2]
      rfl
  ev := fun a b => by
    simp only [PyData.eqv, PyData.eqvAll, Bool.and_true]
    rw [Bool.and_eq_true, Bool.and_eq_true, Bool.and_eq_true, Bool.and_eq_true, Dt.ev, Dt.ev, Dt.ev, Dt.ev, Dt.ev]
    exact ⟨fun h => by cases a; cases b; cases h.1; cases h.2.1; cases h.2.2.1; cases h.2.2.2.1; cases h.2.2.2.2; rfl, fun h => by rw [h]; exact ⟨rfl, rfl, rfl, rfl, rfl⟩⟩ }
end
/-! in -/
@[irreducible] def inL {α : Type} [Sc α] (x : α) (l : List α) : Bool := l.any fun y => eqC y x
@[irreducible] def inS (a b : Str) : Bool := !(Builtin.Str.occurrences b a 0 b.length 1).isEmpty
theorem in_seq {α : Type} [Sc α] {cs : Cells} {x : α} {l : List α} {d : P} {neg : Bool} (h : DL.seqc cs d = some (l.map (enc K))) : gIn neg (enc K x) d cs = .ok (.bl (if neg then !inL x l else inL x l)) cs := by
  show orG (gInL neg) _ (enc K x) d cs = _
  have e1 : (l.map (enc K)).all flatP = true := by
    rw [List.all_map]
    exact List.all_eq_true.mpr fun y _ => Sc.fl K y
  have e2 : (l.map (enc K)).any (fun y => eqF y (enc K x)) = inL x l := by
    rw [List.any_map]
    unfold inL
    congr 1
    funext y
    unfold eqC
    exact Sc.ef K y x
  have : gInL neg (enc K x) d cs = .ok (.bl (if neg then !inL x l else inL x l)) cs := by
    unfold gInL
    rw [h]
    dsimp only
    rw [if_pos ⟨Sc.fl K x, e1⟩, e2]
  unfold orG
  rw [this]
theorem o_inL {α : Type} [Sc α] : Op2 K (qP K) (qR K) (qP K) (gIn false) fun (a : α) b => .ok (inL a b) := op2_of fun cs a b p r h1 h2 => by
  subst h1
  exact in_seq h2.seqc
theorem o_niL {α : Type} [Sc α] : Op2 K (qP K) (qR K) (qP K) (gIn true) fun (a : α) b => .ok (!inL a b) := op2_of fun cs a b p r h1 h2 => by
  subst h1
  exact in_seq h2.seqc
theorem o_inT {α : Type} [Sc α] : Op2 K (qP K) (qP K) (qP K) (gIn false) fun (a : α) (b : Tup α) => .ok (inL a b.l) := op2_of fun cs a b p r h1 h2 => by
  subst h1 h2
  exact in_seq rfl
theorem o_niT {α : Type} [Sc α] : Op2 K (qP K) (qP K) (qP K) (gIn true) fun (a : α) (b : Tup α) => .ok (!inL a b.l) := op2_of fun cs a b p r h1 h2 => by
  subst h1 h2
  exact in_seq rfl
theorem o_inS : Op2 K (qP K) (qP K) (qP K) (gIn false) fun (a b : Str) => .ok (inS a b) := op2_of fun cs a b p r h1 h2 => by
  subst h1 h2
  show gIn false (.str a) (.str b) cs = _
  simp [gIn, orG, gInL, DL.seqc, gInS, inS]
  rfl
theorem o_niS : Op2 K (qP K) (qP K) (qP K) (gIn true) fun (a b : Str) => .ok (!inS a b) := op2_of fun cs a b p r h1 h2 => by
  subst h1 h2
  show gIn true (.str a) (.str b) cs = _
  simp [gIn, orG, gInL, DL.seqc, gInS, inS]
  rfl
end
end TL

namespace TL
open PySem L2 DL
open Ty (enc)
open Mt (co)
section
variable {K : Fg}
/-! ### built-ins of one value -/
theorem op1_of {α γ : Type} [Ty γ] {q1 : Cells → α → P → Prop} {g : GC} {f : α → γ} (h : ∀ cs a p, q1 cs a p → g [p] cs = .ok (enc K (f a)) cs) : Op1 K q1 (qP K) g fun a => .ok (f a) := fun cs a p h1 => ⟨_, h cs a p h1, rfl⟩
def len {α : Type} (l : List α) : Int := (l.length : Int)
open Classical in
@[irreducible] noncomputable def lenS (z : Str) : R Int := if z.length ≤ sizeLine then .ok (z.length : Int) else .stuck
theorem len_seq {cs : Cells} {d : P} {xs : List P} (h : DL.seqc cs d = some xs) (hd : ∀ z, d ≠ .str z) : orC gLen gLenD [d] cs = .ok (.int xs.length) cs := by
  unfold orC
  have : gLen [d] cs = .ok (.int xs.length) cs := by
    cases d with
    | str z => exact absurd rfl (hd z)
    | _ => simp only [gLen, h]
  rw [this]
theorem c_lenL {α : Type} [Ty α] : Op1 K (qR K) (qP K) (orC gLen gLenD) fun (a : List α) => .ok (len a) := op1_of fun cs a p h => by
  have := len_seq h.seqc (fun z => by rcases h.orI with ⟨xs, rfl⟩ | ⟨n, rfl⟩ <;> exact fun e => by cases e)
  rw [this, List.length_map]
  rfl
theorem c_lenT {α : Type} [Ty α] : Op1 K (qP K) (qP K) (orC gLen gLenD) fun (a : Tup α) => .ok (len a.l) := op1_of fun cs a p h => by
  subst h
  have := len_seq (cs := cs) (d := .tup (a.l.map (enc K))) rfl (fun z e => by cases e)
  rw [List.length_map] at this
  exact this
theorem c_lenScr : Op1 K (qP K) (qP K) (orC gLen gLenD) fun (a : Scr) => .ok (len a.l) := op1_of fun cs a p h => by
  subst h
  have := len_seq (cs := cs) (d := .klst (a.l.map .int)) rfl (fun z e => by cases e)
  rw [List.length_map] at this
  exact this
theorem c_lenS : Op1 K (qP K) (qP K) (orC gLen gLenD) lenS := fun cs a p h => by
  subst h
  unfold lenS
  split
  · rename_i hz
    refine ⟨.int a.length, ?_, rfl⟩
    show orC gLen gLenD [.str a] cs = _
    simp [orC, gLen, hz]
  · trivial
/-- the length of a tuple whose items are not alike -/
theorem c_lenK {β : Type} [Ty β] (k : Nat) (h : ∀ K (a : β), ∃ ps, enc K a = .tup ps ∧ ps.length = k) : Op1 K (qP K) (qP K) (orC gLen gLenD) fun (_ : β) => .ok (k : Int) := op1_of fun cs a p e => by
  subst e
  obtain ⟨ps, e1, e2⟩ := h K a
  rw [e1, len_seq rfl (fun z e => by cases e), e2]
  rfl
theorem c_lenD {κ α : Type} [Ky κ] [Ty α] : Op1 K (qR K) (qP K) (orC gLen gLenD) fun (a : Dict κ α) => .ok (len a.l) := op1_of fun cs a p h => by
  rcases h with rfl | ⟨n, rfl, e⟩
  · show orC gLen gLenD [.dK (a.l.map fun q => (Ky.key q.1, enc K q.2))] cs = _
    simp [orC, gLen, DL.seqc, gLenD, DL.dkc]
    rfl
  · have e : cs[n]? = some (.dK (a.l.map fun q => (Ky.key q.1, enc K q.2))) := e
    simp [orC, gLen, DL.seqc, gLenD, DL.dkc, e]
    rfl
def abs' (i : Int) : Int := if i < 0 then -i else i
def min' (i j : Int) : Int := if j < i then j else i
def max' (i j : Int) : Int := if j > i then j else i
def b2i (b : Bool) : Int := if b then 1 else 0
theorem c_abs : Op1 K (qP K) (qP K) gAbs fun (i : Int) => .ok (abs' i) := op1_of fun cs a p h => by subst h; rfl
theorem c_int : Op1 K (qP K) (qP K) (orC gInt gIntS) fun (i : Int) => .ok i := op1_of fun cs a p h => by subst h; rfl
theorem c_intB : Op1 K (qP K) (qP K) (orC gInt gIntS) fun (i : Bool) => .ok (b2i i) := op1_of fun cs a p h => by subst h; rfl
open Classical in
@[irreducible] noncomputable def intS (z : Str) : R Int := match PySem.intText? z with
  | some n => if z.length ≤ 640 then .ok n else .stuck
  | none => .stuck
theorem c_intS : Op1 K (qP K) (qP K) (orC gInt gIntS) intS := fun cs a p h => by
  subst h
  unfold intS
  split
  · rename_i n e
    split
    · rename_i hz
      refine ⟨.int n, ?_, rfl⟩
      show orC gInt gIntS [.str a] cs = _
      simp [orC, gInt, gIntS, e, hz]
    · trivial
  · trivial
open Classical in
@[irreducible] noncomputable def strI (i : Int) : R Str := if i.natAbs.log2 < 1920 then .ok (toString i : String) else .stuck
theorem c_strI : Op1 K (qP K) (qP K) gStrI strI := fun cs a p h => by
  subst h
  unfold strI
  split
  · rename_i hz
    refine ⟨.str (toString a : String), ?_, rfl⟩
    show gStrI [.int a] cs = _
    simp [gStrI, hz]
  · trivial
theorem c_min : OpB2 K (qP K) (qP K) (qP K) gMin2 fun (i j : Int) => .ok (min' i j) := fun cs a b p r h1 h2 => by subst h1 h2; exact ⟨_, rfl, rfl⟩
theorem c_max : OpB2 K (qP K) (qP K) (qP K) gMax2 fun (i j : Int) => .ok (max' i j) := fun cs a b p r h1 h2 => by subst h1 h2; exact ⟨_, rfl, rfl⟩
theorem tup_seq {cs : Cells} {d : P} {xs : List P} (h : DL.seqc cs d = some xs) : gTuple [d] cs = .ok (.tup xs) cs := by
  unfold gTuple
  split
  · rename_i ys e
    cases e
    cases h
    rfl
  · rename_i x e
    cases e
    rw [h]
  · rename_i h1 h2
    exact absurd rfl (h2 d)
theorem c_tupL {α : Type} [Ty α] : Op1 K (qR K) (qP K) gTuple fun (a : List α) => .ok (⟨a⟩ : Tup α) := op1_of fun cs a p h => tup_seq h.seqc
theorem c_tupT {α : Type} [Ty α] : Op1 K (qP K) (qP K) gTuple fun (a : Tup α) => .ok a := op1_of fun cs a p h => by subst h; rfl
theorem c_tupK {β : Type} [Ty β] (h : ∀ K (a : β), ∃ ps, enc K a = .tup ps) : Op1 K (qP K) (qP K) gTuple fun (a : β) => .ok a := op1_of fun cs a p e => by
  subst e
  obtain ⟨ps, e⟩ := h K a
  rw [e]
  rfl
theorem f_listL {α : Type} [Ty α] : OpF1 K (qR K) (qF K) gList fun (a : List α) => .ok a := fun cs a p h => by
  refine ⟨_, ?_, rfl⟩
  show (match DL.seqc cs p with | some ys => Rs.ok (CO.lst ys) cs | none => .stuck) = _
  rw [h.seqc]
  rfl
theorem f_listT {α : Type} [Ty α] : OpF1 K (qP K) (qF K) gList fun (a : Tup α) => .ok a.l := fun cs a p h => by
  subst h
  exact ⟨_, rfl, rfl⟩
theorem ints_map : ∀ l : List Int, intsP (l.map (enc K)) = some l
  | [] => rfl
  | x :: l => by
    show (match intsP (l.map (enc K)) with | some r => some (x :: r) | none => none) = _
    rw [ints_map l]
theorem c_sum : Op1 K (qR K) (qP K) gSum fun (a : List Int) => .ok a.sum := op1_of fun cs a p h => by
  have : DL.lstk cs p = some (a.map (enc K)) := by
    have := h.lstc
    rcases h.orI with ⟨xs, rfl⟩ | ⟨n, rfl⟩ <;> exact this
  show (match DL.lstk cs p with | some ys => (match intsP ys with | some ns => Rs.ok (P.int ns.sum) cs | none => .stuck) | none => .stuck) = _
  rw [this]
  dsimp only
  rw [ints_map]
  rfl
/-! ### truth -/
theorem u_bl : Tru (qP K) fun (b : Bool) => .ok b := fun cs a p h b e => by subst h; cases e; rfl
theorem u_int : Tru (qP K) fun (i : Int) => .ok (i != 0) := fun cs a p h b e => by subst h; cases e; rfl
theorem u_str : Tru (qP K) fun (z : Str) => (lenS z).bind fun i => .ok (i != 0) := fun cs a p h b e => by
  subst h
  dsimp only at e
  unfold lenS at e
  split at e
  · rename_i hz
    cases e
    show tru cs (.str a) = _
    simp only [tru]
    rw [if_pos hz]
  · cases e
theorem u_lst {α : Type} [Ty α] : Tru (qR K) fun (l : List α) => .ok (!l.isEmpty) := fun cs a p h b e => by
  cases e
  rcases h with rfl | ⟨n, rfl, e⟩
  · show tru cs (.lst (a.map (enc K))) = _
    simp [tru, DL.seqc]
  · have e : cs[n]? = some (.lst (a.map (enc K))) := e
    simp [tru, e]
theorem u_tup {α : Type} [Ty α] : Tru (qP K) fun (l : Tup α) => .ok (!l.l.isEmpty) := fun cs a p h b e => by
  cases e
  subst h
  show tru cs (.tup (a.l.map (enc K))) = _
  simp [tru, DL.seqc]
theorem u_dct {κ α : Type} [Ky κ] [Ty α] : Tru (qR K) fun (d : Dict κ α) => .ok (!d.l.isEmpty) := fun cs a p h b e => by
  cases e
  rcases h with rfl | ⟨n, rfl, e⟩
  · show tru cs (.dK (a.l.map fun q => (Ky.key q.1, enc K q.2))) = _
    simp [tru]
  · have e : cs[n]? = some (.dK (a.l.map fun q => (Ky.key q.1, enc K q.2))) := e
    simp [tru, e]
/-! ### dicts -/
def Dict.get? {κ α : Type} [Ky κ] (d : Dict κ α) (k : κ) : Option α := (d.l.find? fun q => @decide (q.1 = k) (Ky.dec q.1 k)).map (·.2)
def Dict.put {κ α : Type} [Ky κ] (d : Dict κ α) (k : κ) (v : α) : Dict κ α := ⟨if d.l.any (fun q => @decide (q.1 = k) (Ky.dec q.1 k)) = true then d.l.map fun q => @ite _ (q.1 = k) (Ky.dec q.1 k) (q.1, v) q else d.l ++ [(k, v)]⟩
theorem key_dec {κ : Type} [Ky κ] (a b : κ) : decide (Ky.key a = Ky.key b) = @decide (a = b) (Ky.dec a b) := by
  by_cases h : a = b
  · subst h
    rw [@decide_eq_true _ (Ky.dec a a) rfl, decide_eq_true rfl]
  · rw [@decide_eq_false _ (Ky.dec a b) h, decide_eq_false fun e => h (Ky.inj a b e)]
theorem valP_map {κ α : Type} [Ky κ] [Ty α] (d : Dict κ α) (k : κ) : valP (d.l.map fun q => (Ky.key q.1, enc K q.2)) (Ky.key k) = (d.get? k).map (enc K) := by
  unfold valP Dict.get?
  rw [List.find?_map]
  simp only [Function.comp_def, key_dec]
  cases d.l.find? fun q => @decide (q.1 = k) (Ky.dec q.1 k) <;> rfl
theorem putP_map {κ α : Type} [Ky κ] [Ty α] (d : Dict κ α) (k : κ) (v : α) : putP (d.l.map fun q => (Ky.key q.1, enc K q.2)) (Ky.key k) (enc K v) = (d.put k v).l.map fun q => (Ky.key q.1, enc K q.2) := by
  unfold putP Dict.put
  rw [List.any_map]
  simp only [Function.comp_def, key_dec]
  by_cases h : d.l.any (fun q => @decide (q.1 = k) (Ky.dec q.1 k)) = true
  · rw [if_pos h, if_pos h, List.map_map, List.map_map]
    apply List.map_congr_left
    intro q _
    simp only [Function.comp_def]
    by_cases e : q.1 = k
    · rw [if_pos (by rw [e]), @if_pos _ (Ky.dec _ _) e]
    · rw [if_neg (fun z => e (Ky.inj _ _ z)), @if_neg _ (Ky.dec _ _) e]
  · rw [if_neg h, if_neg h, List.map_append]
    rfl
theorem dget_R {κ α : Type} [Ky κ] [Ty α] {cs : Cells} {d : Dict κ α} {p : P} (h : qR K cs d p) (k : κ) : dget cs p (Ky.enk k) = some ((d.get? k).map (enc K)) := by
  have : dgetK (d.l.map fun q => (Ky.key q.1, enc K q.2)) (Ky.enk k) = some ((d.get? k).map (enc K)) := by
    unfold dgetK
    rw [Ky.ok]
    dsimp only
    rw [valP_map]
  rcases h with rfl | ⟨n, rfl, e⟩
  · exact this
  · have e : cs[n]? = some (.dK (d.l.map fun q => (Ky.key q.1, enc K q.2))) := e
    simp only [dget, e]
    exact this
/-- keys are ints or texts -/
class Kf (κ : Type) extends Ky κ, Ty κ where
  same : ∀ K k, enc K k = Ky.enk k
instance : Kf Int := ⟨fun _ _ => rfl⟩
instance : Kf Str := ⟨fun _ _ => rfl⟩
@[irreducible] def ixD {κ α : Type} [Ky κ] (d : Dict κ α) (k : κ) : R α := match d.get? k with
  | some a => .ok a
  | none => .stuck
theorem dct_seq {κ α : Type} [Ky κ] [Ty α] {cs : Cells} {d : Dict κ α} {p : P} (h : qR K cs d p) : DL.seqc cs p = none := by
  rcases h with rfl | ⟨n, rfl, e⟩
  · rfl
  · have e : cs[n]? = some (.dK (d.l.map fun q => (Ky.key q.1, enc K q.2))) := e
    simp only [DL.seqc, e]
theorem dct_nstr {κ α : Type} [Ky κ] [Ty α] {cs : Cells} {d : Dict κ α} {p : P} (h : qR K cs d p) : ∀ z, p ≠ .str z := by
  rcases h with rfl | ⟨n, rfl, e⟩ <;> exact fun z e => by cases e
theorem o_ixD {κ α : Type} [Kf κ] [Ty α] : Op2 K (qR K) (qP K) (qP K) gIx (ixD (κ := κ) (α := α)) := fun cs a b p r h1 h2 => by
  subst h2
  unfold ixD
  split
  · rename_i v e
    refine ⟨enc K v, ?_, rfl⟩
    have g1 : gIxL p (enc K b) cs = .stuck := by
      unfold gIxL
      rw [dct_seq h1]
      split <;> rfl
    have g2 : gIxS p (enc K b) cs = .stuck := by
      unfold gIxS
      split
      · exact absurd rfl (dct_nstr h1 _)
      · rfl
    show orG gIxL (orG gIxS gIxD) p (enc K b) cs = _
    have g3 : gIxD p (enc K b) cs = .ok (enc K v) cs := by
      unfold gIxD
      rw [Kf.same, dget_R h1, e]
      rfl
    unfold orG
    rw [g1]
    dsimp only
    rw [g2]
    exact g3
  · trivial
theorem in_dct {κ α : Type} [Kf κ] [Ty α] {cs : Cells} {k : κ} {d : Dict κ α} {p : P} {neg : Bool} (h : qR K cs d p) : gIn neg (enc K k) p cs = .ok (.bl (if neg then !(d.get? k).isSome else (d.get? k).isSome)) cs := by
  have g1 : gInL neg (enc K k) p cs = .stuck := by
    unfold gInL
    rw [dct_seq h]
  have g2 : gInS neg (enc K k) p cs = .stuck := by
    unfold gInS
    split
    · exact absurd rfl (dct_nstr h _)
    · rfl
  show orG (gInL neg) (orG (gInS neg) (gInD neg)) (enc K k) p cs = _
  unfold orG
  rw [g1]
  dsimp only
  rw [g2]
  dsimp only
  unfold gInD
  rw [Kf.same, dget_R h]
  dsimp only
  rw [Option.isSome_map]
theorem o_inD {κ α : Type} [Kf κ] [Ty α] : Op2 K (qP K) (qR K) (qP K) (gIn false) fun (k : κ) (d : Dict κ α) => .ok (d.get? k).isSome := op2_of fun cs a b p r h1 h2 => by
  subst h1
  exact in_dct h2
theorem o_niD {κ α : Type} [Kf κ] [Ty α] : Op2 K (qP K) (qR K) (qP K) (gIn true) fun (k : κ) (d : Dict κ α) => .ok (!(d.get? k).isSome) := op2_of fun cs a b p r h1 h2 => by
  subst h1
  exact in_dct h2
end
/-! ### what a for walks -/
section
variable {K : Fg} {base : Cells} {n : Nat} {Γ : Ents}
theorem ti_walk {α β : Type} {en : β → P} {q : Cells → α → P → Prop} {f : DEn} {t : R α} (op : α → List β) (o : ∀ cs a p, base <+: cs → q cs a p → ∃ L, walk cs p = some L ∧ qI K base en cs (op a) L) (h : TE K base n Γ q f t) : TE K base n Γ (qI K base en) (dWalk f) (t.bind fun a => .ok (op a)) := by
  unfold dWalk
  exact h.bind fun a env cs p hh z => by
    obtain ⟨L, e1, e2⟩ := o cs a p hh.pre z
    rw [e1]
    exact ⟨L, rfl, e2⟩
theorem ti_lst {α : Type} [Ty α] {f : DEn} {t : R (List α)} (h : TE K base n Γ (qP K) f t) : TE K base n Γ (qI K base (enc K)) (dWalk f) (t.bind fun a => .ok a) := ti_walk id (fun cs a p hb e => by
  subst e
  exact ⟨_, rfl, rfl, fun c _ => rfl⟩) h
theorem ti_tup {α : Type} [Ty α] {f : DEn} {t : R (Tup α)} (h : TE K base n Γ (qP K) f t) : TE K base n Γ (qI K base (enc K)) (dWalk f) (t.bind fun a => .ok a.l) := ti_walk (fun a : Tup α => a.l) (fun cs a p hb e => by
  subst e
  exact ⟨_, rfl, rfl, fun c _ => rfl⟩) h
/-- the signs of a text -/
def sgn (z : Str) : List Str := z.cps.toList.map fun c => ⟨#[c]⟩
theorem ti_str {f : DEn} {t : R Str} (h : TE K base n Γ (qP K) f t) : TE K base n Γ (qI K base (enc K)) (dWalk f) (t.bind fun a => .ok (sgn a)) := ti_walk sgn (fun cs a p hb e => by
  subst e
  refine ⟨_, rfl, ?_, fun c _ => rfl⟩
  unfold sgn
  rw [List.map_map]
  rfl) h
/-- a list that was handed in -/
theorem ti_rd {α : Type} [Ty α] (i : Nat) (a : List α) (h : getE Γ i = some (.r (enc K a) (co K a))) : TE K base n Γ (qI K base (enc K)) (dWalk (dVar i)) (.ok a) := fun env cs hh => by
  obtain ⟨d, w1, w2⟩ := hh.at' i _ h
  unfold dWalk
  rw [e_var w1, Rs.bind_ok]
  rcases w2 with rfl | ⟨m, rfl, e⟩
  · exact ⟨_, rfl, rfl, fun c _ => rfl⟩
  · have e' : cs[m]? = some (.lst (a.map (enc K))) := pre_at hh.pre e
    refine ⟨(a.map (enc K), isAt m (a.map (enc K))), ?_, rfl, fun c hc => isAt_iff.mpr (pre_at hc e)⟩
    simp only [walk, e']
def rngI (lo : Int) (k : Nat) : List Int := (List.range k).map fun (i : Nat) => lo + (i : Int)
open Classical in
@[irreducible] noncomputable def rng1 (j : Int) : R (List Int) := if -(2 ^ 62) ≤ j ∧ j < 2 ^ 62 then .ok (rngI 0 j.toNat) else .stuck
open Classical in
@[irreducible] noncomputable def rng2 (i j : Int) : R (List Int) := if -(2 ^ 62) ≤ i ∧ i < 2 ^ 62 ∧ -(2 ^ 62) ≤ j ∧ j < 2 ^ 62 then .ok (rngI i (j - i).toNat) else .stuck
theorem rng_map (lo : Int) (k : Nat) : rangeP lo k = (rngI lo k).map (enc K) := by
  unfold rangeP rngI
  rw [List.map_map]
  rfl
theorem ti_rng1 {f : DEn} {t : R Int} (h : TE K base n Γ (qP K) f t) : TE K base n Γ (qI K base (enc K)) (dRng1 (dCons f dNil)) (t.bind rng1) := fun env cs hh => by
  have := h env cs hh
  unfold dRng1
  rw [e_cons]
  cases t with
  | ok j =>
    obtain ⟨p, e, z⟩ := this
    have z : p = .int j := z
    subst z
    rw [e, R.bind_ok]
    unfold rng1
    split
    · rename_i hz
      refine ⟨(rangeP 0 j.toNat, yes), ?_, rng_map _ _, fun _ _ => rfl⟩
      simp only [Rs.bind_ok, e_nil]
      exact if_pos hz
    · trivial
  | ex x => have this : _ = _ := this; rw [this]; exact rfl
  | stuck => trivial
theorem ti_rng2 {f g : DEn} {t u : R Int} (h : TE K base n Γ (qP K) f t) (h' : TE K base n Γ (qP K) g u) : TE K base n Γ (qI K base (enc K)) (dRng2 (dCons f (dCons g dNil))) (t.bind fun i => u.bind fun j => rng2 i j) := fun env cs hh => by
  have h1 := h env cs hh
  have h2 := h' env cs hh
  unfold dRng2
  rw [e_cons]
  cases t with
  | ok i =>
    obtain ⟨p, e, z⟩ := h1
    have z : p = .int i := z
    subst z
    rw [e, R.bind_ok]
    cases u with
    | ok j =>
      obtain ⟨p, e, z⟩ := h2
      have z : p = .int j := z
      subst z
      simp only [Rs.bind_ok, e_cons, e, e_nil, R.bind_ok]
      unfold rng2
      split
      · rename_i hz
        refine ⟨(rangeP i (j - i).toNat, yes), ?_, rng_map _ _, fun _ _ => rfl⟩
        first | exact if_pos hz | rfl
      · trivial
    | ex x =>
      have h2 : _ = _ := h2
      simp only [Rs.bind_ok, e_cons, h2]
      exact rfl
    | stuck => trivial
  | ex x => have h1 : _ = _ := h1; rw [h1]; exact rfl
  | stuck => trivial
def enumI {α : Type} (i : Nat) : List α → List (T2 Int α)
  | [] => []
  | x :: r => ⟨(i : Int), x⟩ :: enumI (i + 1) r
theorem enum_map {α : Type} [Ty α] : ∀ (l : List α) (i : Nat), enumP i (l.map (enc K)) = (enumI i l).map (enc K)
  | [], _ => rfl
  | x :: r, i => by
    rw [List.map_cons, enumP, enumI, List.map_cons, enum_map r]
    rfl
def zipI {α β : Type} : List α → List β → List (T2 α β)
  | x :: xs, y :: ys => ⟨x, y⟩ :: zipI xs ys
  | _, _ => []
theorem zip_map {α β : Type} [Ty α] [Ty β] : ∀ (l : List α) (m : List β), zipP (l.map (enc K)) (m.map (enc K)) = (zipI l m).map (enc K)
  | [], m => by cases m <;> rfl
  | x :: xs, [] => rfl
  | x :: xs, y :: ys => by
    rw [List.map_cons, List.map_cons, zipP, zipI, List.map_cons, zip_map xs ys]
    rfl
/-- a list that is walked with its places: plain, or handed in -/
def qL (K : Fg) (base : Cells) {α : Type} [Ty α] : Cells → List α → P → Prop := fun cs a p => p = enc K a ∨ ∃ m : Nat, p = .cell m ∧ base[m]? = some (co K a)
theorem tl_p {α : Type} [Ty α] {f : DEn} {t : R (List α)} (h : TE K base n Γ (qP K) f t) : TE K base n Γ (qL K base) f t := h.weak fun _ _ _ z => .inl z
theorem tl_rd {α : Type} [Ty α] (i : Nat) (a : List α) (h : getE Γ i = some (.r (enc K a) (co K a))) : TE K base n Γ (qL K base) (dVar i) (.ok a) := fun env cs hh => by
  obtain ⟨d, w1, w2⟩ := hh.at' i _ h
  exact ⟨d, e_var w1, w2⟩
theorem qL_walk {α : Type} [Ty α] {cs : Cells} {a : List α} {p : P} (hb : base <+: cs) (h : qL K base cs a p) : ∃ L, walkL cs p = some L ∧ L.1 = a.map (enc K) ∧ ∀ c, base <+: c → L.2 c = true := by
  rcases h with rfl | ⟨m, rfl, e⟩
  · exact ⟨(a.map (enc K), yes), rfl, rfl, fun _ _ => rfl⟩
  · have e' : cs[m]? = some (.lst (a.map (enc K))) := pre_at hb e
    refine ⟨(a.map (enc K), isAt m (a.map (enc K))), ?_, rfl, fun c hc => isAt_iff.mpr (pre_at hc e)⟩
    simp only [walkL, e']
theorem ti_enum {α : Type} [Ty α] {f : DEn} {t : R (List α)} (h : TE K base n Γ (qL K base) f t) : TE K base n Γ (qI K base (enc K)) (dEnum (dCons f dNil)) (t.bind fun a => .ok (enumI 0 a)) := fun env cs hh => by
  have := h env cs hh
  unfold dEnum
  rw [e_cons]
  cases t with
  | ok a =>
    obtain ⟨p, e, z⟩ := this
    obtain ⟨L, e1, e2, e3⟩ := qL_walk hh.pre z
    rw [e, R.bind_ok]
    simp only [Rs.bind_ok, e_nil]
    rw [e1]
    refine ⟨(enumP 0 L.1, L.2), rfl, ?_, e3⟩
    show enumP 0 L.1 = _
    rw [e2, enum_map]
  | ex x => have this : _ = _ := this; rw [this]; exact rfl
  | stuck => trivial
theorem ti_zip {α β : Type} [Ty α] [Ty β] {f g : DEn} {t : R (List α)} {u : R (List β)} (h : TE K base n Γ (qL K base) f t) (h' : TE K base n Γ (qL K base) g u) : TE K base n Γ (qI K base (enc K)) (dZip (dCons f (dCons g dNil))) (t.bind fun a => u.bind fun b => .ok (zipI a b)) := fun env cs hh => by
  have h1 := h env cs hh
  have h2 := h' env cs hh
  unfold dZip
  rw [e_cons]
  cases t with
  | ok a =>
    obtain ⟨p, e, z⟩ := h1
    obtain ⟨L, e1, e2, e3⟩ := qL_walk hh.pre z
    rw [e, R.bind_ok]
    cases u with
    | ok b =>
      obtain ⟨p', e', z'⟩ := h2
      obtain ⟨M, m1, m2, m3⟩ := qL_walk hh.pre z'
      simp only [Rs.bind_ok, e_cons, e', e_nil, R.bind_ok, e1, m1]
      refine ⟨_, rfl, ?_, fun c hc => by simp only [e3 c hc, m3 c hc, Bool.and_self]⟩
      show zipP L.1 M.1 = _
      rw [e2, m2, zip_map]
    | ex x =>
      have h2 : _ = _ := h2
      simp only [Rs.bind_ok, e_cons, h2]
      exact rfl
    | stuck => trivial
  | ex x => have h1 : _ = _ := h1; rw [h1]; exact rfl
  | stuck => trivial
/-! ### comprehensions -/
def lcR {α β : Type} (f : α → R β) : List α → R (List β)
  | [] => .ok []
  | x :: xs => (f x).nox.bind fun y => (lcR f xs).bind fun ys => .ok (y :: ys)
def lcfR {α β : Type} (c : α → R Bool) (f : α → R β) : List α → R (List β)
  | [] => .ok []
  | x :: xs => (c x).nox.bind fun b => if b = true then (f x).nox.bind fun y => (lcfR c f xs).bind fun ys => .ok (y :: ys) else lcfR c f xs
theorem lcL_ok {α β : Type} [Ty β] {en : α → P} {ok : Cells → Bool} {gt : DGn} {ft : DTn} {fe : DEn} {c : α → R Bool} {f : α → R β} {env : Env} {cs : Cells} (hh : Hold base n Γ env cs) (hok : ok cs = true)
    (hb : ∀ x, ∃ Γ', TG base n gt (en x) Γ Γ' ∧ TE K base n Γ' qB ft (c x) ∧ TE K base n Γ' (qP K) fe (f x)) : ∀ (L : List α) (acc : List β), ER K (qF K) cs (dLcL ok gt ft fe env (L.map en) cs (acc.map (enc K))) ((lcfR c f L).bind fun l => .ok (acc ++ l))
  | [], acc => by
    rw [List.map_nil, dLcL, if_pos hok, lcfR, R.bind_ok, List.append_nil]
    exact ⟨_, rfl, rfl⟩
  | x :: L, acc => by
    rw [List.map_cons, dLcL, if_pos hok, lcfR]
    obtain ⟨Γ', h1, h2, h3⟩ := hb x
    obtain ⟨e, w1, w2⟩ := h1 env cs hh
    rw [w1]
    dsimp only
    have z2 := h2 e cs w2
    have z3 := h3 e cs w2
    cases hc : c x with
    | ok b =>
      rw [hc] at z2
      obtain ⟨b', e1, e2⟩ := z2
      have e2 : b' = b := e2
      subst e2
      rw [e1]
      cases b' with
      | true =>
        dsimp only
        cases hf : f x with
        | ok y =>
          rw [hf] at z3
          obtain ⟨p, e3, e4⟩ := z3
          have e4 : p = enc K y := e4
          subst e4
          rw [e3]
          dsimp only
          have ih := lcL_ok hh hok hb L (acc ++ [y])
          rw [List.map_append] at ih
          have e5 : (((R.ok true).nox.bind fun b => if b = true then (R.ok y).nox.bind fun y => (lcfR c f L).bind fun ys => R.ok (y :: ys) else lcfR c f L).bind fun l => R.ok (acc ++ l)) = (lcfR c f L).bind fun l => R.ok ((acc ++ [y]) ++ l) := by
            simp [R.bind_assoc]
          rw [e5]
          exact ih
        | ex x => trivial
        | stuck => trivial
      | false =>
        dsimp only
        exact lcL_ok hh hok hb L acc
    | ex x => trivial
    | stuck => trivial
theorem lcf_true {α β : Type} {f : α → R β} : ∀ L : List α, lcfR (fun _ => .ok true) f L = lcR f L
  | [] => rfl
  | x :: L => by
    rw [lcfR, lcR, lcf_true L]
    rfl
theorem te_lcf {α β : Type} [Ty β] {en : α → P} {T : List Nat} {fi : DIn} {gt : DGn} {ft : DTn} {fe : DEn} {ti : R (List α)} {c : α → R Bool} {f : α → R β} (hi : TE K base n Γ (qI K base en) fi ti)
    (hb : ∀ x, ∃ Γ', TG base n gt (en x) (dropE T Γ) Γ' ∧ TE K base n Γ' qB ft (c x) ∧ TE K base n Γ' (qP K) fe (f x)) : TE K base n Γ (qF K) (dLc T fi gt ft fe) (ti.bind fun L => if L.length ≤ sizeLine then lcfR c f L else .stuck) := by
  unfold dLc
  exact hi.bind fun L env cs p hh z => by
    obtain ⟨z1, z2⟩ := z
    rw [z1]
    by_cases hl : L.length ≤ sizeLine
    · rw [if_pos (by rw [List.length_map]; exact hl), if_pos hl]
      have := lcL_ok (acc := ([] : List β)) ((hh.sub dropE_sub).wipe dropE_none) (z2 cs hh.pre) hb L
      have e : ((lcfR c f L).bind fun l => R.ok ([] ++ l)) = lcfR c f L := by cases lcfR c f L <;> rfl
      rw [e] at this
      exact this
    · rw [if_neg hl]
      trivial
theorem te_lc {α β : Type} [Ty β] {en : α → P} {T : List Nat} {fi : DIn} {gt : DGn} {fe : DEn} {ti : R (List α)} {f : α → R β} (hi : TE K base n Γ (qI K base en) fi ti)
    (hb : ∀ x, ∃ Γ', TG base n gt (en x) (dropE T Γ) Γ' ∧ TE K base n Γ' (qP K) fe (f x)) : TE K base n Γ (qF K) (dLc T fi gt dYes fe) (ti.bind fun L => if L.length ≤ sizeLine then lcR f L else .stuck) := by
  have := te_lcf (c := fun _ => .ok true) (ft := dYes) hi (fun x => by
    obtain ⟨Γ', h1, h2⟩ := hb x
    exact ⟨Γ', h1, fun env cs hh => ⟨_, rfl, rfl⟩, h2⟩)
  simp only [lcf_true] at this
  exact this
/-- a dict's comprehension -/
def dcR {α κ β : Type} [Ky κ] (k : α → R κ) (f : α → R β) : List α → Dict κ β → R (Dict κ β)
  | [], d => .ok d
  | x :: xs, d => (k x).nox.bind fun kk => (f x).nox.bind fun v => dcR k f xs (d.put kk v)
theorem dcL_ok {α κ β : Type} [Kf κ] [Ty β] {en : α → P} {ok : Cells → Bool} {gt : DGn} {fk fe : DEn} {k : α → R κ} {f : α → R β} {env : Env} {cs : Cells} (hh : Hold base n Γ env cs) (hok : ok cs = true)
    (hb : ∀ x, ∃ Γ', TG base n gt (en x) Γ Γ' ∧ TE K base n Γ' (qP K) fk (k x) ∧ TE K base n Γ' (qP K) fe (f x)) : ∀ (L : List α) (d : Dict κ β), ER K (qF K) cs (dDcL ok gt dYes fk fe env (L.map en) cs (d.l.map fun q => (Ky.key q.1, enc K q.2))) (dcR k f L d)
  | [], d => by
    rw [List.map_nil, dDcL, if_pos hok, dcR]
    exact ⟨_, rfl, rfl⟩
  | x :: L, d => by
    rw [List.map_cons, dDcL, if_pos hok, dcR]
    obtain ⟨Γ', h1, h2, h3⟩ := hb x
    obtain ⟨e, w1, w2⟩ := h1 env cs hh
    rw [w1]
    dsimp only [dYes]
    have z2 := h2 e cs w2
    have z3 := h3 e cs w2
    cases hc : k x with
    | ok kk =>
      rw [hc] at z2
      obtain ⟨b', e1, e2⟩ := z2
      have e2 : b' = enc K kk := e2
      subst e2
      rw [e1]
      dsimp only
      rw [Kf.same, Ky.ok]
      dsimp only
      cases hf : f x with
      | ok y =>
        rw [hf] at z3
        obtain ⟨p, e3, e4⟩ := z3
        have e4 : p = enc K y := e4
        subst e4
        rw [e3]
        dsimp only
        rw [putP_map]
        exact dcL_ok hh hok hb L (d.put kk y)
      | ex x => trivial
      | stuck => trivial
    | ex x => trivial
    | stuck => trivial
theorem te_dc {α κ β : Type} [Kf κ] [Ty β] {en : α → P} {T : List Nat} {fi : DIn} {gt : DGn} {fk fe : DEn} {ti : R (List α)} {k : α → R κ} {f : α → R β} (hi : TE K base n Γ (qI K base en) fi ti)
    (hb : ∀ x, ∃ Γ', TG base n gt (en x) (dropE T Γ) Γ' ∧ TE K base n Γ' (qP K) fk (k x) ∧ TE K base n Γ' (qP K) fe (f x)) : TE K base n Γ (qF K) (dDc T fi gt dYes fk fe) (ti.bind fun L => if L.length ≤ sizeLine then dcR k f L ⟨[]⟩ else .stuck) := by
  unfold dDc
  exact hi.bind fun L env cs p hh z => by
    obtain ⟨z1, z2⟩ := z
    rw [z1]
    by_cases hl : L.length ≤ sizeLine
    · rw [if_pos (by rw [List.length_map]; exact hl), if_pos hl]
      exact dcL_ok ((hh.sub dropE_sub).wipe dropE_none) (z2 cs hh.pre) hb L ⟨[]⟩
    · rw [if_neg hl]
      trivial
end
end TL

namespace TL
open PySem L2 DL
open Ty (enc)
open Mt (co)
/-! ### while -/
def whR {σ ρ : Type} (c : σ → R Bool) (b : σ → R (Lp σ ρ)) : Nat → σ → R (Lp σ ρ)
  | 0, _ => .stuck
  | k + 1, s => match c s with
    | .ok true => (match b s with
      | .ok (.nx s) => whR c b k s
      | .ok (.bk s) => .ok (.bk s)
      | .ok (.rt r) => .ok (.rt r)
      | .ex x => .ex x
      | .stuck => .stuck)
    | .ok false => .ok (.nx s)
    | .ex x => .ex x
    | .stuck => .stuck
noncomputable def whileR {σ ρ : Type} (c : σ → R Bool) (b : σ → R (Lp σ ρ)) (s : σ) : R (Lp σ ρ) := open Classical in if h : ∃ k, whR c b k s ≠ .stuck then whR c b h.choose s else .stuck
theorem whR_mono {σ ρ : Type} {c : σ → R Bool} {b : σ → R (Lp σ ρ)} : ∀ {k m : Nat} {s : σ}, k ≤ m → whR c b k s ≠ .stuck → whR c b m s = whR c b k s
  | 0, _, _, _, h => absurd rfl h
  | k + 1, 0, _, h, _ => by omega
  | k + 1, m + 1, s, h, hn => by
    rw [whR] at hn ⊢
    rw [whR]
    cases hc : c s with
    | ok z =>
      rw [hc] at hn
      cases z with
      | true =>
        dsimp only at hn ⊢
        cases hb : b s with
        | ok l =>
          rw [hb] at hn
          cases l with
          | nx s' => exact whR_mono (by omega) hn
          | bk s' => rfl
          | rt r => rfl
        | ex x => rfl
        | stuck => rfl
      | false => rfl
    | ex x => rfl
    | stuck => rfl
theorem whileR_eq {σ ρ : Type} {c : σ → R Bool} {b : σ → R (Lp σ ρ)} {k : Nat} {s : σ} (h : whR c b k s ≠ .stuck) : whileR c b s = whR c b k s := by
  have he : ∃ k, whR c b k s ≠ .stuck := ⟨k, h⟩
  unfold whileR
  rw [dif_pos he]
  rcases Nat.le_total k he.choose with q | q
  · exact whR_mono q h
  · exact (whR_mono q he.choose_spec).symm
section
variable {K : Fg} {base : Cells} {n : Nat} {Γ : Ents}
theorem wh_lg {σ τ : Type} {td : DTn} {body : DSn} {Γl : σ → Ents} {Q : Post τ} {c : σ → R Bool} {b : σ → R (Lp σ τ)} (hc : ∀ s, TE K base n (Γl s) qB td (c s)) (hx : ∀ s, HX base n (Γl s) Q (c s)) (hb : ∀ s, TB K base n (Γl s) body (Post.lg base n Γl Q) (b s)) : ∀ (k : Nat) {s : σ} {env : Env} {cs : Cells}, Hold base n (Γl s) env cs → whR c b k s ≠ .stuck → dWh td body k env cs ≠ .stuck ∧
    (BR K (Post.je base n Γl Q) (dWh td body k env cs) (whR c b k s) ∨ ∃ s' e c', dWh td body k env cs = .nx e c' ∧ whR c b k s = .ok (.bk s') ∧ Hold base n (Γl s') e c')
  | 0, s, env, cs, hh, hn => absurd rfl hn
  | k + 1, s, env, cs, hh, hn => by
    rw [whR] at hn ⊢
    rw [dWh]
    have z := hc s env cs hh
    cases q : c s with
    | ok a =>
      rw [q] at z hn
      obtain ⟨a', e1, e2⟩ := z
      have e2 : a' = a := e2
      subst e2
      rw [e1]
      cases a' with
      | true =>
        dsimp only at hn ⊢
        have w := hb s env cs hh
        rcases w with w | w
        · rw [w] at hn; exact absurd rfl hn
        · cases qb : body env cs with
          | nx e2 c2 => rw [qb] at w; obtain ⟨s', u1, u2⟩ := w; rw [u1] at hn ⊢; exact wh_lg hc hx hb k u2 hn
          | ct e2 c2 => rw [qb] at w; obtain ⟨s', u1, u2⟩ := w; rw [u1] at hn ⊢; exact wh_lg hc hx hb k u2 hn
          | bk e2 c2 => rw [qb] at w; obtain ⟨s', u1, u2⟩ := w; rw [u1]; exact ⟨(fun h => nomatch h), .inr ⟨s', _, _, rfl, rfl, u2⟩⟩
          | rt e2 c2 => rw [qb] at w; obtain ⟨s', u1, u2⟩ := w; rw [u1]; exact ⟨(fun h => nomatch h), .inl (.inr ⟨s', rfl, u2⟩)⟩
          | ex e2 v c2 => rw [qb] at w; obtain ⟨x, u1, u2, u3⟩ := w; rw [u1]; exact ⟨(fun h => nomatch h), .inl (.inr ⟨x, rfl, u2, u3⟩)⟩
          | stuck => rw [qb] at w; exact w.elim
      | false => exact ⟨(fun h => nomatch h), .inl (.inr ⟨s, rfl, hh⟩)⟩
    | ex x =>
      rw [q] at z
      rw [show td env cs = _ from z]
      exact ⟨(fun h => nomatch h), .inl (.inr ⟨x, rfl, rfl, hx s ⟨x, q⟩ _ _ hh⟩)⟩
    | stuck => rw [q] at hn; exact absurd rfl hn
theorem tb_while {σ τ : Type} {td : DTn} {body g : DSn} {Q : Post τ} {c : σ → R Bool} {b : σ → R (Lp σ τ)} {k : σ → R τ} (Γl : σ → Ents) (s0 : σ) (hs : Sub (Γl s0) Γ) (hc : ∀ s, TE K base n (Γl s) qB td (c s)) (hx : ∀ s, HX base n (Γl s) Q (c s)) (hb : ∀ s, TB K base n (Γl s) body (Post.lg base n Γl Q) (b s))
    (hk : ∀ s, TB K base n (Γl s) g Q (k s)) : TB K base n Γ (dSeq (dWhile td body) g) Q ((whileR c b s0).then k) := fun env cs hh => by
  open Classical in
  by_cases he : ∃ k, whR c b k s0 ≠ .stuck
  · obtain ⟨m, hm⟩ := he
    rw [whileR_eq hm]
    obtain ⟨h1, h2⟩ := wh_lg hc hx hb m (hh.sub hs) hm
    rw [e_seq, dWhile_eq h1]
    rcases h2 with w | ⟨s, e, c, w1, w2, w3⟩
    · rcases w with w | w
      · exact absurd w hm
      · cases q : dWh td body m env cs with
        | nx e c => rw [q] at w; obtain ⟨s, w1, w2⟩ := w; rw [w1]; exact hk s _ _ w2
        | ct e c => rw [q] at w; obtain ⟨s, w1, w2⟩ := w; rw [w1]; exact .inr w2
        | bk e c => rw [q] at w; obtain ⟨s, w1, w2⟩ := w; rw [w1]; exact .inr w2
        | rt e c => rw [q] at w; obtain ⟨s, w1, w2⟩ := w; rw [w1]; exact .inr w2
        | ex e v c => rw [q] at w; obtain ⟨x, w1, w2, w3⟩ := w; rw [w1]; exact .inr ⟨x, rfl, w2, w3⟩
        | stuck => rw [q] at w; exact w.elim
    · rw [w1, w2]
      exact hk s _ _ w3
  · left
    unfold whileR
    rw [dif_neg he]
    rfl
end
/-! ### changes of a list or a dict of one's own -/
section
variable {K : Fg} {base : Cells} {n : Nat} {Γ : Ents}
/-- the kind of object -/
def OfT (K : Fg) (M : Type) [Mt M] (T : String) : Prop := ∀ (cs : Cells) (m : Nat) (a : M), cs[m]? = some (co K a) → tyc T cs (.cell m) = true
theorem of_list {α : Type} [Ty α] : OfT K (List α) "list" := fun cs m a h => by
  have h : cs[m]? = some (.lst (a.map (enc K))) := h
  simp only [tyc, DL.lstk, DL.lstc, h]
  rfl
theorem of_dict {κ α : Type} [Ky κ] [Ty α] : OfT K (Dict κ α) "dict" := fun cs m a h => by
  have h : cs[m]? = some (.dK (a.l.map fun q => (Ky.key q.1, enc K q.2))) := h
  simp only [tyc, DL.dkc, h]
  rfl
/-- a method of one argument that changes its object and answers None -/
def OpM1 (K : Fg) {M β : Type} [Mt M] (q : Cells → β → P → Prop) (g : GM) (op : M → β → R M) : Prop := ∀ cs m a b r, cs[m]? = some (co K a) → q cs b r → match op a b with
  | .ok a' => g (.cell m) [r] cs = .ok .non (cs.set m (co K a'))
  | .ex _ => False
  | .stuck => True
def OpM0 (K : Fg) {M : Type} [Mt M] (g : GM) (op : M → R M) : Prop := ∀ cs m a, cs[m]? = some (co K a) → match op a with
  | .ok a' => g (.cell m) [] cs = .ok .non (cs.set m (co K a'))
  | .ex _ => False
  | .stuck => True
theorem tb_mth1 {M β τ : Type} [Mt M] {q : Cells → β → P → Prop} {T : String} {gm : GM} {op : M → β → R M} (ty : OfT K M T) (o : OpM1 K q gm op) {i : Nat} {mo : Option Nat} (a : M) {f : DEn} {g : DSn} {Q : Post τ} {t : R β} {l : M → R τ} (hi : getE Γ i = some (.o mo (co K a))) (h : TE K base n Γ q f t) (hx : HX base n Γ Q t)
    (hk : ∀ a', TB K base n ((i, .o mo (co K a')) :: Γ) g Q (l a')) : TB K base n Γ (dSeq (dDrop (dMth T gm (dVar i) (dCons f dNil))) g) Q (t.bind fun b => (op a b).bind l) := fun env cs hh => by
  have z := h env cs hh
  obtain ⟨m0, w1, _, w3, _⟩ := hh.at' i _ hi
  rw [e_seq, e_drop]
  unfold dMth
  rw [e_var w1]
  simp only [Rs.bind_ok, e_cons, e_nil]
  rw [if_pos (ty cs m0 a w3)]
  cases t with
  | ok b =>
    obtain ⟨p, e, y⟩ := z
    rw [e]
    have := o cs m0 a b p w3 y
    simp only [Rs.bind_ok, R.bind_ok]
    cases ho : op a b with
    | ok a' =>
      rw [ho] at this
      obtain ⟨m, u1, u2, u3⟩ := hh.put (c' := co K a') hi (fun m => Mt.cloC K m a')
      have hm : m = m0 := by rw [u1] at w1; cases w1; rfl
      subst hm
      have this : gm _ _ _ = _ := this
      rw [this]
      exact hk a' _ _ u3
    | ex x => rw [ho] at this; exact this.elim
    | stuck => exact .inl rfl
  | ex x =>
    have z : _ = _ := z
    rw [z]
    exact .inr ⟨x, rfl, rfl, hx ⟨x, rfl⟩ _ _ hh⟩
  | stuck => exact .inl rfl
theorem tb_mth0 {M τ : Type} [Mt M] {T : String} {gm : GM} {op : M → R M} (ty : OfT K M T) (o : OpM0 K gm op) {i : Nat} {mo : Option Nat} (a : M) {g : DSn} {Q : Post τ} {l : M → R τ} (hi : getE Γ i = some (.o mo (co K a)))
    (hk : ∀ a', TB K base n ((i, .o mo (co K a')) :: Γ) g Q (l a')) : TB K base n Γ (dSeq (dDrop (dMth0 T gm (dVar i))) g) Q ((op a).bind l) := fun env cs hh => by
  obtain ⟨m0, w1, _, w3, _⟩ := hh.at' i _ hi
  rw [e_seq, e_drop]
  unfold dMth0
  rw [e_var w1]
  simp only [Rs.bind_ok]
  rw [if_pos (ty cs m0 a w3)]
  have := o cs m0 a w3
  cases ho : op a with
  | ok a' =>
    rw [ho] at this
    obtain ⟨m, u1, u2, u3⟩ := hh.put (c' := co K a') hi (fun m => Mt.cloC K m a')
    have hm : m = m0 := by rw [u1] at w1; cases w1; rfl
    subst hm
    have this : gm _ _ _ = _ := this
    rw [this]
    exact hk a' _ _ u3
  | ex x => rw [ho] at this; exact this.elim
  | stuck => exact .inl rfl
open Classical in
@[irreducible] noncomputable def appR {α : Type} (l : List α) (a : α) : R (List α) := if l.length < sizeLine then .ok (l ++ [a]) else .stuck
open Classical in
@[irreducible] noncomputable def extR {α : Type} (l m : List α) : R (List α) := if l.length + m.length ≤ sizeLine then .ok (l ++ m) else .stuck
theorem lcell_co {α : Type} [Ty α] {cs : Cells} {m : Nat} {a : List α} (h : cs[m]? = some (co K a)) : DL.lcell cs (.cell m) = some (m, a.map (enc K)) := by
  have h : cs[m]? = some (.lst (a.map (enc K))) := h
  simp only [DL.lcell, h]
theorem m_append {α : Type} [Ty α] : OpM1 K (qP K) gAppend (appR (α := α)) := fun cs m a b r h e => by
  subst e
  unfold appR
  by_cases z : a.length < sizeLine
  · rw [if_pos z]
    show gAppend (.cell m) [enc K b] cs = _
    unfold gAppend
    rw [lcell_co h]
    dsimp only
    rw [if_pos (by rw [List.length_map]; exact z)]
    show _ = Rs.ok P.non (cs.set m (CO.lst ((a ++ [b]).map (enc K))))
    rw [List.map_append]
    rfl
  · rw [if_neg z]
    trivial
theorem m_extend {α : Type} [Ty α] : OpM1 K (qR K) gExtend (extR (α := α)) := fun cs m a b r h e => by
  unfold extR
  by_cases z : a.length + b.length ≤ sizeLine
  · rw [if_pos z]
    show gExtend (.cell m) [r] cs = _
    unfold gExtend
    rw [lcell_co h]
    dsimp only
    rw [e.lstc]
    dsimp only
    rw [if_pos (by rw [List.length_map, List.length_map]; exact z)]
    show _ = Rs.ok P.non (cs.set m (CO.lst ((a ++ b).map (enc K))))
    rw [List.map_append]
  · rw [if_neg z]
    trivial
theorem m_reverse {α : Type} [Ty α] : OpM0 K gReverse fun (l : List α) => .ok l.reverse := fun cs m a h => by
  show gReverse (.cell m) [] cs = _
  unfold gReverse
  rw [lcell_co h]
  show _ = Rs.ok P.non (cs.set m (CO.lst (a.reverse.map (enc K))))
  rw [List.map_reverse]
theorem m_clear {α : Type} [Ty α] : OpM0 K gClear fun (l : List α) => .ok ([] : List α) := fun cs m a h => by
  show gClear (.cell m) [] cs = _
  unfold gClear
  rw [lcell_co h]
  rfl
/-- x = xs.pop() -/
@[irreducible] def popR {α : Type} (l : List α) : R (T2 α (List α)) := match l[l.length - 1]? with
  | some a => .ok ⟨a, l.dropLast⟩
  | none => .stuck
theorem tb_pop {α τ : Type} [Ty α] {i j : Nat} {mo : Option Nat} (a : List α) {g : DSn} {Q : Post τ} {l : T2 α (List α) → R τ} (hj : j < n) (hi : getE Γ i = some (.o mo (co K a)))
    (hk : ∀ s : T2 α (List α), TB K base n ((j, .v (enc K s.a)) :: (i, .o mo (co K s.b)) :: Γ) g Q (l s)) : TB K base n Γ (dSeq (dSet j (dMth0 "list" gPop (dVar i))) g) Q ((popR a).bind l) := fun env cs hh => by
  obtain ⟨m0, w1, _, w3, _⟩ := hh.at' i _ hi
  rw [e_seq, e_set]
  unfold dMth0
  rw [e_var w1]
  simp only [Rs.bind_ok]
  rw [if_pos (of_list (K := K) cs m0 a w3)]
  unfold popR
  cases ho : a[a.length - 1]? with
  | some x =>
    obtain ⟨m, u1, u2, u3⟩ := hh.put (c' := co K a.dropLast) hi (fun m => Mt.cloC K m _)
    have hm : m = m0 := by rw [u1] at w1; cases w1; rfl
    subst hm
    have : gPop (.cell m) [] cs = .ok (enc K x) (cs.set m (co K a.dropLast)) := by
      unfold gPop
      rw [lcell_co w3]
      dsimp only
      rw [List.length_map, List.getElem?_map, ho]
      show Rs.ok (enc K x) (cs.set m (CO.lst (a.map (enc K)).dropLast)) = _
      rw [← List.map_dropLast]
      rfl
    rw [this]
    exact hk ⟨x, a.dropLast⟩ _ _ (u3.set hj)
  | none => exact .inl rfl
/-- xs[i] = e -/
@[irreducible] def putR {α : Type} (l : List α) (i : Int) (a : α) : R (List α) := match ixN l.length i with
  | some j => .ok (l.set j a)
  | none => .stuck
open Classical in
@[irreducible] noncomputable def dputR {κ α : Type} [Ky κ] (d : Dict κ α) (k : κ) (a : α) : R (Dict κ α) := if d.l.length < sizeLine then .ok (d.put k a) else .stuck
def OpP (K : Fg) {M κ β : Type} [Mt M] [Ty κ] [Ty β] (op : M → κ → β → R M) : Prop := ∀ (cs : Cells) (m : Nat) (a : M) (k : κ) (b : β), cs[m]? = some (co K a) → match op a k b with
  | .ok a' => putC cs (.cell m) (enc K k) (enc K b) = some (cs.set m (co K a'))
  | .ex _ => False
  | .stuck => True
theorem p_lst {α : Type} [Ty α] : OpP K (putR (α := α)) := fun cs m a k b h => by
  unfold putR
  cases e : ixN a.length k with
  | some j =>
    show putC cs (.cell m) (.int k) (enc K b) = _
    have h : cs[m]? = some (.lst (a.map (enc K))) := h
    simp only [putC, h, List.length_map, e]
    rw [← List.map_set]
    rfl
  | none => trivial
theorem p_dct {κ α : Type} [Kf κ] [Ty α] : OpP K (dputR (κ := κ) (α := α)) := fun cs m a k b h => by
  unfold dputR
  by_cases z : a.l.length < sizeLine
  · rw [if_pos z]
    show putC cs (.cell m) (enc K k) (enc K b) = _
    have h : cs[m]? = some (.dK (a.l.map fun q => (Ky.key q.1, enc K q.2))) := h
    rw [Kf.same]
    simp only [putC, h, Ky.ok]
    rw [if_pos (by rw [List.length_map]; exact z), putP_map]
    rfl
  · rw [if_neg z]
    trivial
theorem tb_put {M κ β τ : Type} [Mt M] [Ty κ] [Ty β] {op : M → κ → β → R M} (o : OpP K op) {i : Nat} {mo : Option Nat} (a : M) {fk fv : DEn} {g : DSn} {Q : Post τ} {tk : R κ} {tv : R β} {l : M → R τ} (hi : getE Γ i = some (.o mo (co K a))) (hv : TE K base n Γ (qP K) fv tv) (hxv : HX base n Γ Q tv) (hki : TE K base n Γ (qP K) fk tk) (hxk : HX base n Γ Q tk)
    (hk : ∀ a', TB K base n ((i, .o mo (co K a')) :: Γ) g Q (l a')) : TB K base n Γ (dSeq (dPutS (dVar i) fk fv) g) Q (tv.bind fun v => tk.bind fun k => (op a k v).bind l) := by
  unfold dPutS
  rw [seq_to]
  refine TB.of hv hxv fun v env cs p hh z => ?_
  subst z
  obtain ⟨m0, w1, _, w3, _⟩ := hh.at' i _ hi
  rw [seq_to]
  have zk := hki env cs hh
  rw [e_to, e_var w1, Rs.toO_ok, seq_to, e_to]
  cases tk with
  | ok k =>
    obtain ⟨pk, e, y⟩ := zk
    have y : pk = enc K k := y
    subst y
    rw [e, Rs.toO_ok, R.bind_ok, e_seq]
    have := o cs m0 a k v w3
    cases ho : op a k v with
    | ok a' =>
      rw [ho] at this
      obtain ⟨m, u1, u2, u3⟩ := hh.put (c' := co K a') hi (fun m => Mt.cloC K m a')
      have hm : m = m0 := by rw [u1] at w1; cases w1; rfl
      subst hm
      have this : putC _ _ _ _ = _ := this
      rw [this]
      exact hk a' _ _ u3
    | ex x => rw [ho] at this; exact this.elim
    | stuck => exact .inl rfl
  | ex x => rw [show fk env cs = _ from zk]; exact .inr ⟨x, rfl, rfl, hxk ⟨x, rfl⟩ _ _ hh⟩
  | stuck => exact .inl rfl
/-- xs[i] op= e -/
def OpG (K : Fg) {M κ β : Type} [Mt M] [Ty κ] [Ty β] (get : M → κ → R β) : Prop := ∀ (cs : Cells) (m : Nat) (a : M) (k : κ), cs[m]? = some (co K a) → match get a k with
  | .ok b => gGet (.cell m) (enc K k) cs = .ok (enc K b) cs
  | .ex _ => False
  | .stuck => True
theorem g_lst {α : Type} [Ty α] : OpG K (ixL (α := α)) := fun cs m a k h => by
  unfold ixL
  cases e : atI a k with
  | some b =>
    show gGet (.cell m) (.int k) cs = _
    have h : cs[m]? = some (.lst (a.map (enc K))) := h
    simp [gGet, orG, DL.lstk, DL.lstc, h, atI_map, e]
  | none => trivial
theorem g_dct {κ α : Type} [Kf κ] [Ty α] : OpG K (ixD (κ := κ) (α := α)) := fun cs m a k h => by
  unfold ixD
  cases e : a.get? k with
  | some b =>
    show gGet (.cell m) (enc K k) cs = _
    have hr : qR K cs a (.cell m) := .inr ⟨m, rfl, h⟩
    have h : cs[m]? = some (.dK (a.l.map fun q => (Ky.key q.1, enc K q.2))) := h
    have g1 : ∀ f : Rs P, orG (fun x y cs => match y with
      | .int i => (match DL.lstk cs x with
        | some xs => (match atI xs i with
          | some d => Rs.ok d cs
          | none => .stuck)
        | none => .stuck)
      | _ => .stuck) gIxD (.cell m) (enc K k) cs = gIxD (.cell m) (enc K k) cs := fun _ => by
      have : DL.lstk cs (.cell m) = none := by simp only [DL.lstk, DL.lstc, h]
      rw [Kf.same]
      unfold orG
      dsimp only
      rw [this]
      split
      · rfl
      · rename_i o ho
        split at ho <;> exact absurd rfl ho
    refine (g1 .stuck).trans ?_
    unfold gIxD
    rw [Kf.same, dget_R hr, e]
    rfl
  | none => trivial
theorem tb_augS {M κ β γ τ : Type} [Mt M] [Ty κ] [Ty β] [Ty γ] {get : M → κ → R β} {op : M → κ → β → R M} {ga : G2} {opa : β → γ → R β} (og : OpG K get) (oa : Op2 K (qP K) (qP K) (qP K) ga opa) (o : OpP K op) {i : Nat} {mo : Option Nat} (a : M) {fk fv : DEn} {g : DSn} {Q : Post τ} {tk : R κ} {tv : R γ} {l : M → R τ} (hi : getE Γ i = some (.o mo (co K a))) (hki : TE K base n Γ (qP K) fk tk) (hxk : HX base n Γ Q tk) (hv : TE K base n Γ (qP K) fv tv) (hxv : HX base n Γ Q tv)
    (hxa : ∀ b v x, opa b v ≠ .ex x) (hk : ∀ a', TB K base n ((i, .o mo (co K a')) :: Γ) g Q (l a')) : TB K base n Γ (dSeq (dAugS ga (dVar i) fk fv) g) Q (tk.bind fun k => (get a k).bind fun b => tv.bind fun v => (opa b v).bind fun c => (op a k c).bind l) := fun env cs hh => by
  obtain ⟨m0, w1, _, w3, _⟩ := hh.at' i _ hi
  unfold dAugS
  rw [seq_to, e_to, e_var w1, Rs.toO_ok, seq_to, e_to]
  have zk := hki env cs hh
  have zv := hv env cs hh
  cases tk with
  | ok k =>
    obtain ⟨pk, e, y⟩ := zk
    have y : pk = enc K k := y
    subst y
    rw [e, Rs.toO_ok, R.bind_ok, seq_to, e_to]
    have zg := og cs m0 a k w3
    cases hg : get a k with
    | ok b =>
      rw [hg] at zg
      have zg : gGet _ _ _ = _ := zg
      rw [zg, Rs.toO_ok, R.bind_ok, seq_to, e_to]
      cases tv with
      | ok v =>
        obtain ⟨pv, e, y⟩ := zv
        have y : pv = enc K v := y
        subst y
        rw [e, Rs.toO_ok, R.bind_ok, seq_to, e_to]
        have za := oa cs b v _ _ rfl rfl
        cases ha : opa b v with
        | ok c =>
          rw [ha] at za
          obtain ⟨pc, e, y⟩ := za
          have y : pc = enc K c := y
          subst y
          rw [e, Rs.toO_ok, R.bind_ok, e_seq]
          have := o cs m0 a k c w3
          cases ho : op a k c with
          | ok a' =>
            rw [ho] at this
            obtain ⟨m, u1, u2, u3⟩ := hh.put (c' := co K a') hi (fun m => Mt.cloC K m a')
            have hm : m = m0 := by rw [u1] at w1; cases w1; rfl
            subst hm
            have this : putC _ _ _ _ = _ := this
            rw [this]
            exact hk a' _ _ u3
          | ex x => rw [ho] at this; exact this.elim
          | stuck => exact .inl rfl
        | ex x => exact absurd ha (hxa b v x)
        | stuck => exact .inl rfl
      | ex x => rw [show fv env cs = _ from zv]; exact .inr ⟨x, rfl, rfl, hxv ⟨x, rfl⟩ _ _ hh⟩
      | stuck => exact .inl rfl
    | ex x => rw [hg] at zg; exact zg.elim
    | stuck => exact .inl rfl
  | ex x => rw [show fk env cs = _ from zk]; exact .inr ⟨x, rfl, rfl, hxk ⟨x, rfl⟩ _ _ hh⟩
  | stuck => exact .inl rfl
/-- x op= e, a name -/
theorem tb_aug {α β γ τ : Type} [Ty α] [Ty γ] {q : Cells → β → P → Prop} {ga : G2} {op : α → β → R γ} (o : Op2 K (qP K) q (qP K) ga op) {i : Nat} (a : α) {f : DEn} {g : DSn} {Q : Post τ} {t : R β} {l : γ → R τ} (hi : i < n) (hv : getE Γ i = some (.v (enc K a))) (h : TE K base n Γ q f t) (hx : HX base n Γ Q t) (hxo : ∀ b x, op a b ≠ .ex x)
    (hk : ∀ c, TB K base n ((i, .v (enc K c)) :: Γ) g Q (l c)) : TB K base n Γ (dSeq (dAug ga i f) g) Q (t.bind fun b => (op a b).bind l) := fun env cs hh => by
  have e1 : env[i]? = some (some (enc K a)) := hh.at' i _ hv
  rw [e_seq]
  unfold dAug
  rw [e1]
  dsimp only
  rw [e_to]
  have z := h env cs hh
  cases t with
  | ok b =>
    obtain ⟨p, e, y⟩ := z
    rw [e, Rs.toO_ok, R.bind_ok, e_to]
    have zo := o cs a b _ _ rfl y
    cases ho : op a b with
    | ok c =>
      rw [ho] at zo
      obtain ⟨pc, e, y⟩ := zo
      have y : pc = enc K c := y
      subst y
      rw [e]
      exact hk c _ _ (hh.set hi)
    | ex x => exact absurd ho (hxo b x)
    | stuck => exact .inl rfl
  | ex x => rw [show f env cs = _ from z]; exact .inr ⟨x, rfl, rfl, hx ⟨x, rfl⟩ _ _ hh⟩
  | stuck => exact .inl rfl
/-- the sum that += makes: of ints, of texts -/
theorem o_aadd : Op2 K (qP K) (qP K) (qP K) (orG (gI (fun _ _ => true) fun i j => .int (i + j)) gStr) fun (i j : Int) => .ok (i + j) := op2_of fun cs a b p r h1 h2 => by subst h1 h2; rfl
theorem o_aaddS : Op2 K (qP K) (qP K) (qP K) (orG (gI (fun _ _ => true) fun i j => .int (i + j)) gStr) catS := by
  unfold catS
  refine op2_if fun cs a b p r h1 h2 z => ?_
  subst h1 h2
  show orG _ gStr (P.str a) (.str b) cs = _
  simp only [orG, gI, gStr]
  rw [if_pos z]
  rfl
theorem noex_ok {α β γ : Type} {f : α → β → γ} : ∀ a b x, (fun a b => R.ok (f a b)) a b ≠ .ex x := fun _ _ _ h => nomatch h
/-- a list of one's own is not changed any more -/
theorem tb_fz {M τ : Type} [Mt M] {i : Nat} {mo : Option Nat} (a : M) {g : DSn} {Q : Post τ} {t : R τ} (hi : i < n) (hv : getE Γ i = some (.o mo (co K a))) (hk : TB K base n ((i, .v (enc K a)) :: Γ) g Q t) : TB K base n Γ (dFz i g) Q t := fun env cs hh => by
  obtain ⟨m, u1, u2, u3⟩ := hh.put (c' := .dead) hv (fun m => by simp only [cloC])
  unfold dFz
  rw [u1]
  dsimp only
  rw [u2]
  dsimp only
  rw [Mt.pub]
  dsimp only
  have := u3.set (i := i) (p := enc K a) hi
  refine hk _ _ (this.sub fun j e q => ?_)
  by_cases z : i = j
  · subst z
    rw [getE_same] at q ⊢
    exact q
  · rw [getE_ne z] at q ⊢
    rw [getE_ne z]
    exact q
theorem enc_ncell {α : Type} [Ty α] {K : Fg} (a : α) (m : Nat) : enc K a ≠ .cell m := fun e => by
  have := Ty.clo K 0 a
  rw [e] at this
  simp only [clo] at this
  omega
theorem tb_fzP {α τ : Type} [Ty α] {i : Nat} (a : α) {g : DSn} {Q : Post τ} {t : R τ} (hv : getE Γ i = some (.v (enc K a))) (hk : TB K base n Γ g Q t) : TB K base n Γ (dFz i g) Q t := fun env cs hh => by
  have e : env[i]? = some (some (enc K a)) := hh.at' i _ hv
  unfold dFz
  rw [e]
  have := enc_ncell (K := K) a
  cases q : enc K a with
  | cell m => exact absurd q (this m)
  | _ => exact hk env cs hh
/-! ### try -/
def tryR {τ : Type} (t : R τ) (sel : Str → Option Bool) (h : TX → R τ) : R τ := match t with
  | .ex x => (match sel x.n with
    | some true => h x
    | some false => .ex x
    | none => .stuck)
  | t => t
def Post.sfx {τ : Type} (i : Nat) (Q : Post τ) : Post τ where
  nx e c t := Q.nx (e.set i none) c t
  rt := Q.rt
  bk e c t := Q.bk (e.set i none) c t
  ct e c t := Q.ct (e.set i none) c t
  ex _ _ := False
def Post.tr (base : Cells) (n : Nat) {τ : Type} (Γx : Ents) (Q : Post τ) : Post τ := { Q with ex := fun e c => Hold base n Γx e c }
/-- an error that a try lets by -/
def Sel (K : Fg) (sel : Str → Option Bool) (C : Value) : Prop := ∀ n b, sel n = some b → PySem.W.exmOne K (.ref (He.ga K n)) C = some b
/-- whoever comes through has a value -/
structure Okish {τ : Type} (Q : Post τ) : Prop where
  nx : ∀ e c x, ¬ Q.nx e c (.ex x)
  rt : ∀ e c x, ¬ Q.rt e c (.ex x)
  bk : ∀ e c x, ¬ Q.bk e c (.ex x)
  ct : ∀ e c x, ¬ Q.ct e c (.ex x)
theorem ok_jn {σ τ : Type} {Γj : σ → Ents} {Q : Post τ} : Okish (Post.jn base n Γj Q) := ⟨(fun _ _ _ ⟨_, h, _⟩ => nomatch h), (fun _ _ _ h => h), (fun _ _ _ h => h), (fun _ _ _ h => h)⟩
theorem ok_je {σ τ : Type} {Γj : σ → Ents} {Q : Post τ} : Okish (Post.je base n Γj Q) := ⟨(fun _ _ _ ⟨_, h, _⟩ => nomatch h), (fun _ _ _ ⟨_, h, _⟩ => nomatch h), (fun _ _ _ ⟨_, h, _⟩ => nomatch h), (fun _ _ _ ⟨_, h, _⟩ => nomatch h)⟩
theorem ok_fn {α : Type} [Ty α] : Okish (Post.fn K base (α := α)) := ⟨(fun _ _ _ h => h), (fun _ _ _ ⟨_, _, h, _⟩ => nomatch h), (fun _ _ _ h => h), (fun _ _ _ h => h)⟩
theorem ok_fnU : Okish (Post.fnU K base) := ⟨(fun _ _ _ ⟨_, h⟩ => nomatch h), (fun _ _ _ ⟨_, h, _⟩ => nomatch h), (fun _ _ _ h => h), (fun _ _ _ h => h)⟩
theorem ok_fnO {α : Type} [Ty α] : Okish (Post.fnO K base (α := α)) := ⟨(fun _ _ _ ⟨_, h⟩ => nomatch h), (fun _ _ _ ⟨_, _, h, _⟩ => nomatch h), (fun _ _ _ h => h), (fun _ _ _ h => h)⟩
theorem ok_tr {τ : Type} {Γx : Ents} {Q : Post τ} (h : Okish Q) : Okish (Q.tr base n Γx) := ⟨h.nx, h.rt, h.bk, h.ct⟩
theorem tryR_ok {τ : Type} {t : R τ} {sel : Str → Option Bool} {h : TX → R τ} (z : ∀ x, t ≠ .ex x) : tryR t sel h = t := by
  cases t with
  | ex x => exact absurd rfl (z x)
  | _ => rfl
theorem tb_try {τ : Type} {i : Nat} {C : Value} {sel : Str → Option Bool} {fb fs : DSn} {Q : Post τ} {Γx : Ents} {t : R τ} {h : TX → R τ} (hok : Okish Q) (hi : i < n) (hs : Sel K sel C) (hq : ∀ e c, Hold base n Γx e c → Q.ex e c) (hb : TB K base n Γ fb (Q.tr base n Γx) t) (hh : ∀ x, sel x.n = some true → TB K base n ((i, .v (enc K x)) :: Γx) fs (Q.sfx i) (h x)) : TB K base n Γ (dTry K C i fb fs) Q (tryR t sel h) := fun env cs hd => by
  have := hb env cs hd
  unfold dTry
  rcases this with z | z
  · rw [z]; exact .inl rfl
  · cases q : fb env cs with
    | nx e c => rw [q] at z; rw [tryR_ok (fun x y => by rw [y] at z; exact hok.nx _ _ _ z)]; exact .inr z
    | rt d c => rw [q] at z; rw [tryR_ok (fun x y => by rw [y] at z; exact hok.rt _ _ _ z)]; exact .inr z
    | bk e c => rw [q] at z; rw [tryR_ok (fun x y => by rw [y] at z; exact hok.bk _ _ _ z)]; exact .inr z
    | ct e c => rw [q] at z; rw [tryR_ok (fun x y => by rw [y] at z; exact hok.ct _ _ _ z)]; exact .inr z
    | ex e v c =>
      rw [q] at z
      obtain ⟨x, w1, w2, w3⟩ := z
      rw [w1, w2]
      unfold tryR
      dsimp only
      cases hx : sel x.n with
      | none => exact .inl rfl
      | some b =>
        have e1 : PySem.W.exmOne K (.ref (enX K x).C) C = some b := hs _ _ hx
        rw [e1]
        cases b with
        | true =>
          have w3 : Hold base n Γx v c := w3
          dsimp only
          rw [if_pos (by rw [w3.len]; exact hi)]
          have w4 := hh x hx _ _ (w3.set (p := enc K x) hi)
          have w5 : enc K x = .exn (enX K x).C (enX K x).fs := rfl
          rw [w5] at w4
          rcases w4 with w4 | w4
          · exact .inl w4
          · cases q2 : fs (v.set i (some (.exn (enX K x).C (enX K x).fs))) c with
            | nx e c => rw [q2] at w4; exact .inr w4
            | rt e c => rw [q2] at w4; exact .inr w4
            | bk e c => rw [q2] at w4; exact .inr w4
            | ct e c => rw [q2] at w4; exact .inr w4
            | ex e v c => rw [q2] at w4; obtain ⟨_, _, _, w⟩ := w4; exact w.elim
            | stuck => rw [q2] at w4; exact w4.elim
        | false => exact .inr ⟨x, rfl, rfl, hq _ _ w3⟩
    | stuck => rw [q] at z; exact z.elim
def Post.sf0 {τ : Type} (Q : Post τ) : Post τ := { Q with ex := fun _ _ => False }
theorem tb_try0 {τ : Type} {C : Value} {sel : Str → Option Bool} {fb fs : DSn} {Q : Post τ} {Γx : Ents} {t : R τ} {h : TX → R τ} (hok : Okish Q) (hs : Sel K sel C) (hq : ∀ e c, Hold base n Γx e c → Q.ex e c) (hb : TB K base n Γ fb (Q.tr base n Γx) t) (hh : ∀ x, sel x.n = some true → TB K base n Γx fs Q.sf0 (h x)) : TB K base n Γ (dTry0 K C fb fs) Q (tryR t sel h) := fun env cs hd => by
  have := hb env cs hd
  unfold dTry0
  rcases this with z | z
  · rw [z]; exact .inl rfl
  · cases q : fb env cs with
    | nx e c => rw [q] at z; rw [tryR_ok (fun x y => by rw [y] at z; exact hok.nx _ _ _ z)]; exact .inr z
    | rt d c => rw [q] at z; rw [tryR_ok (fun x y => by rw [y] at z; exact hok.rt _ _ _ z)]; exact .inr z
    | bk e c => rw [q] at z; rw [tryR_ok (fun x y => by rw [y] at z; exact hok.bk _ _ _ z)]; exact .inr z
    | ct e c => rw [q] at z; rw [tryR_ok (fun x y => by rw [y] at z; exact hok.ct _ _ _ z)]; exact .inr z
    | ex e v c =>
      rw [q] at z
      obtain ⟨x, w1, w2, w3⟩ := z
      rw [w1, w2]
      unfold tryR
      dsimp only
      cases hx : sel x.n with
      | none => exact .inl rfl
      | some b =>
        have e1 : PySem.W.exmOne K (.ref (enX K x).C) C = some b := hs _ _ hx
        rw [e1]
        cases b with
        | true =>
          have w3 : Hold base n Γx v c := w3
          dsimp only
          have w4 := hh x hx _ _ w3
          rcases w4 with w4 | w4
          · exact .inl w4
          · cases q2 : fs v c with
            | nx e c => rw [q2] at w4; exact .inr w4
            | rt e c => rw [q2] at w4; exact .inr w4
            | bk e c => rw [q2] at w4; exact .inr w4
            | ct e c => rw [q2] at w4; exact .inr w4
            | ex e v c => rw [q2] at w4; obtain ⟨_, _, _, w⟩ := w4; exact w.elim
            | stuck => rw [q2] at w4; exact w4.elim
        | false => exact .inr ⟨x, rfl, rfl, hq _ _ w3⟩
    | stuck => rw [q] at z; exact z.elim
/-- isinstance of the exception that is held -/
def IsX (K : Fg) (isx : Str → Option Bool) (c : P) : Prop := ∀ n b, isx n = some b → exC K (He.ga K n) = true ∧ isXc K (He.ga K n) c = some b
@[irreducible] def isxR (isx : Str → Option Bool) (x : TX) : R Bool := match x.fs, isx x.n with
  | [], some b => .ok b
  | _, _ => .stuck
theorem te_isX {i : Nat} {x : TX} {isx : Str → Option Bool} {fc : DEn} {c : P} (hi : getE Γ i = some (.v (enc K x))) (hs : IsX K isx c) (hc : ∀ env cs, Hold base n Γ env cs → fc env cs = .ok c cs) : TE K base n Γ (qP K) (dIsX K i fc) (isxR isx x) := fun env cs hh => by
  have e1 : env[i]? = some (some (enc K x)) := hh.at' i _ hi
  unfold isxR
  split
  · rename_i b q1 q2
    obtain ⟨h1, h2⟩ := hs _ _ q2
    have e2 : enc K x = .exn (He.ga K x.n) [] := by
      show P.exn (He.ga K x.n) (x.fs.map fun f => (f.1, f.2.p)) = _
      rw [q1]
      rfl
    rw [e2] at e1
    refine ⟨.bl b, ?_, rfl⟩
    unfold dIsX
    rw [e1]
    dsimp only
    rw [hc env cs hh, Rs.bind_ok, if_pos h1, h2]
  · trivial
/-! ### isinstance of data -/
theorem te_isi {α : Type} {q : Cells → α → P → Prop} {f fc : DEn} {t : R α} {b : α → R Bool} {c : P} (hc : ∀ env cs, Hold base n Γ env cs → fc env cs = .ok c cs) (hq : ∀ cs a p, q cs a p → ER K (qP K) cs (gIsi K [p, c] cs) (b a)) (h : TE K base n Γ q f t) : TE K base n Γ (qP K) (dCallB (gIsi K) (dCons f (dCons fc dNil))) (t.bind b) := fun env cs hh => by
  have z := h env cs hh
  rw [e_call, e_cons]
  cases t with
  | ok a =>
    obtain ⟨p, e, y⟩ := z
    rw [e, Rs.bind_ok, e_cons, hc env cs hh]
    exact hq cs a p y
  | ex x => rw [show f env cs = _ from z]; exact rfl
  | stuck => trivial
/-! ### f'..' -/
open Classical in
@[irreducible] noncomputable def fmtS (y : Str) : R Str := if y.length ≤ sizeLine then .ok y else .stuck
theorem te_fmtS {f : DEn} {t : R Str} (h : TE K base n Γ (qP K) f t) : TE K base n Γ (qP K) (dFmt f) (t.bind fmtS) := h.bind fun a env cs p hh z => by
  have z : p = .str a := z
  subst z
  unfold fmtS
  dsimp only
  by_cases h : a.length ≤ sizeLine
  · rw [if_pos h, if_pos h]; exact ⟨_, rfl, rfl⟩
  · rw [if_neg h, if_neg h]; trivial
theorem te_fmtI {f : DEn} {t : R Int} (h : TE K base n Γ (qP K) f t) : TE K base n Γ (qP K) (dFmt f) (t.bind strI) := h.bind fun a env cs p hh z => by
  have z : p = .int a := z
  subst z
  unfold strI
  dsimp only
  by_cases h : a.natAbs.log2 < 1920
  · rw [if_pos h, if_pos h]; exact ⟨_, rfl, rfl⟩
  · rw [if_neg h, if_neg h]; trivial
open Classical in
noncomputable def jnR0 : List (R Str) → Str → R Str
  | [], acc => .ok acc
  | t :: ts, acc => t.bind fun y => if (acc ++ y).length ≤ sizeLine then jnR0 ts (acc ++ y) else .stuck
@[irreducible] noncomputable def jnR (ts : List (R Str)) (acc : Str) : R Str := jnR0 ts acc
open Classical in
theorem jnR_cons {t : R Str} {ts : List (R Str)} {acc : Str} : jnR (t :: ts) acc = t.bind fun y => if (acc ++ y).length ≤ sizeLine then jnR ts (acc ++ y) else .stuck := by
  unfold jnR
  rfl
theorem jnR_nil {acc : Str} : jnR [] acc = .ok acc := by
  unfold jnR
  rfl
def TJ (K : Fg) (base : Cells) (n : Nat) (Γ : Ents) (fs : List DEn) (ts : List (R Str)) : Prop := ∀ acc, TE K base n Γ (qP K) (dJn fs acc) (jnR ts acc)
theorem tj_nil : TJ K base n Γ [] [] := fun acc env cs hh => by
  rw [jnR_nil]
  exact ⟨_, rfl, rfl⟩
theorem tj_cons {f : DEn} {fs : List DEn} {t : R Str} {ts : List (R Str)} (h : TE K base n Γ (qP K) f t) (r : TJ K base n Γ fs ts) : TJ K base n Γ (f :: fs) (t :: ts) := fun acc => by
 rw [jnR_cons]
 exact h.bind fun a env cs p hh z => by
  have z : p = .str a := z
  subst z
  dsimp only
  by_cases h : (acc ++ a).length ≤ sizeLine
  · rw [if_pos h, if_pos h]; exact r _ env cs hh
  · rw [if_neg h, if_neg h]; trivial
/-! ### len(set(..)) of texts -/
theorem strs_map : ∀ l : List Str, strsP (l.map (enc K)) = some l
  | [] => rfl
  | s :: l => by
    show (match strsP (l.map (enc K)) with | some r => some (s :: r) | none => none) = _
    rw [strs_map l]
open Classical in
@[irreducible] noncomputable def setLen (l : List Str) : R Int := if l.length ≤ 4000 then .ok ((frs l l.length).length : Int) else .stuck
theorem te_lenTx {f : DEn} {t : R (List Str)} (h : TE K base n Γ (qR K) f t) : TE K base n Γ (qP K) (dLenTx f) (t.bind setLen) := h.bind fun a env cs p hh z => by
  have e : DL.lstk cs p = some (a.map (enc K)) := by
    have := z.lstc
    rcases z.orI with ⟨xs, rfl⟩ | ⟨n, rfl⟩ <;> exact this
  rw [e]
  dsimp only
  rw [strs_map]
  dsimp only
  unfold setLen
  by_cases h : a.length ≤ 4000
  · rw [if_pos h, if_pos h]; exact ⟨_, rfl, rfl⟩
  · rw [if_neg h, if_neg h]; trivial
/-! ### a < b < c -/
theorem te_chain {α β γ : Type} [Ty α] [Ty β] [Ty γ] {g g' : G2} {op : α → β → R Bool} {op' : β → γ → R Bool} (o : Op2 K (qP K) (qP K) (qP K) g op) (o' : Op2 K (qP K) (qP K) (qP K) g' op') {fa fb fc : DEn} {ta : R α} {tb : R β} {tc : R γ} (ha : TE K base n Γ (qP K) fa ta) (hb : TE K base n Γ (qP K) fb tb) (hc : TE K base n Γ (qP K) fc tc) :
    TE K base n Γ (qP K) (dChain g g' fa fb fc) (ta.bind fun a => tb.bind fun b => (op a b).bind fun z => if z = true then tc.bind fun c => op' b c else .ok false) :=
  ha.bind fun a env cs p hh z => (hb env cs hh).bind fun b r y => (o cs a b p r z y).bind fun w d x => by
    have x : d = .bl w := x
    subst x
    cases w with
    | true => exact (hc env cs hh).bind fun c d x => o' cs b c r d y x
    | false => exact ⟨_, rfl, rfl⟩
/-! ### xs[::-1] -/
theorem te_rev {α : Type} [Ty α] {f : DEn} {t : R (List α)} (h : TE K base n Γ (qR K) f t) : TE K base n Γ (qF K) (dRev f) (t.bind fun l => .ok l.reverse) := h.bind fun a env cs p hh z => by
  have e : DL.lstk cs p = some (a.map (enc K)) := by
    have := z.lstc
    rcases z.orI with ⟨xs, rfl⟩ | ⟨n, rfl⟩ <;> exact this
  rw [e]
  dsimp only
  refine ⟨_, rfl, ?_⟩
  show CO.lst _ = CO.lst _
  rw [← List.map_reverse]
end
end TL

namespace TL
open PySem L2 DL
open Ty (enc)
open Mt (co)
structure T7 (α β γ δ ε ζ η : Type) where
  a : α
  b : β
  c : γ
  d : δ
  e : ε
  f : ζ
  g : η
structure T8 (α β γ δ ε ζ η θ : Type) where
  a : α
  b : β
  c : γ
  d : δ
  e : ε
  f : ζ
  g : η
  h : θ
section
variable {K : Fg} {base : Cells} {n : Nat} {Γ : Ents}
theorem tt_andP {f g : DTn} {a b : Bool} (h : TE K base n Γ qB f (.ok a)) (h' : TE K base n Γ qB g (.ok b)) : TE K base n Γ qB (dAnd f g) (.ok (a && b)) := fun env cs hh => by
  have := tt_and h h' env cs hh
  cases a <;> exact this
theorem tt_orP {f g : DTn} {a b : Bool} (h : TE K base n Γ qB f (.ok a)) (h' : TE K base n Γ qB g (.ok b)) : TE K base n Γ qB (dOr f g) (.ok (a || b)) := fun env cs hh => by
  have := tt_or h h' env cs hh
  cases a <;> exact this
theorem te_andVP {f g : DEn} {a b : Bool} (h : TE K base n Γ (qP K) f (.ok a)) (h' : TE K base n Γ (qP K) g (.ok b)) : TE K base n Γ (qP K) (dAndV f g) (.ok (a && b)) := fun env cs hh => by
  have := te_andV h h' env cs hh
  cases a <;> exact this
theorem te_orVP {f g : DEn} {a b : Bool} (h : TE K base n Γ (qP K) f (.ok a)) (h' : TE K base n Γ (qP K) g (.ok b)) : TE K base n Γ (qP K) (dOrV f g) (.ok (a || b)) := fun env cs hh => by
  have := te_orV h h' env cs hh
  cases a <;> exact this
theorem te_ifEP {α : Type} {q : Cells → α → P → Prop} {t : DTn} {f g : DEn} {c : Bool} {u v : α} (h : TE K base n Γ qB t (.ok c)) (hf : TE K base n Γ q f (.ok u)) (hg : TE K base n Γ q g (.ok v)) : TE K base n Γ q (dIfE t f g) (.ok (if c = true then u else v)) := fun env cs hh => by
  have := te_ifE h hf hg env cs hh
  cases c <;> exact this
/-- a value of a wider type -/
theorem te_co {α β : Type} [Ty α] [Ty β] (c : α → β) (h : ∀ a, enc K (c a) = enc K a) {f : DEn} {t : R α} (ht : TE K base n Γ (qP K) f t) : TE K base n Γ (qP K) f (t.bind fun a => .ok (c a)) := fun env cs hh => by
  have := ht env cs hh
  cases t with
  | ok a => obtain ⟨p, e, z⟩ := this; exact ⟨p, e, z.trans (h a).symm⟩
  | ex x => exact this
  | stuck => trivial
/-- a method of a shared object -/
theorem te_meC {α β : Type} [Ob α] {q : Cells → β → P → Prop} {C m : Str} (hC : Ob.cls α = C) (hm : ∀ a : α, (Ob.fl K a).lookup m = none) {F : Fn} {fo : DEn} {fa : DAn} {t : R α} {l : α → R β} (ho : TE K base n Γ (qP K) fo t) (ha : ∀ a, TA K base n Γ fa (fun cs ds t => ER K q cs (F (enc K a :: ds) cs) t) (l a)) : TE K base n Γ q (dMeC (He.ga K C) m F fo fa) (t.bind l) := fun env cs hh => by
  have z := ho env cs hh
  subst hC
  unfold dMeC
  cases t with
  | ok a =>
    obtain ⟨p, e, y⟩ := z
    have y : p = enc K a := y
    subst y
    rw [e, Rs.bind_ok, R.bind_ok]
    have e2 : insP (He.ga K (Ob.cls α)) cs (enc K a) = some (Ob.fl K a) := by
      rw [Ob.encf]
      simp only [insP, if_true]
    rw [e2]
    dsimp only
    rw [hm]
    dsimp only
    rcases ha a env cs hh with w | ⟨ds, w1, w2⟩ | ⟨x, w1, w2⟩
    · rw [w]; trivial
    · rw [w1]; exact w2
    · rw [w1, w2]; exact rfl
  | ex x => rw [show fo env cs = _ from z]; exact rfl
  | stuck => trivial
theorem seq_fz {i : Nat} {s g : DSn} : dSeq (dFz i s) g = dFz i (dSeq s g) := by
  funext env cs
  rw [e_seq]
  unfold dFz
  split
  · split
    · split <;> rfl
    · rfl
  · rfl
theorem tb_fzs {τ : Type} {i : Nat} {s g : DSn} {Q : Post τ} {t : R τ} (h : TB K base n Γ (dFz i (dSeq s g)) Q t) : TB K base n Γ (dSeq (dFz i s) g) Q t := by
  rw [seq_fz]
  exact h
/-! ### isinstance of data -/
/-- the kind of a value -/
def Kd (K : Fg) {α : Type} (q : Cells → α → P → Prop) (T : String) : Prop := ∀ cs a p, q cs a p → tyP K cs p = some (.type T)
theorem kd_int : Kd K (qP K (α := Int)) "int" := fun cs a p h => by subst h; rfl
theorem kd_bl : Kd K (qP K (α := Bool)) "bool" := fun cs a p h => by subst h; rfl
theorem kd_str : Kd K (qP K (α := Str)) "str" := fun cs a p h => by subst h; rfl
theorem kd_non : Kd K (qP K (α := Unit)) "NoneType" := fun cs a p h => by subst h; rfl
theorem kd_lst {α : Type} [Ty α] : Kd K (qR K (α := List α)) "list" := fun cs a p h => by
  rcases h with rfl | ⟨n, rfl, e⟩
  · rfl
  · have e : cs[n]? = some (.lst (a.map (enc K))) := e
    simp only [tyP, e]
theorem kd_dct {κ α : Type} [Ky κ] [Ty α] : Kd K (qR K (α := Dict κ α)) "dict" := fun cs a p h => by
  rcases h with rfl | ⟨n, rfl, e⟩
  · rfl
  · have e : cs[n]? = some (.dK (a.l.map fun q => (Ky.key q.1, enc K q.2))) := e
    simp only [tyP, e]
theorem kd_tup {α : Type} [Ty α] : Kd K (qP K (α := Tup α)) "tuple" := fun cs a p h => by subst h; rfl
theorem kd_t2 {α β : Type} [Ty α] [Ty β] : Kd K (qP K (α := T2 α β)) "tuple" := fun cs a p h => by subst h; rfl
theorem kd_t3 {α β γ : Type} [Ty α] [Ty β] [Ty γ] : Kd K (qP K (α := T3 α β γ)) "tuple" := fun cs a p h => by subst h; rfl
theorem kd_t4 {α β γ δ : Type} [Ty α] [Ty β] [Ty γ] [Ty δ] : Kd K (qP K (α := T4 α β γ δ)) "tuple" := fun cs a p h => by subst h; rfl
theorem kd_t5 {α β γ δ ε : Type} [Ty α] [Ty β] [Ty γ] [Ty δ] [Ty ε] : Kd K (qP K (α := T5 α β γ δ ε)) "tuple" := fun cs a p h => by subst h; rfl
/-- what isinstance tells of two built-in kinds -/
def KK (T U : String) (b : Bool) : Prop := ∀ K : Fg, PySem.W.kitOne K (.type T) (.type U) = some b
theorem kk_same (T : String) : KK T T true := fun K => if_pos (beq_self_eq_true _)
theorem kk_ib : KK "int" "bool" false := fun K => by unfold PySem.W.kitOne; rw [if_neg (by decide)]; rfl
theorem kk_is : KK "int" "str" false := fun K => by unfold PySem.W.kitOne; rw [if_neg (by decide)]; rfl
theorem kk_bi : KK "bool" "int" true := fun K => by unfold PySem.W.kitOne; rw [if_neg (by decide)]; rfl
theorem kk_si : KK "str" "int" false := fun K => by unfold PySem.W.kitOne; rw [if_neg (by decide)]; rfl
theorem kk_sb : KK "str" "bool" false := fun K => by unfold PySem.W.kitOne; rw [if_neg (by decide)]; rfl
theorem kk_tl : KK "tuple" "list" false := fun K => by unfold PySem.W.kitOne; rw [if_neg (by decide)]; rfl
theorem kk_lt : KK "list" "tuple" false := fun K => by unfold PySem.W.kitOne; rw [if_neg (by decide)]; rfl
theorem kk_ti : KK "tuple" "int" false := fun K => by unfold PySem.W.kitOne; rw [if_neg (by decide)]; rfl
theorem kk_li : KK "list" "int" false := fun K => by unfold PySem.W.kitOne; rw [if_neg (by decide)]; rfl
theorem te_isT {α : Type} {q : Cells → α → P → Prop} {T U : String} {b : Bool} (hd : Kd K q T) (hk : KK T U b) {f : DEn} {t : R α} (h : TE K base n Γ q f t) : TE K base n Γ (qP K) (dCallB (gIsi K) (dCons f (dCons (dC (.raw (.ty U))) dNil))) (t.bind fun _ => .ok b) := te_isi (c := .raw (.ty U)) (fun _ _ _ => rfl) (fun cs a p z => by
  refine ⟨.bl b, ?_, rfl⟩
  show (match tyP K cs p, clsP (.raw (.ty U)) with
    | some t, some u => (match PySem.W.kitOne K t u with
      | some b => Rs.ok (P.bl b) cs
      | none => .stuck)
    | _, _ => .stuck) = _
  rw [hd cs a p z]
  simp only [clsP]
  rw [hk K]) h
/-- .. of an own class -/
theorem te_isO {α : Type} [Ob α] {C D : Str} {b : Bool} (hC : Ob.cls α = C) (hi : IsiC K (He.ga K C)) (hk : PySem.W.kitOne K (.ref (He.ga K C)) (.ref (He.ga K D)) = some b) {f : DEn} {t : R α} (h : TE K base n Γ (qP K) f t) : TE K base n Γ (qP K) (dCallB (gIsi K) (dCons f (dCons (dC (.raw (.ref (He.ga K D)))) dNil))) (t.bind fun _ => .ok b) := te_isi (c := .raw (.ref (He.ga K D))) (fun _ _ _ => rfl) (fun cs a p z => by
  refine ⟨.bl b, ?_, rfl⟩
  subst hC
  have z : p = enc K a := z
  rw [Ob.encf] at z
  subst z
  show (match tyP K cs (.obj (He.ga K (Ob.cls α)) (Ob.fl K a)), clsP (.raw (.ref (He.ga K D))) with
    | some t, some u => (match PySem.W.kitOne K t u with
      | some b => Rs.ok (P.bl b) cs
      | none => .stuck)
    | _, _ => .stuck) = _
  simp only [tyP, clsP]
  rw [if_pos hi]
  dsimp only
  rw [hk]) h
end
end TL

namespace TL
open PySem L2 DL
open Ty (enc)
open Mt (co)
/-! ### comprehensions, as tgen.py prints them -/
open Classical in
@[irreducible] noncomputable def cmpR {α β : Type} (L : List α) (f : α → R β) : R (List β) := if L.length ≤ sizeLine then lcR f L else .stuck
open Classical in
@[irreducible] noncomputable def cmfR {α β : Type} (L : List α) (c : α → R Bool) (f : α → R β) : R (List β) := if L.length ≤ sizeLine then lcfR c f L else .stuck
open Classical in
@[irreducible] noncomputable def cmdR {α κ β : Type} [Ky κ] (L : List α) (k : α → R κ) (f : α → R β) : R (Dict κ β) := if L.length ≤ sizeLine then dcR k f L ⟨[]⟩ else .stuck
/-- a comprehension's source: nothing changes while it is walked -/
def qC {α : Type} (en : α → P) : Cells → List α → List P × (Cells → Bool) → Prop := fun cs xs L => L.1 = xs.map en ∧ L.2 cs = true
section
variable {K : Fg} {base : Cells} {n : Nat} {Γ : Ents}
theorem tc {α : Type} {en : α → P} {fi : DIn} {ti : R (List α)} (h : TE K base n Γ (qI K base en) fi ti) : TE K base n Γ (qC en) fi ti := fun env cs hh => by
  have := h env cs hh
  cases ti with
  | ok a => obtain ⟨p, e, z1, z2⟩ := this; exact ⟨p, e, z1, z2 cs hh.pre⟩
  | ex x => exact this
  | stuck => trivial
theorem tc_own {α : Type} [Ty α] {mo : Option Nat} (i : Nat) (a : List α) (h : getE Γ i = some (.o mo (co K a))) : TE K base n Γ (qC (enc K)) (dWalk (dVar i)) (.ok a) := fun env cs hh => by
  obtain ⟨m, w1, w2, w3, _⟩ := hh.at' i _ h
  unfold dWalk
  rw [e_var w1, Rs.bind_ok]
  have e' : cs[m]? = some (.lst (a.map (enc K))) := w3
  refine ⟨(a.map (enc K), isAt m (a.map (enc K))), ?_, rfl, isAt_iff.mpr e'⟩
  simp only [walk, e']
theorem te_lcfx {α β : Type} [Ty β] {en : α → P} {T : List Nat} {fi : DIn} {gt : DGn} {ft : DTn} {fe : DEn} {ti : R (List α)} {c : α → R Bool} {f : α → R β} (hi : TE K base n Γ (qC en) fi ti)
    (hb : ∀ x, ∃ Γ', TG base n gt (en x) (dropE T Γ) Γ' ∧ TE K base n Γ' qB ft (c x) ∧ TE K base n Γ' (qP K) fe (f x)) : TE K base n Γ (qF K) (dLc T fi gt ft fe) (ti.bind fun L => cmfR L c f) := by
  unfold dLc
  exact hi.bind fun L env cs p hh z => by
    obtain ⟨z1, z2⟩ := z
    rw [z1]
    unfold cmfR
    by_cases hl : L.length ≤ sizeLine
    · rw [if_pos (by rw [List.length_map]; exact hl), if_pos hl]
      have := lcL_ok (acc := ([] : List β)) ((hh.sub dropE_sub).wipe dropE_none) z2 hb L
      have e : ((lcfR c f L).bind fun l => R.ok ([] ++ l)) = lcfR c f L := by cases lcfR c f L <;> rfl
      rw [e] at this
      exact this
    · rw [if_neg hl]
      trivial
theorem te_lcx {α β : Type} [Ty β] {en : α → P} {T : List Nat} {fi : DIn} {gt : DGn} {fe : DEn} {ti : R (List α)} {f : α → R β} (hi : TE K base n Γ (qC en) fi ti)
    (hb : ∀ x, ∃ Γ', TG base n gt (en x) (dropE T Γ) Γ' ∧ TE K base n Γ' (qP K) fe (f x)) : TE K base n Γ (qF K) (dLc T fi gt dYes fe) (ti.bind fun L => cmpR L f) := by
  have := te_lcfx (c := fun _ => .ok true) (ft := dYes) hi (fun x => by
    obtain ⟨Γ', h1, h2⟩ := hb x
    exact ⟨Γ', h1, fun env cs hh => ⟨_, rfl, rfl⟩, h2⟩)
  unfold cmfR at this
  unfold cmpR
  simp only [lcf_true] at this
  exact this
theorem te_dcx {α κ β : Type} [Kf κ] [Ty β] {en : α → P} {T : List Nat} {fi : DIn} {gt : DGn} {fk fe : DEn} {ti : R (List α)} {k : α → R κ} {f : α → R β} (hi : TE K base n Γ (qC en) fi ti)
    (hb : ∀ x, ∃ Γ', TG base n gt (en x) (dropE T Γ) Γ' ∧ TE K base n Γ' (qP K) fk (k x) ∧ TE K base n Γ' (qP K) fe (f x)) : TE K base n Γ (qF K) (dDc T fi gt dYes fk fe) (ti.bind fun L => cmdR L k f) := by
  unfold dDc
  exact hi.bind fun L env cs p hh z => by
    obtain ⟨z1, z2⟩ := z
    rw [z1]
    unfold cmdR
    by_cases hl : L.length ≤ sizeLine
    · rw [if_pos (by rw [List.length_map]; exact hl), if_pos hl]
      exact dcL_ok ((hh.sub dropE_sub).wipe dropE_none) z2 hb L ⟨[]⟩
    · rw [if_neg hl]
      trivial
/-- calls that change nothing -/
theorem te_intI {f : DEn} {t : R Int} (h : TE K base n Γ (qP K) f t) : TE K base n Γ (qP K) (dCallB (orC gInt gIntS) (dCons f dNil)) t := fun env cs hh => by
  have := te_cb1 c_int h env cs hh
  cases t <;> exact this
theorem te_tupI {α : Type} [Ty α] {f : DEn} {t : R (Tup α)} (h : TE K base n Γ (qP K) f t) : TE K base n Γ (qP K) (dCallB gTuple (dCons f dNil)) t := fun env cs hh => by
  have := te_cb1 c_tupT h env cs hh
  cases t <;> exact this
theorem te_tupK {β : Type} [Ty β] (hb : ∀ K (a : β), ∃ ps, enc K a = .tup ps) {f : DEn} {t : R β} (h : TE K base n Γ (qP K) f t) : TE K base n Γ (qP K) (dCallB gTuple (dCons f dNil)) t := fun env cs hh => by
  have := te_cb1 (c_tupK hb) h env cs hh
  cases t <;> exact this
theorem te_listL {α : Type} [Ty α] {f : DEn} {t : R (List α)} (h : TE K base n Γ (qR K) f t) : TE K base n Γ (qF K) (dCallF gList (dCons f dNil)) t := fun env cs hh => by
  have := te_cf1 f_listL h env cs hh
  cases t <;> exact this
theorem ti_lstI {α : Type} [Ty α] {f : DEn} {t : R (List α)} (h : TE K base n Γ (qP K) f t) : TE K base n Γ (qI K base (enc K)) (dWalk f) t := fun env cs hh => by
  have := ti_lst h env cs hh
  cases t <;> exact this
theorem tt_truB {f : DEn} {t : R Bool} (h : TE K base n Γ (qP K) f t) : TE K base n Γ qB (dTru f) t := fun env cs hh => by
  have := tt_tru u_bl (fun _ _ h => nomatch h) h env cs hh
  cases t <;> exact this
theorem noex1 {α : Type} {f : α → Bool} : ∀ a x, (fun a => R.ok (f a)) a ≠ .ex x := fun _ _ h => nomatch h
theorem noex2 {β γ : Type} {f : β → γ} : ∀ b x, R.ok (f b) ≠ .ex x := fun _ _ h => nomatch h
theorem noex2b {β γ δ : Type} {f : β → γ → δ} : ∀ b c x, R.ok (f b c) ≠ .ex x := fun _ _ _ h => nomatch h
theorem noexS {a : Str} : ∀ b x, catS a b ≠ .ex x := fun b x h => by
  unfold catS at h
  split at h <;> cases h
/-- what is known of some classes -/
def AllB (Q : Str → Bool → Prop) : List (Str × Bool) → Prop
  | [] => True
  | p :: r => Q p.1 p.2 ∧ AllB Q r
def selOf (l : List (Str × Bool)) (n : Str) : Option Bool := l.lookup n
theorem allB_of {Q : Str → Bool → Prop} : ∀ {l : List (Str × Bool)} {n : Str} {b : Bool}, AllB Q l → selOf l n = some b → Q n b
  | [], _, _, _, h => by cases h
  | (m, c) :: r, n, b, ⟨q1, q2⟩, h => by
    unfold selOf at h
    rw [List.lookup_cons] at h
    split at h
    · rename_i e
      cases h
      have : n = m := by simpa using e
      subst this
      exact q1
    · exact allB_of q2 h
theorem sel_of {l : List (Str × Bool)} {C : Value} (h : AllB (fun n b => PySem.W.exmOne K (.ref (He.ga K n)) C = some b) l) : Sel K (selOf l) C := fun n b e => allB_of h e
theorem isx_of {l : List (Str × Bool)} {c : P} (h : AllB (fun n b => exC K (He.ga K n) = true ∧ isXc K (He.ga K n) c = some b) l) : IsX K (selOf l) c := fun n b e => allB_of h e
end
end TL

namespace TL
open PySem L2 DL
open Ty (enc)
open Mt (co)
section
variable {K : Fg} {base : Cells} {n : Nat} {Γ : Ents}
/-- the same, as it is printed -/
theorem cE {α β : Type} {q : Cells → α → β → Prop} {f : Env → Cells → Rs β} {t' : R α} (t : R α) (h : TE K base n Γ q f t') (e : t' = t) : TE K base n Γ q f t := e ▸ h
theorem cB {τ : Type} {g : DSn} {Q : Post τ} {t' : R τ} (t : R τ) (h : TB K base n Γ g Q t') (e : t' = t) : TB K base n Γ g Q t := e ▸ h
theorem iteR_ok {α : Type} {c : Bool} {u v : R α} : iteR (R.ok c) u v = if c = true then u else v := Eq.trans rfl rfl
theorem andR_ok {c : Bool} {u : R Bool} : andR (R.ok c) u = if c = true then u else R.ok false := Eq.trans rfl rfl
theorem orR_ok {c : Bool} {u : R Bool} : orR (R.ok c) u = if c = true then R.ok true else u := Eq.trans rfl rfl
theorem chain_ok {α β γ : Type} {a : α} {b : β} {c : γ} {f : α → β → Bool} {g : β → γ → Bool} : ((R.ok a).bind fun a => (R.ok b).bind fun b => (R.ok (f a b)).bind fun z => if z = true then (R.ok c).bind fun c => R.ok (g b c) else R.ok false) = if f a b = true then R.ok (g b c) else R.ok false := Eq.trans rfl rfl
/-! ### with values that are there at once -/
theorem tb_setP {α τ : Type} [Ty α] {i : Nat} {f : DEn} {g : DSn} {Q : Post τ} {v : α} {l : α → R τ} (hi : i < n) (h : TE K base n Γ (qP K) f (R.ok v)) (hk : ∀ a, TB K base n ((i, .v (enc K a)) :: Γ) g Q (l a)) : TB K base n Γ (dSeq (dSet i f) g) Q (let x := v; l x) := tb_set hi h HX.ok hk
theorem tb_ownP {α τ : Type} [Mt α] {i : Nat} {f : DFn} {g : DSn} {Q : Post τ} {v : α} {l : α → R τ} (hi : i < n) (h : TE K base n Γ (qF K) f (R.ok v)) (hk : ∀ a, TB K base n ((i, .o none (co K a)) :: Γ) g Q (l a)) : TB K base n Γ (dSeq (dSet i (dOwn f)) g) Q (let x := v; l x) := tb_own hi h HX.ok hk
theorem tb_dropP {α τ : Type} {q : Cells → α → P → Prop} {f : DEn} {g : DSn} {Q : Post τ} {v : α} {l : R τ} (h : TE K base n Γ q f (R.ok v)) (hk : TB K base n Γ g Q l) : TB K base n Γ (dSeq (dDrop f) g) Q l := tb_drop (l := fun _ => l) h HX.ok fun _ => hk
theorem tb_retP {α τ : Type} {q : Cells → α → P → Prop} {f : DEn} {g : DSn} {Q : Post τ} {v : α} {t : R τ} (h : TE K base n Γ q f (R.ok v)) (hk : ∀ c p, base <+: c → q c v p → Q.rt p c t) : TB K base n Γ (dSeq (dRet f) g) Q t := fun env cs hh => by
  obtain ⟨p, e, z⟩ := h env cs hh
  rw [e_seq, e_ret, e]
  exact .inr (hk cs p hh.pre z)
theorem tb_raiseP {α τ : Type} {q : Cells → α → P → Prop} {x : Str} {f : DEn} {g : DSn} {Q : Post τ} {v : α} (h : TE K base n Γ q f (R.ok v)) (hq : ∀ e c, Hold base n Γ e c → Q.ex e c) : TB K base n Γ (dSeq (dRaise (dX1 (He.ga K x) f)) g) Q (R.ex ⟨x, []⟩) := tb_raise h HX.ok hq
theorem tb_asgP {α τ : Type} [Ty α] {f : DEn} {gt : DGn} {g : DSn} {Q : Post τ} {v : α} {l : α → R τ} {Γ' : α → Ents} (h : TE K base n Γ (qP K) f (R.ok v)) (hg : ∀ a, TG base n gt (enc K a) Γ (Γ' a)) (hk : ∀ a, TB K base n (Γ' a) g Q (l a)) : TB K base n Γ (dSeq (dAsg f gt) g) Q (let x := v; l x) := tb_asg h HX.ok hg hk
theorem tb_ifP {τ : Type} {f g : DSn} {td : DTn} {Q : Post τ} {c : Bool} {u v : R τ} (h : TE K base n Γ qB td (R.ok c)) (hf : TB K base n Γ f Q u) (hg : TB K base n Γ g Q v) : TB K base n Γ (dIf td f g) Q (if c = true then u else v) := tb_if h HX.ok hf hg
theorem tb_mth1P {M β τ : Type} [Mt M] {q : Cells → β → P → Prop} {T : String} {gm : GM} {op : M → β → R M} (ty : OfT K M T) (o : OpM1 K q gm op) {i : Nat} {mo : Option Nat} (a : M) {f : DEn} {g : DSn} {Q : Post τ} {v : β} {l : M → R τ} (hi : getE Γ i = some (.o mo (co K a))) (h : TE K base n Γ q f (R.ok v))
    (hk : ∀ a', TB K base n ((i, .o mo (co K a')) :: Γ) g Q (l a')) : TB K base n Γ (dSeq (dDrop (dMth T gm (dVar i) (dCons f dNil))) g) Q ((op a v).bind l) := tb_mth1 ty o a hi h HX.ok hk
theorem tb_mth0P {M τ : Type} [Mt M] {T : String} {gm : GM} {op : M → M} (ty : OfT K M T) (o : OpM0 K gm fun m => .ok (op m)) {i : Nat} {mo : Option Nat} (a : M) {g : DSn} {Q : Post τ} {l : M → R τ} (hi : getE Γ i = some (.o mo (co K a)))
    (hk : ∀ a', TB K base n ((i, .o mo (co K a')) :: Γ) g Q (l a')) : TB K base n Γ (dSeq (dDrop (dMth0 T gm (dVar i))) g) Q (let x := op a; l x) := tb_mth0 ty o a hi hk
theorem tb_putPP {M κ β τ : Type} [Mt M] [Ty κ] [Ty β] {op : M → κ → β → R M} (o : OpP K op) {i : Nat} {mo : Option Nat} (a : M) {fk fv : DEn} {g : DSn} {Q : Post τ} {k : κ} {v : β} {l : M → R τ} (hi : getE Γ i = some (.o mo (co K a))) (hv : TE K base n Γ (qP K) fv (R.ok v)) (hki : TE K base n Γ (qP K) fk (R.ok k))
    (hk : ∀ a', TB K base n ((i, .o mo (co K a')) :: Γ) g Q (l a')) : TB K base n Γ (dSeq (dPutS (dVar i) fk fv) g) Q ((op a k v).bind l) := tb_put o a hi hv HX.ok hki HX.ok hk
theorem tb_putEP {M κ β τ : Type} [Mt M] [Ty κ] [Ty β] {op : M → κ → β → R M} (o : OpP K op) {i : Nat} {mo : Option Nat} (a : M) {fk fv : DEn} {g : DSn} {Q : Post τ} {k : κ} {tv : R β} {l : M → R τ} (hi : getE Γ i = some (.o mo (co K a))) (hv : TE K base n Γ (qP K) fv tv) (hxv : HX base n Γ Q tv) (hki : TE K base n Γ (qP K) fk (R.ok k))
    (hk : ∀ a', TB K base n ((i, .o mo (co K a')) :: Γ) g Q (l a')) : TB K base n Γ (dSeq (dPutS (dVar i) fk fv) g) Q (tv.bind fun v => (op a k v).bind l) := tb_put o a hi hv hxv hki HX.ok hk
theorem tb_putPE {M κ β τ : Type} [Mt M] [Ty κ] [Ty β] {op : M → κ → β → R M} (o : OpP K op) {i : Nat} {mo : Option Nat} (a : M) {fk fv : DEn} {g : DSn} {Q : Post τ} {tk : R κ} {v : β} {l : M → R τ} (hi : getE Γ i = some (.o mo (co K a))) (hv : TE K base n Γ (qP K) fv (R.ok v)) (hki : TE K base n Γ (qP K) fk tk) (hxk : HX base n Γ Q tk)
    (hk : ∀ a', TB K base n ((i, .o mo (co K a')) :: Γ) g Q (l a')) : TB K base n Γ (dSeq (dPutS (dVar i) fk fv) g) Q (tk.bind fun k => (op a k v).bind l) := tb_put o a hi hv HX.ok hki hxk hk
/-- the sum or difference that an augmented store makes: a value at once -/
theorem tb_augSPP {M κ β γ τ : Type} [Mt M] [Ty κ] [Ty β] [Ty γ] {get : M → κ → R β} {op : M → κ → β → R M} {ga : G2} {opa : β → γ → β} (og : OpG K get) (oa : Op2 K (qP K) (qP K) (qP K) ga fun b c => .ok (opa b c)) (o : OpP K op) {i : Nat} {mo : Option Nat} (a : M) {fk fv : DEn} {g : DSn} {Q : Post τ} {k : κ} {v : γ} {l : M → R τ} (hi : getE Γ i = some (.o mo (co K a))) (hki : TE K base n Γ (qP K) fk (R.ok k)) (hv : TE K base n Γ (qP K) fv (R.ok v))
    (hk : ∀ a', TB K base n ((i, .o mo (co K a')) :: Γ) g Q (l a')) : TB K base n Γ (dSeq (dAugS ga (dVar i) fk fv) g) Q ((get a k).bind fun b => (op a k (opa b v)).bind l) := tb_augS og oa o a hi hki HX.ok hv HX.ok noex2b hk
theorem tb_augSEP {M κ β γ τ : Type} [Mt M] [Ty κ] [Ty β] [Ty γ] {get : M → κ → R β} {op : M → κ → β → R M} {ga : G2} {opa : β → γ → β} (og : OpG K get) (oa : Op2 K (qP K) (qP K) (qP K) ga fun b c => .ok (opa b c)) (o : OpP K op) {i : Nat} {mo : Option Nat} (a : M) {fk fv : DEn} {g : DSn} {Q : Post τ} {tk : R κ} {v : γ} {l : M → R τ} (hi : getE Γ i = some (.o mo (co K a))) (hki : TE K base n Γ (qP K) fk tk) (hxk : HX base n Γ Q tk) (hv : TE K base n Γ (qP K) fv (R.ok v))
    (hk : ∀ a', TB K base n ((i, .o mo (co K a')) :: Γ) g Q (l a')) : TB K base n Γ (dSeq (dAugS ga (dVar i) fk fv) g) Q (tk.bind fun k => (get a k).bind fun b => (op a k (opa b v)).bind l) := tb_augS og oa o a hi hki hxk hv HX.ok noex2b hk
theorem tb_augSPE {M κ β γ τ : Type} [Mt M] [Ty κ] [Ty β] [Ty γ] {get : M → κ → R β} {op : M → κ → β → R M} {ga : G2} {opa : β → γ → β} (og : OpG K get) (oa : Op2 K (qP K) (qP K) (qP K) ga fun b c => .ok (opa b c)) (o : OpP K op) {i : Nat} {mo : Option Nat} (a : M) {fk fv : DEn} {g : DSn} {Q : Post τ} {k : κ} {tv : R γ} {l : M → R τ} (hi : getE Γ i = some (.o mo (co K a))) (hki : TE K base n Γ (qP K) fk (R.ok k)) (hv : TE K base n Γ (qP K) fv tv) (hxv : HX base n Γ Q tv)
    (hk : ∀ a', TB K base n ((i, .o mo (co K a')) :: Γ) g Q (l a')) : TB K base n Γ (dSeq (dAugS ga (dVar i) fk fv) g) Q ((get a k).bind fun b => tv.bind fun v => (op a k (opa b v)).bind l) := tb_augS og oa o a hi hki HX.ok hv hxv noex2b hk
theorem tb_augSEE {M κ β γ τ : Type} [Mt M] [Ty κ] [Ty β] [Ty γ] {get : M → κ → R β} {op : M → κ → β → R M} {ga : G2} {opa : β → γ → β} (og : OpG K get) (oa : Op2 K (qP K) (qP K) (qP K) ga fun b c => .ok (opa b c)) (o : OpP K op) {i : Nat} {mo : Option Nat} (a : M) {fk fv : DEn} {g : DSn} {Q : Post τ} {tk : R κ} {tv : R γ} {l : M → R τ} (hi : getE Γ i = some (.o mo (co K a))) (hki : TE K base n Γ (qP K) fk tk) (hxk : HX base n Γ Q tk) (hv : TE K base n Γ (qP K) fv tv) (hxv : HX base n Γ Q tv)
    (hk : ∀ a', TB K base n ((i, .o mo (co K a')) :: Γ) g Q (l a')) : TB K base n Γ (dSeq (dAugS ga (dVar i) fk fv) g) Q (tk.bind fun k => (get a k).bind fun b => tv.bind fun v => (op a k (opa b v)).bind l) := tb_augS og oa o a hi hki hxk hv hxv noex2b hk
theorem tb_augP {α β γ τ : Type} [Ty α] [Ty γ] {q : Cells → β → P → Prop} {ga : G2} {op : α → β → γ} (o : Op2 K (qP K) q (qP K) ga fun a b => .ok (op a b)) {i : Nat} (a : α) {f : DEn} {g : DSn} {Q : Post τ} {v : β} {l : γ → R τ} (hi : i < n) (hv : getE Γ i = some (.v (enc K a))) (h : TE K base n Γ q f (R.ok v))
    (hk : ∀ c, TB K base n ((i, .v (enc K c)) :: Γ) g Q (l c)) : TB K base n Γ (dSeq (dAug ga i f) g) Q (let x := op a v; l x) := tb_aug o a hi hv h HX.ok noex2 hk
theorem tb_augE {α β γ τ : Type} [Ty α] [Ty γ] {q : Cells → β → P → Prop} {ga : G2} {op : α → β → γ} (o : Op2 K (qP K) q (qP K) ga fun a b => .ok (op a b)) {i : Nat} (a : α) {f : DEn} {g : DSn} {Q : Post τ} {t : R β} {l : γ → R τ} (hi : i < n) (hv : getE Γ i = some (.v (enc K a))) (h : TE K base n Γ q f t) (hx : HX base n Γ Q t)
    (hk : ∀ c, TB K base n ((i, .v (enc K c)) :: Γ) g Q (l c)) : TB K base n Γ (dSeq (dAug ga i f) g) Q (t.bind fun b => let x := op a b; l x) := tb_aug o a hi hv h hx noex2 hk
theorem tb_augSP {α τ : Type} {ga : G2} {op : Str → Str → R Str} (o : Op2 K (qP K) (qP K) (qP K) ga op) (hxo : ∀ a b x, op a b ≠ .ex x) {i : Nat} (a : Str) {f : DEn} {g : DSn} {Q : Post τ} {v : Str} {l : Str → R τ} (hi : i < n) (hv : getE Γ i = some (.v (enc K a))) (h : TE K base n Γ (qP K) f (R.ok v))
    (hk : ∀ c, TB K base n ((i, .v (enc K c)) :: Γ) g Q (l c)) : TB K base n Γ (dSeq (dAug ga i f) g) Q ((op a v).bind l) := tb_aug o a hi hv h HX.ok (hxo a) hk
theorem tb_fldP {α τ : Type} [Ty α] {x : Str} {i : Nat} {mo : Option Nat} {C : Addr} {fs : List (Str × P)} {f : DEn} {g : DSn} {Q : Post τ} {v : α} {l : α → R τ} (q : getE Γ i = some (.o mo (.obj C fs))) (hf : FldOk K C x) (hs : fs.length < 1000) (hcl : ∀ m, cloF m fs)
    (hp : ∀ v, putFP x v fs = fs ++ [(x, v)]) (h : TE K base n Γ (qP K) f (R.ok v)) (hk : ∀ a, TB K base n ((i, .o mo (.obj C (fs ++ [(x, enc K a)]))) :: Γ) g Q (l a)) : TB K base n Γ (dSeq (dPutF K x (dVar i) f) g) Q (let x := v; l x) := tb_fld q hf hs hcl hp h HX.ok hk
theorem tb_foldP {α σ τ : Type} {en : α → P} {T : List Nat} {fi : DIn} {gt : DGn} {body g : DSn} {Q : Post τ} {L : List α} {k : σ → R τ} (Γl : σ → Ents) (s0 : σ) (b : α → σ → R σ) (hi : TE K base n Γ (qI K base en) fi (R.ok L)) (hs : Sub (Γl s0) Γ) (hT : ∀ s, noneIn T (Γl s) = true)
    (hb : ∀ x s, ∃ Γ', TG base n gt (en x) (Γl s) Γ' ∧ TB K base n Γ' body (Post.lf base n Γl Q) (b x s)) (hk : ∀ s, TB K base n (Γl s) g Q (k s)) : TB K base n Γ (dSeq (dFor T fi gt body) g) Q ((foldR b L s0).bind k) := tb_fold Γl s0 hi HX.ok hs hT hb hk
theorem tb_forP {α σ τ : Type} {en : α → P} {T : List Nat} {fi : DIn} {gt : DGn} {body g : DSn} {Q : Post τ} {L : List α} {k : σ → R τ} (Γl : σ → Ents) (s0 : σ) (b : α → σ → R (Lp σ τ)) (hi : TE K base n Γ (qI K base en) fi (R.ok L)) (hs : Sub (Γl s0) Γ) (hT : ∀ s, noneIn T (Γl s) = true)
    (hb : ∀ x s, ∃ Γ', TG base n gt (en x) (Γl s) Γ' ∧ TB K base n Γ' body (Post.lg base n Γl Q) (b x s)) (hk : ∀ s, TB K base n (Γl s) g Q (k s)) : TB K base n Γ (dSeq (dFor T fi gt body) g) Q ((forR b L s0).then k) := tb_for Γl s0 hi HX.ok hs hT hb hk
end
end TL

namespace TL
open PySem L2 DL
open Ty (enc)
open Mt (co)
/-! ### plain rules -/
theorem mulR_ok {i j : Int} (h0 : -(2 ^ 64) < i) (h1 : i < 2 ^ 64) : mulR i j = .ok (i * j) := by
  unfold mulR mulOk
  rw [if_pos]
  simp only [Bool.or_eq_true, Bool.and_eq_true, decide_eq_true_eq]
  exact .inl ⟨h0, h1⟩
theorem mulR_ok' {i j : Int} (h0 : -(2 ^ 64) < j) (h1 : j < 2 ^ 64) : mulR i j = .ok (i * j) := by
  unfold mulR mulOk
  rw [if_pos]
  simp only [Bool.or_eq_true, Bool.and_eq_true, decide_eq_true_eq]
  exact .inr ⟨h0, h1⟩
theorem divR_ok {i j : Int} (h0 : 0 < j) (h1 : j < 1073741824) : divR i j = .ok (i / j) := by
  unfold divR divOk
  rw [if_pos]
  simp [h0, h1]
theorem modR_ok {i j : Int} (h : 0 < j) : modR i j = .ok (i % j) := by
  unfold modR
  exact if_pos h
theorem powR18 : powR 10 18 = .ok 1000000000000000000 := by
  unfold powR
  rw [if_pos (by decide)]
  rfl
theorem rng1_ok {j : Int} (h0 : 0 ≤ j) (h1 : j < 2 ^ 62) : rng1 j = .ok (rngI 0 j.toNat) := by
  unfold rng1
  exact if_pos ⟨by omega, h1⟩
theorem rng2_ok {i j : Int} (h0 : 0 ≤ i) (h1 : i < 2 ^ 62) (h2 : 0 ≤ j) (h3 : j < 2 ^ 62) : rng2 i j = .ok (rngI i (j - i).toNat) := by
  unfold rng2
  exact if_pos ⟨by omega, h1, by omega, h3⟩
theorem mem_rngI {lo : Int} {k : Nat} {x : Int} : x ∈ rngI lo k ↔ lo ≤ x ∧ x < lo + k := by
  unfold rngI
  rw [List.mem_map]
  constructor
  · rintro ⟨i, hi, rfl⟩
    rw [List.mem_range] at hi
    omega
  · rintro ⟨h1, h2⟩
    exact ⟨(x - lo).toNat, by rw [List.mem_range]; omega, by omega⟩
theorem rngI_len {lo : Int} {k : Nat} : (rngI lo k).length = k := by unfold rngI; simp
theorem rngI_zero {lo : Int} : rngI lo 0 = [] := rfl
theorem rngI_succ {lo : Int} {k : Nat} : rngI lo (k + 1) = rngI lo k ++ [lo + k] := by
  unfold rngI
  rw [List.range_succ, List.map_append]
  rfl
theorem ixL_ok {α : Type} {l : List α} {i : Int} (h0 : 0 ≤ i) (h1 : i < l.length) : ixL l i = .ok (l[i.toNat]'(by omega)) := by
  unfold ixL atI ixN
  rw [if_pos h0, if_pos h1]
  have hl : i.toNat < l.length := by omega
  simp [hl]
theorem ixL_mem {α : Type} {l : List α} {i : Int} (h0 : 0 ≤ i) (h1 : i < l.length) : ∃ a, ixL l i = .ok a ∧ a ∈ l ∧ l[i.toNat]? = some a := by
  have hl : i.toNat < l.length := by omega
  exact ⟨_, ixL_ok h0 h1, List.getElem_mem _, List.getElem?_eq_getElem hl⟩
theorem ixS_ok {z : Str} {i : Int} (hz : z.length ≤ 1000000) (h0 : 0 ≤ i) (h1 : i < z.length) : ∃ c, ixS z i = .ok ⟨#[c]⟩ ∧ z.cps.toList[i.toNat]? = some c := by
  have hl : i < z.cps.toList.length := by simpa [Str.length] using h1
  unfold ixS
  rw [if_pos (small_le hz)]
  obtain ⟨c, e1, e2, e3⟩ := ixL_mem h0 hl
  refine ⟨c, ?_, e3⟩
  unfold ixL at e1
  split at e1
  · rename_i a h
    rw [h]
    cases e1
    rfl
  · cases e1
theorem lenS_ok {z : Str} (h : z.length ≤ 1000000) : lenS z = .ok (z.length : Int) := by
  unfold lenS
  exact if_pos (small_le h)
theorem catS_ok {a b : Str} (h : a.length + b.length ≤ 1000000) : catS a b = .ok (a ++ b) := by
  unfold catS
  exact if_pos (small_le h)
theorem catL_ok {α : Type} {a b : List α} (h : a.length + b.length ≤ 1000000) : catL a b = .ok (a ++ b) := by
  unfold catL
  exact if_pos (small_le h)
theorem slS_ok {z : Str} {lo hi : Option Int} (h : z.length ≤ 1000000) : slS z lo hi = .ok (cutS z lo hi) := by
  unfold slS
  exact if_pos (small_le h)
theorem appR_ok {α : Type} {l : List α} {a : α} (h : l.length ≤ 1000000) : appR l a = .ok (l ++ [a]) := by
  unfold appR
  exact if_pos (by have := small_le (n := 1000001) ; rw [sizeLine_eq]; omega)
theorem extR_ok {α : Type} {l m : List α} (h : l.length + m.length ≤ 1000000) : extR l m = .ok (l ++ m) := by
  unfold extR
  exact if_pos (small_le h)
theorem putR_ok {α : Type} {l : List α} {i : Int} {a : α} (h0 : 0 ≤ i) (h1 : i < l.length) : putR l i a = .ok (l.set i.toNat a) := by
  unfold putR ixN
  rw [if_pos h0, if_pos h1]
theorem fmtS_ok {y : Str} (h : y.length ≤ 1000000) : fmtS y = .ok y := by
  unfold fmtS
  exact if_pos (small_le h)
theorem str_app_len (a b : Str) : (a ++ b).length = a.length + b.length := by
  show (a.cps ++ b.cps).size = a.cps.size + b.cps.size
  exact Array.size_append ..
/-- the words of an error -/
theorem jnR_ok : ∀ {ts : List (R Str)} {acc : Str}, (∀ t ∈ ts, ∃ y, t = .ok y ∧ y.length ≤ 2000) → acc.length + 2000 * ts.length ≤ 1000000 → ∃ s, jnR ts acc = .ok s
  | [], acc, _, _ => ⟨acc, jnR_nil⟩
  | t :: ts, acc, h, hl => by
    obtain ⟨y, e, hy⟩ := h t List.mem_cons_self
    rw [List.length_cons] at hl
    obtain ⟨s, es⟩ := jnR_ok (ts := ts) (acc := acc ++ y) (fun u hu => h u (List.mem_cons_of_mem _ hu)) (by rw [str_app_len]; omega)
    refine ⟨s, ?_⟩
    rw [jnR_cons, e, R.bind_ok, if_pos (small_le (by rw [str_app_len]; omega))]
    exact es
theorem jnR_ex {α : Type} {ts : List (R Str)} {x : TX} (h : ∀ t ∈ ts, ∃ y, t = .ok y ∧ y.length ≤ 2000) (hl : ts.length ≤ 100) : ((jnR ts Str.empty).bind fun _ => (R.ex x : R α)) = .ex x := by
  obtain ⟨s, e⟩ := jnR_ok (acc := Str.empty) h (by show 0 + _ ≤ _; omega)
  rw [e, R.bind_ok]
/-! loops -/
theorem foldR_ok {α σ : Type} {b : α → σ → R σ} (f : σ → α → σ) : ∀ {L : List α} {s : σ}, (∀ x ∈ L, ∀ s, b x s = .ok (f s x)) → foldR b L s = .ok (L.foldl f s)
  | [], s, _ => foldR_nil
  | x :: L, s, h => by
    rw [foldR_cons, h x List.mem_cons_self, R.bind_ok, foldR_ok f fun y hy => h y (List.mem_cons_of_mem _ hy)]
    rfl
/-- .. with something that holds all the way: of the turns that are done -/
theorem foldR_inv {α σ : Type} {b : α → σ → R σ} (I : List α → σ → Prop) : ∀ {L done : List α} {s : σ}, I done s → (∀ d x r s, L = d ++ x :: r → I (done ++ d) s → ∃ s', b x s = .ok s' ∧ I (done ++ d ++ [x]) s') → ∃ s', foldR b L s = .ok s' ∧ I (done ++ L) s'
  | [], done, s, h0, _ => ⟨s, foldR_nil, by rw [List.append_nil]; exact h0⟩
  | x :: L, done, s, h0, h => by
    obtain ⟨s1, e1, h1⟩ := h [] x L s rfl (by rw [List.append_nil]; exact h0)
    rw [List.append_nil] at h1
    obtain ⟨s2, e2, h2⟩ := foldR_inv I (L := L) (done := done ++ [x]) h1 fun d y r s e hi => by
      have := h (x :: d) y r s (by rw [e]; rfl) (by simpa using hi)
      simpa using this
    refine ⟨s2, ?_, by simpa using h2⟩
    rw [foldR_cons, e1, R.bind_ok, e2]
/-- a loop that raises at the first bad one -/
theorem foldR_chk {α : Type} {b : α → Unit → R Unit} {x : TX} (p : α → Bool) : ∀ {L : List α}, (∀ a ∈ L, b a () = if p a = true then .ok () else .ex x) → foldR b L () = if L.all p = true then .ok () else .ex x
  | [], _ => by rw [foldR_nil]; rfl
  | a :: L, h => by
    rw [foldR_cons, h a List.mem_cons_self, List.all_cons]
    cases q : p a with
    | true =>
      rw [if_pos rfl, R.bind_ok, foldR_chk p fun y hy => h y (List.mem_cons_of_mem _ hy)]
      rfl
    | false => rfl
/-- a loop that returns at the first bad one -/
theorem forR_chk {α ρ : Type} {b : α → Unit → R (Lp Unit ρ)} {v : ρ} (p : α → Bool) : ∀ {L : List α}, (∀ a ∈ L, b a () = if p a = true then .ok (.nx ()) else .ok (.rt v)) → forR b L () = if L.all p = true then .ok (.nx ()) else .ok (.rt v)
  | [], _ => by rw [forR_nil]; rfl
  | a :: L, h => by
    rw [forR_cons, h a List.mem_cons_self, List.all_cons]
    cases q : p a with
    | true =>
      rw [if_pos rfl]
      dsimp only
      rw [forR_chk p fun y hy => h y (List.mem_cons_of_mem _ hy)]
      rfl
    | false => rfl
theorem forR_all {α ρ : Type} {b : α → Unit → R (Lp Unit ρ)} {L : List α} (h : ∀ a ∈ L, b a () = .ok (.nx ())) : forR b L () = .ok (.nx ()) := by
  induction L with
  | nil => exact forR_nil
  | cons a L ih =>
    rw [forR_cons, h a List.mem_cons_self]
    exact ih fun y hy => h y (List.mem_cons_of_mem _ hy)
/-! comprehensions -/
theorem lcR_ok {α β : Type} {f : α → R β} (h : α → β) : ∀ {L : List α}, (∀ x ∈ L, f x = .ok (h x)) → lcR f L = .ok (L.map h)
  | [], _ => rfl
  | x :: L, hh => by
    rw [lcR, hh x List.mem_cons_self, R.nox_ok, R.bind_ok, lcR_ok h fun y hy => hh y (List.mem_cons_of_mem _ hy)]
    rfl
theorem cmpR_ok {α β : Type} {f : α → R β} {L : List α} (h : α → β) (hl : L.length ≤ 1000000) (hh : ∀ x ∈ L, f x = .ok (h x)) : cmpR L f = .ok (L.map h) := by
  unfold cmpR
  rw [if_pos (small_le hl), lcR_ok h hh]
theorem lcfR_ok {α β : Type} {c : α → R Bool} {f : α → R β} (p : α → Bool) (h : α → β) : ∀ {L : List α}, (∀ x ∈ L, c x = .ok (p x)) → (∀ x ∈ L, p x = true → f x = .ok (h x)) → lcfR c f L = .ok ((L.filter p).map h)
  | [], _, _ => rfl
  | x :: L, hc, hh => by
    rw [lcfR, hc x List.mem_cons_self, R.nox_ok, R.bind_ok, lcfR_ok p h (fun y hy => hc y (List.mem_cons_of_mem _ hy)) fun y hy => hh y (List.mem_cons_of_mem _ hy)]
    cases q : p x with
    | true => rw [if_pos rfl, hh x List.mem_cons_self q, List.filter_cons_of_pos q]; rfl
    | false => rw [if_neg Bool.false_ne_true, List.filter_cons_of_neg (by rw [q]; exact Bool.false_ne_true)]
theorem cmfR_ok {α β : Type} {c : α → R Bool} {f : α → R β} {L : List α} (p : α → Bool) (h : α → β) (hl : L.length ≤ 1000000) (hc : ∀ x ∈ L, c x = .ok (p x)) (hh : ∀ x ∈ L, p x = true → f x = .ok (h x)) : cmfR L c f = .ok ((L.filter p).map h) := by
  unfold cmfR
  rw [if_pos (small_le hl), lcfR_ok p h hc hh]
theorem dcR_ok {α κ β : Type} [Ky κ] {k : α → R κ} {f : α → R β} (hk : α → κ) (h : α → β) : ∀ {L : List α} {d : Dict κ β}, (∀ x ∈ L, k x = .ok (hk x)) → (∀ x ∈ L, f x = .ok (h x)) → dcR k f L d = .ok (L.foldl (fun d x => d.put (hk x) (h x)) d)
  | [], _, _, _ => rfl
  | x :: L, d, h1, h2 => by
    rw [dcR, h1 x List.mem_cons_self, R.nox_ok, R.bind_ok, h2 x List.mem_cons_self, R.nox_ok, R.bind_ok, dcR_ok hk h (fun y hy => h1 y (List.mem_cons_of_mem _ hy)) fun y hy => h2 y (List.mem_cons_of_mem _ hy)]
    rfl
theorem cmdR_ok {α κ β : Type} [Ky κ] {k : α → R κ} {f : α → R β} {L : List α} (hk : α → κ) (h : α → β) (hl : L.length ≤ 1000000) (h1 : ∀ x ∈ L, k x = .ok (hk x)) (h2 : ∀ x ∈ L, f x = .ok (h x)) : cmdR L k f = .ok (L.foldl (fun d x => d.put (hk x) (h x)) ⟨[]⟩) := by
  unfold cmdR
  rw [if_pos (small_le hl), dcR_ok hk h h1 h2]
/-! tests -/
@[simp] theorem eqC_int {a b : Int} : eqC a b = decide (a = b) := by
  unfold eqC
  rfl
@[simp] theorem eqC_str {a b : Str} : eqC a b = decide (a = b) := by
  unfold eqC
  rfl
@[simp] theorem eqC_bool {a b : Bool} : eqC a b = decide (a = b) := by
  unfold eqC
  rfl
theorem inL_iff {α : Type} [Sc α] {x : α} {l : List α} : inL x l = true ↔ x ∈ l := by
  unfold inL
  rw [List.any_eq_true]
  constructor
  · rintro ⟨y, h1, h2⟩
    rw [eqC_iff] at h2
    exact h2 ▸ h1
  · exact fun h => ⟨x, h, eqC_iff.mpr rfl⟩
theorem inL_eq {α : Type} [Sc α] [DecidableEq α] {x : α} {l : List α} : inL x l = decide (x ∈ l) := by
  rw [Bool.eq_iff_iff, inL_iff, decide_eq_true_iff]
theorem len_eq {α : Type} {l : List α} : len l = (l.length : Int) := by
  have h : len l = (l.length : Int) := rfl
  exact h
/-! numbers of a text -/
theorem strI_ok {i : Int} (h0 : 0 ≤ i) (h1 : i < 2 ^ 62) : strI i = .ok (toString i : String) := by
  unfold strI
  rw [if_pos]
  have : i.natAbs < 2 ^ 62 := by omega
  by_cases h : i.natAbs = 0
  · rw [h]; decide
  · have := (Nat.log2_lt h).mpr this
    omega
theorem eqR_ok {α : Type} [Dt α] {a b : α} (h1 : Dt.fit a = true) (h2 : Dt.fit b = true) : eqR a b = .ok (eqD a b) := by
  unfold eqR
  rw [if_pos (by rw [h1, h2]; rfl)]
theorem neR_ok {α : Type} [Dt α] {a b : α} (h1 : Dt.fit a = true) (h2 : Dt.fit b = true) : neR a b = .ok (!eqD a b) := by
  unfold neR
  rw [if_pos (by rw [h1, h2]; rfl)]
theorem eqD_self {α : Type} [Dt α] {a : α} : eqD a a = true := eqD_iff.mpr rfl
end TL
namespace TL
open PySem L2 DL
open Ty (enc)
open Mt (co)
/-! ### answers that keep something -/
def R.Sat {α : Type} (t : R α) (P : α → Prop) : Prop := ∃ a, t = .ok a ∧ P a
theorem Sat.ok {α : Type} {a : α} {P : α → Prop} (h : P a) : (R.ok a).Sat P := ⟨a, rfl, h⟩
theorem Sat.bind {α β : Type} {t : R α} {P : α → Prop} {k : α → R β} {Q : β → Prop} (h : t.Sat P) (hk : ∀ a, P a → (k a).Sat Q) : (t.bind k).Sat Q := by
  obtain ⟨a, e, p⟩ := h
  rw [e]
  exact hk a p
theorem Sat.imp {α : Type} {t : R α} {P Q : α → Prop} (h : t.Sat P) (w : ∀ a, P a → Q a) : t.Sat Q := by
  obtain ⟨a, e, p⟩ := h
  exact ⟨a, e, w a p⟩
theorem Sat.ite {α : Type} {c : Bool} {u v : R α} {Q : α → Prop} (hu : c = true → u.Sat Q) (hv : c = false → v.Sat Q) : (if c = true then u else v).Sat Q := by
  cases c with
  | true => exact hu rfl
  | false => exact hv rfl
theorem Sat.iteR {α : Type} {c : R Bool} {u v : R α} {P : Bool → Prop} {Q : α → Prop} (h : c.Sat P) (hu : P true → u.Sat Q) (hv : P false → v.Sat Q) : (iteR c u v).Sat Q := Sat.bind h fun b hb => by
  cases b with
  | true => exact hu hb
  | false => exact hv hb
theorem Sat.foldR {α σ : Type} {b : α → σ → R σ} {L : List α} {s : σ} (I : List α → σ → Prop) (h0 : I [] s) (h : ∀ d x r s, L = d ++ x :: r → I d s → (b x s).Sat (I (d ++ [x]))) : (foldR b L s).Sat (I L) := by
  have := foldR_inv (b := b) (L := L) (done := []) I h0 (fun d x r s e hi => by
    obtain ⟨s', e1, e2⟩ := h d x r s e (by simpa using hi)
    exact ⟨s', e1, by simpa using e2⟩)
  obtain ⟨s', e1, e2⟩ := this
  exact ⟨s', e1, by simpa using e2⟩
theorem Sat.lcR {α β : Type} {f : α → R β} {Q : α → β → Prop} : ∀ {L : List α}, (∀ x ∈ L, (f x).Sat (Q x)) → (lcR f L).Sat fun l => l.length = L.length ∧ ∀ (i : Nat) x y, L[i]? = some x → l[i]? = some y → Q x y
  | [], _ => Sat.ok ⟨rfl, fun i x y h => by simp at h⟩
  | x :: L, h => by
    obtain ⟨y, e, hy⟩ := h x List.mem_cons_self
    obtain ⟨l, e2, h2, h3⟩ := Sat.lcR (L := L) fun z hz => h z (List.mem_cons_of_mem _ hz)
    refine ⟨y :: l, ?_, by simp [h2], fun i a b ha hb => ?_⟩
    · rw [TL.lcR, e, R.nox_ok, R.bind_ok, e2]
      rfl
    · cases i with
      | zero => simp at ha hb; subst ha hb; exact hy
      | succ i => exact h3 i a b (by simpa using ha) (by simpa using hb)
theorem Sat.cmpR {α β : Type} {f : α → R β} {Q : α → β → Prop} {L : List α} (hl : L.length ≤ 1000000) (h : ∀ x ∈ L, (f x).Sat (Q x)) : (cmpR L f).Sat fun l => l.length = L.length ∧ ∀ (i : Nat) x y, L[i]? = some x → l[i]? = some y → Q x y := by
  unfold TL.cmpR
  rw [if_pos (small_le hl)]
  exact Sat.lcR h
theorem Sat.ixL {α : Type} {l : List α} {i : Int} (h0 : 0 ≤ i) (h1 : i < l.length) : (ixL l i).Sat fun a => a ∈ l ∧ l[i.toNat]? = some a := by
  obtain ⟨a, e1, e2, e3⟩ := ixL_mem h0 h1
  exact ⟨a, e1, e2, e3⟩
theorem rngI_get {lo : Int} {k i : Nat} {x : Int} (h : (rngI lo k)[i]? = some x) : x = lo + i ∧ i < k := by
  unfold rngI at h
  rw [List.getElem?_map] at h
  cases q : (List.range k)[i]? with
  | none => rw [q] at h; cases h
  | some j =>
    rw [q] at h
    cases h
    have hi : i < k := by
      have := (List.getElem?_eq_some_iff.mp q).1
      simpa using this
    rw [List.getElem?_range hi] at q
    cases q
    exact ⟨rfl, hi⟩
theorem rngI_split {lo : Int} {k : Nat} {d r : List Int} {x : Int} (h : rngI lo k = d ++ x :: r) : x = lo + d.length ∧ d.length < k ∧ d = rngI lo d.length := by
  have e : (rngI lo k)[d.length]? = some x := by rw [h]; simp
  obtain ⟨e1, e2⟩ := rngI_get e
  refine ⟨e1, e2, ?_⟩
  apply List.ext_getElem?
  intro i
  by_cases hi : i < d.length
  · have a1 : d[i]? = (rngI lo k)[i]? := by rw [h, List.getElem?_append_left hi]
    rw [a1]
    unfold rngI
    rw [List.getElem?_map, List.getElem?_map, List.getElem?_range (by omega), List.getElem?_range hi]
  · rw [List.getElem?_eq_none (by omega), List.getElem?_eq_none (by rw [rngI_len]; omega)]
theorem of_Sat {α : Type} {t : R α} {P : α → Prop} {a : α} (h : t.Sat P) (e : t = .ok a) : P a := by
  obtain ⟨b, e1, p⟩ := h
  rw [e1] at e
  cases e
  exact p
/-- len(set(l)) -/
theorem stS_len (acc : List Str) (l : List Str) : (l.foldl stS acc).length ≤ acc.length + l.length ∧ ((l.foldl stS acc).length = acc.length + l.length ↔ l.Nodup ∧ ∀ x ∈ l, x ∉ acc) := by
  induction l generalizing acc with
  | nil => simp
  | cons x l ih =>
    rw [List.foldl_cons]
    by_cases h : x ∈ acc
    · have e : stS acc x = acc := by
        unfold stS
        rw [if_pos]
        rw [List.any_eq_true]
        exact ⟨x, h, by simp⟩
      rw [e]
      obtain ⟨h1, h2⟩ := ih acc
      refine ⟨by simp; omega, ⟨fun he => ?_, fun he => absurd h (he.2 x List.mem_cons_self)⟩⟩
      simp at he
      omega
    · have e : stS acc x = acc ++ [x] := by
        unfold stS
        rw [if_neg]
        rw [List.any_eq_true]
        rintro ⟨y, hy, e⟩
        have : y = x := by simpa using e
        exact h (this ▸ hy)
      rw [e]
      obtain ⟨h1, h2⟩ := ih (acc ++ [x])
      rw [List.length_append] at h1 h2
      refine ⟨by simp at h1 ⊢; omega, ?_⟩
      have : (l.foldl stS (acc ++ [x])).length = acc.length + (x :: l).length ↔ (l.foldl stS (acc ++ [x])).length = acc.length + [x].length + l.length := by simp; omega
      rw [this, h2, List.nodup_cons]
      constructor
      · rintro ⟨a, b⟩
        refine ⟨⟨fun hx => b x hx (by simp), a⟩, fun y hy => ?_⟩
        rcases List.mem_cons.mp hy with rfl | hy
        · exact h
        · exact fun hz => b y hy (List.mem_append_left _ hz)
      · rintro ⟨⟨a, b⟩, c⟩
        refine ⟨b, fun y hy hz => ?_⟩
        rcases List.mem_append.mp hz with hz | hz
        · exact c y (List.mem_cons_of_mem _ hy) hz
        · rw [List.mem_singleton] at hz
          exact a (hz ▸ hy)
theorem setLen_ok {l : List Str} (h : l.length ≤ 4000) : ∃ m : Int, setLen l = .ok m ∧ (m < (l.length : Int) ↔ ¬ l.Nodup) := by
  unfold setLen
  rw [if_pos h]
  refine ⟨_, rfl, ?_⟩
  unfold DL.frs
  rw [List.take_of_length_le (Nat.le_refl _)]
  obtain ⟨h1, h2⟩ := stS_len [] l
  simp at h1 h2
  rw [← h2]
  omega
end TL

namespace K01
open PySem L2 DL
section
open PyProof.Rows
/-! ### the text -/
def top (i : Nat) : Stmt := PySem.Challenge.pw_everybodyout_k01_house_refused_or_kept.main.body.getD i (.Pass ⟨0, 0, 0, 0⟩)
def clsB : Stmt → List Stmt
  | .ClassDef _ _ _ b _ _ _ _ _ _ _ => b
  | _ => []
def inC (i j : Nat) : Stmt := (clsB (top i)).getD j (.Pass ⟨0, 0, 0, 0⟩)

/-- what the names of the text stand for -/
structure Gs (K : PySem.W.Frag) (mg : Str → Option Value) : Prop where
  n_ValueError : mg ("ValueError" : Str) = none
  n_abs : mg ("abs" : Str) = none
  n_bool : mg ("bool" : Str) = none
  n_enumerate : mg ("enumerate" : Str) = none
  n_int : mg ("int" : Str) = none
  n_isinstance : mg ("isinstance" : Str) = none
  n_len : mg ("len" : Str) = none
  n_list : mg ("list" : Str) = none
  n_min : mg ("min" : Str) = none
  n_range : mg ("range" : Str) = none
  n_set : mg ("set" : Str) = none
  n_str : mg ("str" : Str) = none
  n_tuple : mg ("tuple" : Str) = none
  c_LETTERS : ∃ t, mg ("LETTERS" : Str) = some (.str ("abcdefghijklmnopqrstuvwxyz" : Str) t)
  c_LONGEST_NAME : ∃ t, mg ("LONGEST_NAME" : Str) = some (.int (12 : Int) t)
  c_MOST_EXITS : ∃ t, mg ("MOST_EXITS" : Str) = some (.int (4 : Int) t)
  c_MOST_HOLD : ∃ t, mg ("MOST_HOLD" : Str) = some (.int (200 : Int) t)
  c_MOST_ROOMS : ∃ t, mg ("MOST_ROOMS" : Str) = some (.int (8 : Int) t)
  c_MOST_TIME : ∃ t, mg ("MOST_TIME" : Str) = some (.int (5 : Int) t)
  c_MOST_WAYS : ∃ t, mg ("MOST_WAYS" : Str) = some (.int (20 : Int) t)
  c_MOST_WIDTH : ∃ t, mg ("MOST_WIDTH" : Str) = some (.int (50 : Int) t)
  c_SIGNS : ∃ t, mg ("SIGNS" : Str) = some (.str ("abcdefghijklmnopqrstuvwxyz0123456789" : Str) t)
  g_AlarmOver : mg ("AlarmOver" : Str) = some (.ref (He.ga K ("AlarmOver" : Str)))
  g_BadBook : mg ("BadBook" : Str) = some (.ref (He.ga K ("BadBook" : Str)))
  g_BadBounds : mg ("BadBounds" : Str) = some (.ref (He.ga K ("BadBounds" : Str)))
  g_BadClosing : mg ("BadClosing" : Str) = some (.ref (He.ga K ("BadClosing" : Str)))
  g_BadCourse : mg ("BadCourse" : Str) = some (.ref (He.ga K ("BadCourse" : Str)))
  g_BadCover : mg ("BadCover" : Str) = some (.ref (He.ga K ("BadCover" : Str)))
  g_BadCrowd : mg ("BadCrowd" : Str) = some (.ref (He.ga K ("BadCrowd" : Str)))
  g_BadCut : mg ("BadCut" : Str) = some (.ref (He.ga K ("BadCut" : Str)))
  g_BadDeed : mg ("BadDeed" : Str) = some (.ref (He.ga K ("BadDeed" : Str)))
  g_BadFire : mg ("BadFire" : Str) = some (.ref (He.ga K ("BadFire" : Str)))
  g_BadFloor : mg ("BadFloor" : Str) = some (.ref (He.ga K ("BadFloor" : Str)))
  g_BadHour : mg ("BadHour" : Str) = some (.ref (He.ga K ("BadHour" : Str)))
  g_BadHouse : mg ("BadHouse" : Str) = some (.ref (He.ga K ("BadHouse" : Str)))
  g_BadLimit : mg ("BadLimit" : Str) = some (.ref (He.ga K ("BadLimit" : Str)))
  g_BadLinks : mg ("BadLinks" : Str) = some (.ref (He.ga K ("BadLinks" : Str)))
  g_BadMinutes : mg ("BadMinutes" : Str) = some (.ref (He.ga K ("BadMinutes" : Str)))
  g_BadMovement : mg ("BadMovement" : Str) = some (.ref (He.ga K ("BadMovement" : Str)))
  g_BadNeeds : mg ("BadNeeds" : Str) = some (.ref (He.ga K ("BadNeeds" : Str)))
  g_BadNet : mg ("BadNet" : Str) = some (.ref (He.ga K ("BadNet" : Str)))
  g_BadOffers : mg ("BadOffers" : Str) = some (.ref (He.ga K ("BadOffers" : Str)))
  g_BadReport : mg ("BadReport" : Str) = some (.ref (He.ga K ("BadReport" : Str)))
  g_BadSigns : mg ("BadSigns" : Str) = some (.ref (He.ga K ("BadSigns" : Str)))
  g_BadTable : mg ("BadTable" : Str) = some (.ref (He.ga K ("BadTable" : Str)))
  g_BadTeams : mg ("BadTeams" : Str) = some (.ref (He.ga K ("BadTeams" : Str)))
  g_BadText : mg ("BadText" : Str) = some (.ref (He.ga K ("BadText" : Str)))
  g_BadTroubles : mg ("BadTroubles" : Str) = some (.ref (He.ga K ("BadTroubles" : Str)))
  g_BadWalk : mg ("BadWalk" : Str) = some (.ref (He.ga K ("BadWalk" : Str)))
  g_EverybodyError : mg ("EverybodyError" : Str) = some (.ref (He.ga K ("EverybodyError" : Str)))
  g_House : mg ("House" : Str) = some (.ref (He.ga K ("House" : Str)))
  g_NoFlow : mg ("NoFlow" : Str) = some (.ref (He.ga K ("NoFlow" : Str)))
  g_NoHistory : mg ("NoHistory" : Str) = some (.ref (He.ga K ("NoHistory" : Str)))
  g_NothingToRedo : mg ("NothingToRedo" : Str) = some (.ref (He.ga K ("NothingToRedo" : Str)))
  g_NothingToUndo : mg ("NothingToUndo" : Str) = some (.ref (He.ga K ("NothingToUndo" : Str)))
  g_ReportClash : mg ("ReportClash" : Str) = some (.ref (He.ga K ("ReportClash" : Str)))
  g_TooLarge : mg ("TooLarge" : Str) = some (.ref (He.ga K ("TooLarge" : Str)))
  g_UnknownName : mg ("UnknownName" : Str) = some (.ref (He.ga K ("UnknownName" : Str)))
  g_UnknownReport : mg ("UnknownReport" : Str) = some (.ref (He.ga K ("UnknownReport" : Str)))
  g__check_exits : mg ("_check_exits" : Str) = some (.ref (He.ga K ("_check_exits" : Str)))
  g__check_rooms : mg ("_check_rooms" : Str) = some (.ref (He.ga K ("_check_rooms" : Str)))
  g__check_ways : mg ("_check_ways" : Str) = some (.ref (He.ga K ("_check_ways" : Str)))
  g__law_changed : mg ("_law_changed" : Str) = some (.ref (He.ga K ("_law_changed" : Str)))
  g__law_draw : mg ("_law_draw" : Str) = some (.ref (He.ga K ("_law_draw" : Str)))
  g__law_is_house : mg ("_law_is_house" : Str) = some (.ref (He.ga K ("_law_is_house" : Str)))
  g__law_is_word : mg ("_law_is_word" : Str) = some (.ref (He.ga K ("_law_is_word" : Str)))
  g__law_kept : mg ("_law_kept" : Str) = some (.ref (He.ga K ("_law_kept" : Str)))
  g__law_lists : mg ("_law_lists" : Str) = some (.ref (He.ga K ("_law_lists" : Str)))
  g__law_made : mg ("_law_made" : Str) = some (.ref (He.ga K ("_law_made" : Str)))
  g__law_name : mg ("_law_name" : Str) = some (.ref (He.ga K ("_law_name" : Str)))
  g__law_odd : mg ("_law_odd" : Str) = some (.ref (He.ga K ("_law_odd" : Str)))
  g__law_renamed : mg ("_law_renamed" : Str) = some (.ref (He.ga K ("_law_renamed" : Str)))
  g__law_same : mg ("_law_same" : Str) = some (.ref (He.ga K ("_law_same" : Str)))
  g__law_swap : mg ("_law_swap" : Str) = some (.ref (He.ga K ("_law_swap" : Str)))
  g__law_way_changed : mg ("_law_way_changed" : Str) = some (.ref (He.ga K ("_law_way_changed" : Str)))
  g_is_name : mg ("is_name" : Str) = some (.ref (He.ga K ("is_name" : Str)))
  g_law : mg ("law" : Str) = some (.ref (He.ga K ("law" : Str)))
  x_BadHouse : PySem.W.excIn K (He.ga K ("BadHouse" : Str)) He.veBase "ValueError.__new__" = true ∧ PySem.W.keepIn K (.ref (He.ga K ("BadHouse" : Str))) = true ∧ PySem.W.subIn K (.ref (He.ga K ("BadHouse" : Str))) (.type "BaseException") = some true ∧ PySem.W.typeIn K (.ref (He.ga K ("BadHouse" : Str))) = some (.type "type")
  cl_House : Cls K (He.ga K ("House" : Str))
  mk_House : Mk K (He.ga K ("House" : Str)) (He.ma K (He.ga K ("House" : Str)) "__init__")

/-! ### the readings -/
noncomputable def g_is_name (K : PySem.W.Frag) : DSn := (dSeq (dIf (dOr (dTst (dBin gLt (dCallB (orC gLen gLenD) (dCons (dVar 0) dNil)) (dC (.int (1 : Int))))) (dOr (dTst (dBin gGt (dCallB (orC gLen gLenD) (dCons (dVar 0) dNil)) (dC (.int (12 : Int))))) (dTst (dBin (gIn true) (dBin gIx (dVar 0) (dC (.int (0 : Int)))) (dC (.str ("abcdefghijklmnopqrstuvwxyz" : Str)))))))
  (dRet (dC (.bl false)))
  dNext)
  (dSeq (dFor [1] (dWalk (dVar 0)) (gNm 1)
  (dIf (dTst (dBin (gIn true) (dVar 1) (dC (.str ("abcdefghijklmnopqrstuvwxyz0123456789" : Str)))))
  (dRet (dC (.bl false)))
  dNext))
  (dRet (dC (.bl true)))))
noncomputable def F_is_name (K : PySem.W.Frag) : Fn := fnP 2 (g_is_name K)
noncomputable def g__check_exits (K : PySem.W.Frag) : DSn := (dSeq (dIf (dOr (dTst (dBin gLt (dCallB (orC gLen gLenD) (dCons (dVar 0) dNil)) (dC (.int (1 : Int))))) (dTst (dBin gGt (dCallB (orC gLen gLenD) (dCons (dVar 0) dNil)) (dC (.int (4 : Int))))))
  (dRaise (dX1 (He.ga K ("BadHouse" : Str)) (dJn [(dC (.str ("a house has 1 to " : Str))), (dFmt (dC (.int (4 : Int)))), (dC (.str (" exits" : Str)))] Str.empty)))
  dNext)
  (dFor [1] (dWalk (dVar 0)) (gNm 1)
  (dIf (dNot (dTst (dCall (F_is_name K) (dCons (dVar 1) dNil))))
  (dRaise (dX1 (He.ga K ("BadHouse" : Str)) (dC (.str ("the name of an exit is not valid" : Str)))))
  dNext)))
noncomputable def F__check_exits (K : PySem.W.Frag) : Fn := fnP 2 (g__check_exits K)
noncomputable def g__check_rooms (K : PySem.W.Frag) : DSn := (dSeq (dIf (dOr (dTst (dBin gLt (dCallB (orC gLen gLenD) (dCons (dVar 0) dNil)) (dC (.int (1 : Int))))) (dTst (dBin gGt (dCallB (orC gLen gLenD) (dCons (dVar 0) dNil)) (dC (.int (8 : Int))))))
  (dRaise (dX1 (He.ga K ("BadHouse" : Str)) (dJn [(dC (.str ("a house has 1 to " : Str))), (dFmt (dC (.int (8 : Int)))), (dC (.str (" rooms" : Str)))] Str.empty)))
  dNext)
  (dFor [1, 2] (dWalk (dVar 0)) (gTp (gsCons (gNm 1) (gsCons (gNm 2) gsNil)))
  (dSeq (dIf (dNot (dTst (dCall (F_is_name K) (dCons (dVar 1) dNil))))
  (dRaise (dX1 (He.ga K ("BadHouse" : Str)) (dC (.str ("the name of a room is not valid" : Str)))))
  dNext)
  (dIf (dOr (dTst (dBin gLt (dVar 2) (dC (.int (0 : Int))))) (dTst (dBin gGt (dVar 2) (dC (.int (200 : Int))))))
  (dRaise (dX1 (He.ga K ("BadHouse" : Str)) (dJn [(dC (.str ("the hold of " : Str))), (dFmt (dVar 1)), (dC (.str (" is not from 0 to " : Str))), (dFmt (dC (.int (200 : Int))))] Str.empty)))
  dNext))))
noncomputable def F__check_rooms (K : PySem.W.Frag) : Fn := fnP 3 (g__check_rooms K)
noncomputable def g__check_ways (K : PySem.W.Frag) : DSn := (dSeq (dIf (dTst (dBin gGt (dCallB (orC gLen gLenD) (dCons (dVar 0) dNil)) (dC (.int (20 : Int)))))
  (dRaise (dX1 (He.ga K ("BadHouse" : Str)) (dJn [(dC (.str ("a house has at most " : Str))), (dFmt (dC (.int (20 : Int)))), (dC (.str (" ways" : Str)))] Str.empty)))
  dNext)
  (dFor [3, 4, 5, 6, 7] (dWalk (dVar 0)) (gTp (gsCons (gNm 3) (gsCons (gNm 4) (gsCons (gNm 5) (gsCons (gNm 6) (gsCons (gNm 7) gsNil))))))
  (dSeq (dIf (dNot (dTst (dCall (F_is_name K) (dCons (dVar 3) dNil))))
  (dRaise (dX1 (He.ga K ("BadHouse" : Str)) (dC (.str ("the name of a way is not valid" : Str)))))
  dNext)
  (dSeq (dIf (dTst (dBin (gIn true) (dVar 4) (dVar 1)))
  (dRaise (dX1 (He.ga K ("BadHouse" : Str)) (dJn [(dC (.str ("the start of " : Str))), (dFmt (dVar 3)), (dC (.str (" is no room" : Str)))] Str.empty)))
  dNext)
  (dSeq (dIf (dOr (dTst (dBin (gEq false) (dVar 5) (dVar 4))) (dTst (dBin (gIn true) (dVar 5) (dBin gAdd (dVar 1) (dVar 2)))))
  (dRaise (dX1 (He.ga K ("BadHouse" : Str)) (dJn [(dC (.str ("the end of " : Str))), (dFmt (dVar 3)), (dC (.str (" is its start, or no place" : Str)))] Str.empty)))
  dNext)
  (dSeq (dIf (dOr (dTst (dBin gLt (dVar 6) (dC (.int (0 : Int))))) (dTst (dBin gGt (dVar 6) (dC (.int (50 : Int))))))
  (dRaise (dX1 (He.ga K ("BadHouse" : Str)) (dJn [(dC (.str ("the width of " : Str))), (dFmt (dVar 3)), (dC (.str (" is not from 0 to " : Str))), (dFmt (dC (.int (50 : Int))))] Str.empty)))
  dNext)
  (dIf (dOr (dTst (dBin gLt (dVar 7) (dC (.int (1 : Int))))) (dTst (dBin gGt (dVar 7) (dC (.int (5 : Int))))))
  (dRaise (dX1 (He.ga K ("BadHouse" : Str)) (dJn [(dC (.str ("the time of " : Str))), (dFmt (dVar 3)), (dC (.str (" is not from 1 to " : Str))), (dFmt (dC (.int (5 : Int))))] Str.empty)))
  dNext)))))))
noncomputable def F__check_ways (K : PySem.W.Frag) : Fn := fnP 8 (g__check_ways K)
noncomputable def g_House___init__ (K : PySem.W.Frag) : DSn := (dSeq (dPutF K ("rooms" : Str) (dVar 0) (dCallB gTuple (dCons (dPub (dLc [8, 9] (dWalk (dVar 1)) (gTp (gsCons (gNm 8) (gsCons (gNm 9) gsNil))) dYes (dTup (dCons (dVar 8) (dCons (dVar 9) dNil))))) dNil)))
  (dSeq (dPutF K ("exits" : Str) (dVar 0) (dCallB gTuple (dCons (dVar 2) dNil)))
  (dSeq (dPutF K ("ways" : Str) (dVar 0) (dCallB gTuple (dCons (dPub (dLc [8, 10, 11, 12, 13] (dWalk (dVar 3)) (gTp (gsCons (gNm 8) (gsCons (gNm 10) (gsCons (gNm 11) (gsCons (gNm 12) (gsCons (gNm 13) gsNil)))))) dYes (dTup (dCons (dVar 8) (dCons (dVar 10) (dCons (dVar 11) (dCons (dVar 12) (dCons (dVar 13) dNil)))))))) dNil)))
  (dSeq (dSet 4 (dPub (dLc [14] (dWalk (dFld K ("rooms" : Str) (dVar 0))) (gNm 14) dYes (dBin gIx (dVar 14) (dC (.int (0 : Int)))))))
  (dSeq (dSet 5 (dPub (dCallF gList (dCons (dFld K ("exits" : Str) (dVar 0)) dNil))))
  (dSeq (dSet 6 (dPub (dLc [15] (dWalk (dFld K ("ways" : Str) (dVar 0))) (gNm 15) dYes (dBin gIx (dVar 15) (dC (.int (0 : Int)))))))
  (dSeq (dDrop (dCall (F__check_rooms K) (dCons (dFld K ("rooms" : Str) (dVar 0)) dNil)))
  (dSeq (dDrop (dCall (F__check_exits K) (dCons (dFld K ("exits" : Str) (dVar 0)) dNil)))
  (dSeq (dDrop (dCall (F__check_ways K) (dCons (dFld K ("ways" : Str) (dVar 0)) (dCons (dVar 4) (dCons (dVar 5) dNil)))))
  (dSeq (dSet 7 (dBin gAdd (dBin gAdd (dVar 4) (dVar 5)) (dVar 6)))
  (dSeq (dIf (dTst (dBin gLt (dLenTx (dVar 7)) (dCallB (orC gLen gLenD) (dCons (dVar 7) dNil))))
  (dRaise (dX1 (He.ga K ("BadHouse" : Str)) (dC (.str ("a name stands twice" : Str)))))
  dNext)
  (dSeq (dPutF K ("_room_at" : Str) (dVar 0) (dPub (dDc [16, 8] (dEnum (dCons (dVar 4) dNil)) (gTp (gsCons (gNm 16) (gsCons (gNm 8) gsNil))) dYes (dVar 8) (dVar 16))))
  (dSeq (dPutF K ("_exit_at" : Str) (dVar 0) (dPub (dDc [16, 8] (dEnum (dCons (dVar 5) dNil)) (gTp (gsCons (gNm 16) (gsCons (gNm 8) gsNil))) dYes (dVar 8) (dVar 16))))
  (dPutF K ("_way_at" : Str) (dVar 0) (dPub (dDc [16, 8] (dEnum (dCons (dVar 6) dNil)) (gTp (gsCons (gNm 16) (gsCons (gNm 8) gsNil))) dYes (dVar 8) (dVar 16)))))))))))))))))
noncomputable def F_House___init__ (K : PySem.W.Frag) : Fn := fnM 17 (g_House___init__ K)
noncomputable def g__law_draw (K : PySem.W.Frag) : DSn := (dSeq (dSet 3 (dCallB gMin2 (dCons (dCallB (orC gLen gLenD) (dCons (dVar 0) dNil)) (dCons (dC (.int (63 : Int))) dNil))))
  (dSeq (dSet 4 (dC (.int (0 : Int))))
  (dSeq (dIf (dTst (dBin gGt (dVar 3) (dC (.int (0 : Int)))))
  (dSet 4 (dCallB gAbs (dCons (dBin gIx (dVar 0) (dBin gMod (dVar 1) (dVar 3))) dNil)))
  dNext)
  (dSeq (dIf (dTst (dBin gGe (dVar 4) (dBin gPow (dC (.int (10 : Int))) (dC (.int (18 : Int))))))
  (dSeq (dSet 5 (dVar 4))
  (dSeq (dFor [6] (dRng1 (dCons (dBin gDiv (dVar 1) (dVar 3)) dNil)) (gNm 6)
  (dSet 5 (dBin gDiv (dVar 5) (dC (.int (10000 : Int))))))
  (dIf (dTst (dBin gGt (dVar 5) (dC (.int (0 : Int)))))
  (dRet (dBin gMod (dBin gMod (dCallB (orC gInt gIntS) (dCons (dVar 5) dNil)) (dC (.int (10000 : Int)))) (dVar 2)))
  dNext)))
  dNext)
  (dSeq (dSet 7 (dBin gMod (dCallB (orC gInt gIntS) (dCons (dBin gAdd (dBin gAdd (dVar 4) (dBin gMul (dC (.int (7919 : Int))) (dVar 1))) (dC (.int (13 : Int)))) dNil)) (dC (.int (2147483647 : Int)))))
  (dSeq (dSet 7 (dBin gMod (dCallB (orC gInt gIntS) (dCons (dBin gMul (dVar 7) (dBin gAdd (dVar 7) (dC (.int (48271 : Int))))) dNil)) (dC (.int (2147483629 : Int)))))
  (dSeq (dSet 7 (dBin gMod (dCallB (orC gInt gIntS) (dCons (dBin gAdd (dBin gMul (dVar 7) (dBin gAdd (dVar 7) (dC (.int (69621 : Int))))) (dBin gMul (dC (.int (31 : Int))) (dVar 1))) dNil)) (dC (.int (2147483647 : Int)))))
  (dRet (dBin gMod (dCallB (orC gInt gIntS) (dCons (dBin gDiv (dVar 7) (dC (.int (9 : Int)))) dNil)) (dVar 2))))))))))
noncomputable def F__law_draw (K : PySem.W.Frag) : Fn := fnP 8 (g__law_draw K)
noncomputable def g__law_name (K : PySem.W.Frag) : DSn := (dSeq (dSet 2 (dC (.str ("abcdefghijklmnopqrstuvwxyz0123456789" : Str))))
  (dSeq (dSet 3 (dBin gAdd (dC (.int (1 : Int))) (dCall (F__law_draw K) (dCons (dVar 0) (dCons (dC (.int (900 : Int))) (dCons (dC (.int (4 : Int))) dNil))))))
  (dSeq (dSet 4 (dBin gAdd (dBin gAdd (dVar 3) (dC (.int (1 : Int)))) (dCall (F__law_draw K) (dCons (dVar 0) (dCons (dBin gAdd (dC (.int (901 : Int))) (dVar 1)) (dCons (dBin gSub (dC (.int (12 : Int))) (dVar 3)) dNil))))))
  (dSeq (dSet 5 (dBin gIx (dVar 2) (dCall (F__law_draw K) (dCons (dVar 0) (dCons (dBin gAdd (dC (.int (940 : Int))) (dVar 1)) (dCons (dC (.int (26 : Int))) dNil))))))
  (dSeq (dFor [6] (dRng2 (dCons (dC (.int (1 : Int))) (dCons (dVar 4) dNil))) (gNm 6)
  (dIf (dTst (dBin (gEq false) (dVar 6) (dVar 3)))
  (dSet 5 (dBin gAdd (dVar 5) (dBin gIx (dVar 2) (dBin gMod (dCallB (orC gInt gIntS) (dCons (dBin gAdd (dBin gMul (dVar 1) (dC (.int (7 : Int)))) (dCall (F__law_draw K) (dCons (dVar 0) (dCons (dC (.int (980 : Int))) (dCons (dC (.int (36 : Int))) dNil))))) dNil)) (dC (.int (36 : Int)))))))
  (dSet 5 (dBin gAdd (dVar 5) (dBin gIx (dVar 2) (dCall (F__law_draw K) (dCons (dVar 0) (dCons (dBin gAdd (dBin gAdd (dC (.int (1000 : Int))) (dBin gMul (dC (.int (12 : Int))) (dVar 1))) (dVar 6)) (dCons (dC (.int (36 : Int))) dNil)))))))))
  (dRet (dVar 5)))))))
noncomputable def F__law_name (K : PySem.W.Frag) : Fn := fnP 7 (g__law_name K)
noncomputable def g__law_lists (K : PySem.W.Frag) : DSn := (dSeq (dSet 4 (dOwn (dLst dNil)))
  (dSeq (dFor [5, 6] (dRng1 (dCons (dVar 1) dNil)) (gNm 5)
  (dSeq (dSet 6 (dBin gIx (dPub (dLst (dCons (dC (.int (0 : Int))) (dCons (dC (.int (1 : Int))) (dCons (dC (.int (200 : Int))) (dCons (dCall (F__law_draw K) (dCons (dVar 0) (dCons (dBin gAdd (dC (.int (10 : Int))) (dVar 5)) (dCons (dC (.int (201 : Int))) dNil)))) dNil)))))) (dCall (F__law_draw K) (dCons (dVar 0) (dCons (dBin gAdd (dC (.int (160 : Int))) (dVar 5)) (dCons (dC (.int (4 : Int))) dNil))))))
  (dDrop (dMth "list" gAppend (dVar 4) (dCons (dTup (dCons (dCall (F__law_name K) (dCons (dVar 0) (dCons (dVar 5) dNil))) (dCons (dVar 6) dNil))) dNil)))))
  (dSeq (dSet 7 (dPub (dLc [5] (dRng1 (dCons (dVar 2) dNil)) (gNm 5) dYes (dCall (F__law_name K) (dCons (dVar 0) (dCons (dBin gAdd (dVar 1) (dVar 5)) dNil))))))
  (dSeq (dSet 8 (dBin gAdd (dPub (dLc [14] (dWalk (dVar 4)) (gNm 14) dYes (dBin gIx (dVar 14) (dC (.int (0 : Int)))))) (dVar 7)))
  (dSeq (dSet 9 (dOwn (dLst dNil)))
  (dSeq (dFor [5, 10, 11, 12, 13] (dRng1 (dCons (dVar 3) dNil)) (gNm 5)
  (dIf (dAnd (dTst (dBin gGt (dVar 1) (dC (.int (0 : Int))))) (dTst (dBin gGt (dCallB (orC gLen gLenD) (dCons (dVar 8) dNil)) (dC (.int (1 : Int))))))
  (dSeq (dSet 10 (dCall (F__law_draw K) (dCons (dVar 0) (dCons (dBin gAdd (dC (.int (20 : Int))) (dVar 5)) (dCons (dVar 1) dNil)))))
  (dSeq (dSet 11 (dBin gMod (dCallB (orC gInt gIntS) (dCons (dBin gAdd (dBin gAdd (dVar 10) (dC (.int (1 : Int)))) (dCall (F__law_draw K) (dCons (dVar 0) (dCons (dBin gAdd (dC (.int (50 : Int))) (dVar 5)) (dCons (dBin gSub (dCallB (orC gLen gLenD) (dCons (dVar 8) dNil)) (dC (.int (1 : Int)))) dNil))))) dNil)) (dCallB (orC gLen gLenD) (dCons (dVar 8) dNil))))
  (dSeq (dSet 12 (dBin gIx (dPub (dLst (dCons (dC (.int (0 : Int))) (dCons (dC (.int (1 : Int))) (dCons (dC (.int (50 : Int))) (dCons (dCall (F__law_draw K) (dCons (dVar 0) (dCons (dBin gAdd (dC (.int (80 : Int))) (dVar 5)) (dCons (dC (.int (51 : Int))) dNil)))) dNil)))))) (dCall (F__law_draw K) (dCons (dVar 0) (dCons (dBin gAdd (dC (.int (180 : Int))) (dVar 5)) (dCons (dC (.int (4 : Int))) dNil))))))
  (dSeq (dSet 13 (dBin gAdd (dC (.int (1 : Int))) (dCall (F__law_draw K) (dCons (dVar 0) (dCons (dBin gAdd (dC (.int (110 : Int))) (dVar 5)) (dCons (dC (.int (5 : Int))) dNil))))))
  (dDrop (dMth "list" gAppend (dVar 9) (dCons (dTup (dCons (dCall (F__law_name K) (dCons (dVar 0) (dCons (dBin gAdd (dBin gAdd (dVar 1) (dVar 2)) (dVar 5)) dNil))) (dCons (dBin gIx (dVar 8) (dVar 10)) (dCons (dBin gIx (dVar 8) (dVar 11)) (dCons (dVar 12) (dCons (dVar 13) dNil)))))) dNil)))))))
  dNext))
  (dFz 9 (dFz 4 (dRet (dTup (dCons (dVar 4) (dCons (dVar 7) (dCons (dVar 9) dNil)))))))))))))
noncomputable def F__law_lists (K : PySem.W.Frag) : Fn := fnP 15 (g__law_lists K)
noncomputable def g__law_odd (K : PySem.W.Frag) : DSn := (dSeq (dSet 3 (dCall (F__law_draw K) (dCons (dVar 0) (dCons (dVar 1) (dCons (dC (.int (10 : Int))) dNil)))))
  (dSeq (dSet 4 (dCall (F__law_draw K) (dCons (dVar 0) (dCons (dBin gAdd (dVar 1) (dC (.int (1 : Int)))) (dCons (dCallB (orC gLen gLenD) (dCons (dVar 2) dNil)) dNil)))))
  (dSeq (dSet 5 (dC (.str (" !\"#$&'()*+,-./:;<=>?\u0040[\\]^_`{|}~" : Str))))
  (dSeq (dIf (dTst (dBin (gEq false) (dVar 3) (dC (.int (0 : Int)))))
  (dRet (dC (.str ("" : Str))))
  dNext)
  (dSeq (dIf (dTst (dBin (gEq false) (dVar 3) (dC (.int (1 : Int)))))
  (dRet (dSl gSl (dVar 2) dNoP (dPart (dC (.int (1 : Int))))))
  dNext)
  (dSeq (dIf (dTst (dBin (gEq false) (dVar 3) (dC (.int (2 : Int)))))
  (dRet (dSl gSl (dBin gAdd (dVar 2) (dC (.str ("abcdefghij0" : Str)))) dNoP (dPart (dC (.int (12 : Int))))))
  dNext)
  (dSeq (dIf (dTst (dBin (gEq false) (dVar 3) (dC (.int (3 : Int)))))
  (dRet (dSl gSl (dBin gAdd (dVar 2) (dC (.str ("abcdefghijk0" : Str)))) dNoP (dPart (dC (.int (13 : Int))))))
  dNext)
  (dSeq (dIf (dTst (dBin (gEq false) (dVar 3) (dC (.int (4 : Int)))))
  (dRet (dBin gAdd (dBin gAdd (dSl gSl (dVar 2) dNoP (dPart (dVar 4))) (dBin gIx (dC (.str ("ABCDEFGHIJKLMNOPQRSTUVWXYZ" : Str))) (dCall (F__law_draw K) (dCons (dVar 0) (dCons (dBin gAdd (dVar 1) (dC (.int (2 : Int)))) (dCons (dC (.int (26 : Int))) dNil)))))) (dSl gSl (dVar 2) (dPart (dBin gAdd (dVar 4) (dC (.int (1 : Int))))) dNoP)))
  dNext)
  (dSeq (dIf (dTst (dBin (gEq false) (dVar 3) (dC (.int (5 : Int)))))
  (dRet (dBin gAdd (dBin gIx (dC (.str ("0123456789" : Str))) (dCall (F__law_draw K) (dCons (dVar 0) (dCons (dBin gAdd (dVar 1) (dC (.int (2 : Int)))) (dCons (dC (.int (10 : Int))) dNil))))) (dSl gSl (dVar 2) (dPart (dC (.int (1 : Int)))) dNoP)))
  dNext)
  (dSeq (dIf (dTst (dBin (gEq false) (dVar 3) (dC (.int (6 : Int)))))
  (dRet (dBin gAdd (dSl gSl (dVar 2) dNoP (dPart (dC (.int (11 : Int))))) (dC (.str ("\n" : Str)))))
  dNext)
  (dSeq (dIf (dTst (dBin (gEq false) (dVar 3) (dC (.int (7 : Int)))))
  (dRet (dBin gAdd (dSl gSl (dVar 2) dNoP (dPart (dC (.int (11 : Int))))) (dC (.str (" " : Str)))))
  dNext)
  (dSeq (dIf (dTst (dBin (gEq false) (dVar 3) (dC (.int (8 : Int)))))
  (dRet (dBin gAdd (dC (.str (" " : Str))) (dSl gSl (dVar 2) dNoP (dPart (dC (.int (11 : Int)))))))
  dNext)
  (dRet (dBin gAdd (dBin gAdd (dSl gSl (dVar 2) dNoP (dPart (dVar 4))) (dBin gIx (dVar 5) (dCall (F__law_draw K) (dCons (dVar 0) (dCons (dBin gAdd (dVar 1) (dC (.int (2 : Int)))) (dCons (dCallB (orC gLen gLenD) (dCons (dVar 5) dNil)) dNil)))))) (dSl gSl (dVar 2) (dPart (dBin gAdd (dVar 4) (dC (.int (1 : Int))))) dNoP)))))))))))))))
noncomputable def F__law_odd (K : PySem.W.Frag) : Fn := fnP 6 (g__law_odd K)
noncomputable def g__law_swap (K : PySem.W.Frag) : DSn := (dSeq (dIf (dTst (dBin (gEq false) (dVar 0) (dVar 1)))
  (dRet (dVar 2))
  dNext)
  (dRet (dVar 0)))
noncomputable def F__law_swap (K : PySem.W.Frag) : Fn := fnP 3 (g__law_swap K)
noncomputable def g__law_renamed (K : PySem.W.Frag) : DSn := (dSeq (dSet 3 (dPub (dLc [8] (dWalk (dBin gIx (dVar 0) (dC (.int (0 : Int))))) (gNm 8) dYes (dTup (dCons (dCall (F__law_swap K) (dCons (dBin gIx (dVar 8) (dC (.int (0 : Int)))) (dCons (dVar 1) (dCons (dVar 2) dNil)))) (dCons (dBin gIx (dVar 8) (dC (.int (1 : Int)))) dNil))))))
  (dSeq (dSet 4 (dPub (dLc [9] (dWalk (dBin gIx (dVar 0) (dC (.int (1 : Int))))) (gNm 9) dYes (dCall (F__law_swap K) (dCons (dVar 9) (dCons (dVar 1) (dCons (dVar 2) dNil)))))))
  (dSeq (dSet 5 (dOwn (dLst dNil)))
  (dSeq (dFor [6, 7] (dWalk (dBin gIx (dVar 0) (dC (.int (2 : Int))))) (gNm 6)
  (dSeq (dSet 7 (dTup (dCons (dCall (F__law_swap K) (dCons (dBin gIx (dVar 6) (dC (.int (1 : Int)))) (dCons (dVar 1) (dCons (dVar 2) dNil)))) (dCons (dCall (F__law_swap K) (dCons (dBin gIx (dVar 6) (dC (.int (2 : Int)))) (dCons (dVar 1) (dCons (dVar 2) dNil)))) dNil))))
  (dDrop (dMth "list" gAppend (dVar 5) (dCons (dTup (dCons (dCall (F__law_swap K) (dCons (dBin gIx (dVar 6) (dC (.int (0 : Int)))) (dCons (dVar 1) (dCons (dVar 2) dNil)))) (dCons (dBin gIx (dVar 7) (dC (.int (0 : Int)))) (dCons (dBin gIx (dVar 7) (dC (.int (1 : Int)))) (dCons (dBin gIx (dVar 6) (dC (.int (3 : Int)))) (dCons (dBin gIx (dVar 6) (dC (.int (4 : Int)))) dNil)))))) dNil)))))
  (dFz 5 (dRet (dTup (dCons (dVar 3) (dCons (dVar 4) (dCons (dVar 5) dNil))))))))))
noncomputable def F__law_renamed (K : PySem.W.Frag) : Fn := fnP 10 (g__law_renamed K)
noncomputable def g__law_way_changed (K : PySem.W.Frag) : DSn := (dSeq (dSet 4 (dCall (F__law_draw K) (dCons (dVar 0) (dCons (dVar 1) (dCons (dCallB (orC gLen gLenD) (dCons (dBin gIx (dVar 2) (dC (.int (2 : Int)))) dNil)) dNil)))))
  (dSeq (dSet 5 (dBin gIx (dBin gIx (dVar 2) (dC (.int (2 : Int)))) (dVar 4)))
  (dSeq (dSet 6 (dCall (F__law_draw K) (dCons (dVar 0) (dCons (dBin gAdd (dVar 1) (dC (.int (1 : Int)))) (dCons (dC (.int (10000 : Int))) dNil)))))
  (dSeq (dSet 7 (dCall (F__law_draw K) (dCons (dVar 0) (dCons (dBin gAdd (dVar 1) (dC (.int (2 : Int)))) (dCons (dC (.int (6 : Int))) dNil)))))
  (dSeq (dSet 8 (dBin gIx (dBin gIx (dVar 2) (dC (.int (1 : Int)))) (dCall (F__law_draw K) (dCons (dVar 0) (dCons (dBin gAdd (dVar 1) (dC (.int (1 : Int)))) (dCons (dCallB (orC gLen gLenD) (dCons (dBin gIx (dVar 2) (dC (.int (1 : Int)))) dNil)) dNil))))))
  (dSeq (dIf (dTst (dBin (gEq false) (dVar 3) (dC (.int (0 : Int)))))
  (dSet 5 (dTup (dCons (dBin gIx (dVar 5) (dC (.int (0 : Int)))) (dCons (dBin gIx (dVar 5) (dC (.int (1 : Int)))) (dCons (dBin gIx (dVar 5) (dC (.int (2 : Int)))) (dCons (dBin gIx (dPub (dLst (dCons (dNeg (dC (.int (1 : Int)))) (dCons (dC (.int (0 : Int))) (dCons (dC (.int (50 : Int))) (dCons (dC (.int (51 : Int))) (dCons (dBin gSub (dNeg (dC (.int (1 : Int)))) (dVar 6)) (dCons (dBin gAdd (dC (.int (51 : Int))) (dVar 6)) dNil)))))))) (dVar 7)) (dCons (dBin gIx (dVar 5) (dC (.int (4 : Int)))) dNil)))))))
  dNext)
  (dSeq (dIf (dTst (dBin (gEq false) (dVar 3) (dC (.int (1 : Int)))))
  (dSet 5 (dTup (dCons (dBin gIx (dVar 5) (dC (.int (0 : Int)))) (dCons (dBin gIx (dVar 5) (dC (.int (1 : Int)))) (dCons (dBin gIx (dVar 5) (dC (.int (2 : Int)))) (dCons (dBin gIx (dVar 5) (dC (.int (3 : Int)))) (dCons (dBin gIx (dPub (dLst (dCons (dC (.int (0 : Int))) (dCons (dC (.int (1 : Int))) (dCons (dC (.int (5 : Int))) (dCons (dC (.int (6 : Int))) (dCons (dBin gSub (dNeg (dC (.int (1 : Int)))) (dVar 6)) (dCons (dBin gAdd (dC (.int (6 : Int))) (dVar 6)) dNil)))))))) (dVar 7)) dNil)))))))
  dNext)
  (dSeq (dIf (dTst (dBin (gEq false) (dVar 3) (dC (.int (2 : Int)))))
  (dSeq (dSet 5 (dTup (dCons (dBin gIx (dVar 5) (dC (.int (0 : Int)))) (dCons (dBin gIx (dPub (dLst (dCons (dVar 8) (dCons (dVar 8) (dCons (dCall (F__law_name K) (dCons (dVar 0) (dCons (dC (.int (35 : Int))) dNil))) (dCons (dBin gIx (dVar 5) (dC (.int (0 : Int)))) (dCons (dVar 8) (dCons (dC (.str ("" : Str))) dNil)))))))) (dVar 7)) (dCons (dBin gIx (dVar 5) (dC (.int (2 : Int)))) (dCons (dBin gIx (dVar 5) (dC (.int (3 : Int)))) (dCons (dBin gIx (dVar 5) (dC (.int (4 : Int)))) dNil)))))))
  (dIf (dTst (dBin (gEq false) (dBin gIx (dVar 5) (dC (.int (1 : Int)))) (dBin gIx (dVar 5) (dC (.int (2 : Int))))))
  (dSet 5 (dTup (dCons (dBin gIx (dVar 5) (dC (.int (0 : Int)))) (dCons (dBin gIx (dVar 5) (dC (.int (1 : Int)))) (dCons (dBin gIx (dBin gIx (dBin gIx (dVar 2) (dC (.int (0 : Int)))) (dC (.int (0 : Int)))) (dC (.int (0 : Int)))) (dCons (dBin gIx (dVar 5) (dC (.int (3 : Int)))) (dCons (dBin gIx (dVar 5) (dC (.int (4 : Int)))) dNil)))))))
  dNext))
  dNext)
  (dSeq (dIf (dTst (dBin (gEq false) (dVar 3) (dC (.int (3 : Int)))))
  (dSeq (dSet 9 (dBin gIx (dBin gIx (dBin gIx (dVar 2) (dC (.int (2 : Int)))) (dCall (F__law_draw K) (dCons (dVar 0) (dCons (dBin gAdd (dVar 1) (dC (.int (1 : Int)))) (dCons (dCallB (orC gLen gLenD) (dCons (dBin gIx (dVar 2) (dC (.int (2 : Int)))) dNil)) dNil))))) (dC (.int (0 : Int)))))
  (dSet 5 (dTup (dCons (dBin gIx (dVar 5) (dC (.int (0 : Int)))) (dCons (dBin gIx (dVar 5) (dC (.int (1 : Int)))) (dCons (dBin gIx (dPub (dLst (dCons (dBin gIx (dVar 5) (dC (.int (1 : Int)))) (dCons (dBin gIx (dVar 5) (dC (.int (1 : Int)))) (dCons (dCall (F__law_name K) (dCons (dVar 0) (dCons (dC (.int (35 : Int))) dNil))) (dCons (dBin gIx (dVar 5) (dC (.int (0 : Int)))) (dCons (dVar 9) (dCons (dC (.str ("" : Str))) dNil)))))))) (dVar 7)) (dCons (dBin gIx (dVar 5) (dC (.int (3 : Int)))) (dCons (dBin gIx (dVar 5) (dC (.int (4 : Int)))) dNil))))))))
  dNext)
  (dSeq (dSet 10 (dOwn (dCallF gList (dCons (dBin gIx (dVar 2) (dC (.int (2 : Int)))) dNil))))
  (dSeq (dPutS (dVar 10) (dVar 4) (dVar 5))
  (dFz 10 (dRet (dTup (dCons (dBin gIx (dVar 2) (dC (.int (0 : Int)))) (dCons (dBin gIx (dVar 2) (dC (.int (1 : Int)))) (dCons (dVar 10) dNil)))))))))))))))))
noncomputable def F__law_way_changed (K : PySem.W.Frag) : Fn := fnP 11 (g__law_way_changed K)
noncomputable def g__law_changed (K : PySem.W.Frag) : DSn := (dSeq (dSet 3 (dCall (F__law_draw K) (dCons (dVar 0) (dCons (dVar 1) (dCons (dC (.int (16 : Int))) dNil)))))
  (dSeq (dSet 4 (dBin gAdd (dBin gAdd (dPub (dLc [9] (dWalk (dBin gIx (dVar 2) (dC (.int (0 : Int))))) (gNm 9) dYes (dBin gIx (dVar 9) (dC (.int (0 : Int)))))) (dBin gIx (dVar 2) (dC (.int (1 : Int))))) (dPub (dLc [10] (dWalk (dBin gIx (dVar 2) (dC (.int (2 : Int))))) (gNm 10) dYes (dBin gIx (dVar 10) (dC (.int (0 : Int))))))))
  (dSeq (dSet 5 (dCall (F__law_draw K) (dCons (dVar 0) (dCons (dBin gAdd (dVar 1) (dC (.int (1 : Int)))) (dCons (dCallB (orC gLen gLenD) (dCons (dVar 4) dNil)) dNil)))))
  (dSeq (dIf (dTst (dBin gLt (dVar 3) (dC (.int (4 : Int)))))
  (dRet (dCall (F__law_renamed K) (dCons (dVar 2) (dCons (dBin gIx (dVar 4) (dVar 5)) (dCons (dCall (F__law_odd K) (dCons (dVar 0) (dCons (dBin gAdd (dVar 1) (dC (.int (2 : Int)))) (dCons (dBin gIx (dVar 4) (dVar 5)) dNil)))) dNil)))))
  dNext)
  (dSeq (dIf (dTst (dBin gLt (dVar 3) (dC (.int (6 : Int)))))
  (dSeq (dSet 6 (dBin gMod (dCallB (orC gInt gIntS) (dCons (dBin gAdd (dBin gAdd (dVar 5) (dC (.int (1 : Int)))) (dCall (F__law_draw K) (dCons (dVar 0) (dCons (dBin gAdd (dVar 1) (dC (.int (2 : Int)))) (dCons (dBin gSub (dCallB (orC gLen gLenD) (dCons (dVar 4) dNil)) (dC (.int (1 : Int)))) dNil))))) dNil)) (dCallB (orC gLen gLenD) (dCons (dVar 4) dNil))))
  (dRet (dCall (F__law_renamed K) (dCons (dVar 2) (dCons (dBin gIx (dVar 4) (dVar 5)) (dCons (dBin gIx (dVar 4) (dVar 6)) dNil))))))
  dNext)
  (dSeq (dIf (dTst (dBin (gEq false) (dVar 3) (dC (.int (6 : Int)))))
  (dSeq (dSet 7 (dCall (F__law_draw K) (dCons (dVar 0) (dCons (dBin gAdd (dVar 1) (dC (.int (2 : Int)))) (dCons (dC (.int (10000 : Int))) dNil)))))
  (dSeq (dSet 5 (dCall (F__law_draw K) (dCons (dVar 0) (dCons (dBin gAdd (dVar 1) (dC (.int (1 : Int)))) (dCons (dCallB (orC gLen gLenD) (dCons (dBin gIx (dVar 2) (dC (.int (0 : Int)))) dNil)) dNil)))))
  (dSeq (dSet 8 (dOwn (dCallF gList (dCons (dBin gIx (dVar 2) (dC (.int (0 : Int)))) dNil))))
  (dSeq (dPutS (dVar 8) (dVar 5) (dTup (dCons (dBin gIx (dBin gIx (dVar 8) (dVar 5)) (dC (.int (0 : Int)))) (dCons (dBin gIx (dPub (dLst (dCons (dNeg (dC (.int (1 : Int)))) (dCons (dC (.int (0 : Int))) (dCons (dC (.int (200 : Int))) (dCons (dC (.int (201 : Int))) (dCons (dBin gSub (dNeg (dC (.int (1 : Int)))) (dVar 7)) (dCons (dBin gAdd (dC (.int (201 : Int))) (dVar 7)) dNil)))))))) (dCall (F__law_draw K) (dCons (dVar 0) (dCons (dBin gAdd (dVar 1) (dC (.int (3 : Int)))) (dCons (dC (.int (6 : Int))) dNil))))) dNil))))
  (dFz 8 (dRet (dTup (dCons (dVar 8) (dCons (dBin gIx (dVar 2) (dC (.int (1 : Int)))) (dCons (dBin gIx (dVar 2) (dC (.int (2 : Int)))) dNil))))))))))
  dNext)
  (dSeq (dIf (dTst (dBin gLt (dVar 3) (dC (.int (13 : Int)))))
  (dSeq (dIf (dTst (dBin (gEq false) (dCallB (orC gLen gLenD) (dCons (dBin gIx (dVar 2) (dC (.int (2 : Int)))) dNil)) (dC (.int (0 : Int)))))
  (dRet (dVar 2))
  dNext)
  (dRet (dCall (F__law_way_changed K) (dCons (dVar 0) (dCons (dBin gAdd (dVar 1) (dC (.int (1 : Int)))) (dCons (dVar 2) (dCons (dBin gIx (dPub (dLst (dCons (dC (.int (0 : Int))) (dCons (dC (.int (1 : Int))) (dCons (dC (.int (2 : Int))) (dCons (dC (.int (3 : Int))) (dCons (dC (.int (3 : Int))) (dCons (dC (.int (2 : Int))) dNil)))))))) (dBin gSub (dVar 3) (dC (.int (7 : Int))))) dNil)))))))
  dNext)
  (dSeq (dIf (dTst (dBin (gEq false) (dVar 3) (dC (.int (13 : Int)))))
  (dRet (dCall (F__law_lists K) (dCons (dVar 0) (dCons (dBin gIx (dPub (dLst (dCons (dC (.int (0 : Int))) (dCons (dC (.int (1 : Int))) (dCons (dC (.int (8 : Int))) (dCons (dC (.int (9 : Int))) dNil)))))) (dCall (F__law_draw K) (dCons (dVar 0) (dCons (dBin gAdd (dVar 1) (dC (.int (1 : Int)))) (dCons (dC (.int (4 : Int))) dNil))))) (dCons (dCallB (orC gLen gLenD) (dCons (dBin gIx (dVar 2) (dC (.int (1 : Int)))) dNil)) (dCons (dCallB (orC gLen gLenD) (dCons (dBin gIx (dVar 2) (dC (.int (2 : Int)))) dNil)) dNil))))))
  dNext)
  (dSeq (dIf (dTst (dBin (gEq false) (dVar 3) (dC (.int (14 : Int)))))
  (dRet (dCall (F__law_lists K) (dCons (dVar 0) (dCons (dCallB (orC gLen gLenD) (dCons (dBin gIx (dVar 2) (dC (.int (0 : Int)))) dNil)) (dCons (dBin gIx (dPub (dLst (dCons (dC (.int (0 : Int))) (dCons (dC (.int (1 : Int))) (dCons (dC (.int (4 : Int))) (dCons (dC (.int (5 : Int))) dNil)))))) (dCall (F__law_draw K) (dCons (dVar 0) (dCons (dBin gAdd (dVar 1) (dC (.int (1 : Int)))) (dCons (dC (.int (4 : Int))) dNil))))) (dCons (dCallB (orC gLen gLenD) (dCons (dBin gIx (dVar 2) (dC (.int (2 : Int)))) dNil)) dNil))))))
  dNext)
  (dRet (dCall (F__law_lists K) (dCons (dVar 0) (dCons (dCallB (orC gLen gLenD) (dCons (dBin gIx (dVar 2) (dC (.int (0 : Int)))) dNil)) (dCons (dCallB (orC gLen gLenD) (dCons (dBin gIx (dVar 2) (dC (.int (1 : Int)))) dNil)) (dCons (dBin gIx (dPub (dLst (dCons (dC (.int (0 : Int))) (dCons (dC (.int (20 : Int))) (dCons (dC (.int (21 : Int))) (dCons (dC (.int (21 : Int))) dNil)))))) (dCall (F__law_draw K) (dCons (dVar 0) (dCons (dBin gAdd (dVar 1) (dC (.int (1 : Int)))) (dCons (dC (.int (4 : Int))) dNil))))) dNil)))))))))))))))
noncomputable def F__law_changed (K : PySem.W.Frag) : Fn := fnP 11 (g__law_changed K)
noncomputable def g__law_same (K : PySem.W.Frag) : DSn := (dSeq (dIf (dOr (dNot (dTst (dCallB (gIsi K) (dCons (dVar 0) (dCons (dC (.raw (.ty "tuple"))) dNil))))) (dTst (dBin (gEq true) (dCallB (orC gLen gLenD) (dCons (dVar 0) dNil)) (dCallB (orC gLen gLenD) (dCons (dVar 1) dNil)))))
  (dRet (dC (.bl false)))
  dNext)
  (dSeq (dFor [2] (dRng1 (dCons (dCallB (orC gLen gLenD) (dCons (dVar 1) dNil)) dNil)) (gNm 2)
  (dIf (dTst (dCallB (gIsi K) (dCons (dBin gIx (dVar 1) (dVar 2)) (dCons (dC (.raw (.ty "str"))) dNil))))
  (dIf (dOr (dNot (dTst (dCallB (gIsi K) (dCons (dBin gIx (dVar 0) (dVar 2)) (dCons (dC (.raw (.ty "str"))) dNil))))) (dTst (dBin (gEq true) (dBin gIx (dVar 0) (dVar 2)) (dBin gIx (dVar 1) (dVar 2)))))
  (dRet (dC (.bl false)))
  dNext)
  (dIf (dOr (dNot (dTst (dCallB (gIsi K) (dCons (dBin gIx (dVar 0) (dVar 2)) (dCons (dC (.raw (.ty "int"))) dNil))))) (dOr (dTst (dCallB (gIsi K) (dCons (dBin gIx (dVar 0) (dVar 2)) (dCons (dC (.raw (.ty "bool"))) dNil)))) (dTst (dBin (gEq true) (dBin gIx (dVar 0) (dVar 2)) (dBin gIx (dVar 1) (dVar 2))))))
  (dRet (dC (.bl false)))
  dNext)))
  (dRet (dC (.bl true)))))
noncomputable def F__law_same (K : PySem.W.Frag) : Fn := fnP 3 (g__law_same K)
noncomputable def g__law_kept (K : PySem.W.Frag) : DSn := (dSeq (dIf (dOr (dNot (dTst (dCallB (gIsi K) (dCons (dVar 0) (dCons (dC (.raw (.ref (He.ga K ("House" : Str))))) dNil))))) (dOr (dNot (dTst (dCallB (gIsi K) (dCons (dFld K ("rooms" : Str) (dVar 0)) (dCons (dC (.raw (.ty "tuple"))) dNil))))) (dNot (dTst (dCallB (gIsi K) (dCons (dFld K ("ways" : Str) (dVar 0)) (dCons (dC (.raw (.ty "tuple"))) dNil)))))))
  (dRet (dC (.bl false)))
  dNext)
  (dSeq (dIf (dOr (dTst (dBin (gEq true) (dCallB (orC gLen gLenD) (dCons (dFld K ("rooms" : Str) (dVar 0)) dNil)) (dCallB (orC gLen gLenD) (dCons (dVar 1) dNil)))) (dOr (dTst (dBin (gEq true) (dCallB (orC gLen gLenD) (dCons (dFld K ("ways" : Str) (dVar 0)) dNil)) (dCallB (orC gLen gLenD) (dCons (dVar 3) dNil)))) (dNot (dTst (dCall (F__law_same K) (dCons (dFld K ("exits" : Str) (dVar 0)) (dCons (dVar 2) dNil)))))))
  (dRet (dC (.bl false)))
  dNext)
  (dSeq (dFor [4] (dRng1 (dCons (dCallB (orC gLen gLenD) (dCons (dVar 1) dNil)) dNil)) (gNm 4)
  (dIf (dNot (dTst (dCall (F__law_same K) (dCons (dBin gIx (dFld K ("rooms" : Str) (dVar 0)) (dVar 4)) (dCons (dBin gIx (dVar 1) (dVar 4)) dNil)))))
  (dRet (dC (.bl false)))
  dNext))
  (dSeq (dFor [4] (dRng1 (dCons (dCallB (orC gLen gLenD) (dCons (dVar 3) dNil)) dNil)) (gNm 4)
  (dIf (dNot (dTst (dCall (F__law_same K) (dCons (dBin gIx (dFld K ("ways" : Str) (dVar 0)) (dVar 4)) (dCons (dBin gIx (dVar 3) (dVar 4)) dNil)))))
  (dRet (dC (.bl false)))
  dNext))
  (dRet (dC (.bl true)))))))
noncomputable def F__law_kept (K : PySem.W.Frag) : Fn := fnP 5 (g__law_kept K)
noncomputable def g__law_is_word (K : PySem.W.Frag) : DSn := (dSeq (dIf (dOr (dTst (dBin gLt (dCallB (orC gLen gLenD) (dCons (dVar 0) dNil)) (dC (.int (1 : Int))))) (dOr (dTst (dBin gGt (dCallB (orC gLen gLenD) (dCons (dVar 0) dNil)) (dC (.int (12 : Int))))) (dTst (dBin (gIn true) (dBin gIx (dVar 0) (dC (.int (0 : Int)))) (dC (.str ("abcdefghijklmnopqrstuvwxyz" : Str)))))))
  (dRet (dC (.bl false)))
  dNext)
  (dSeq (dFor [1] (dWalk (dVar 0)) (gNm 1)
  (dIf (dTst (dBin (gIn true) (dVar 1) (dC (.str ("abcdefghijklmnopqrstuvwxyz0123456789" : Str)))))
  (dRet (dC (.bl false)))
  dNext))
  (dRet (dC (.bl true)))))
noncomputable def F__law_is_word (K : PySem.W.Frag) : Fn := fnP 2 (g__law_is_word K)
noncomputable def g__law_is_house (K : PySem.W.Frag) : DSn := (dSeq (dIf (dOr (dTst (dBin gLt (dCallB (orC gLen gLenD) (dCons (dVar 0) dNil)) (dC (.int (1 : Int))))) (dOr (dTst (dBin gGt (dCallB (orC gLen gLenD) (dCons (dVar 0) dNil)) (dC (.int (8 : Int))))) (dOr (dTst (dBin gLt (dCallB (orC gLen gLenD) (dCons (dVar 1) dNil)) (dC (.int (1 : Int))))) (dOr (dTst (dBin gGt (dCallB (orC gLen gLenD) (dCons (dVar 1) dNil)) (dC (.int (4 : Int))))) (dTst (dBin gGt (dCallB (orC gLen gLenD) (dCons (dVar 2) dNil)) (dC (.int (20 : Int)))))))))
  (dRet (dC (.bl false)))
  dNext)
  (dSeq (dSet 3 (dBin gAdd (dBin gAdd (dPub (dLc [6] (dWalk (dVar 0)) (gNm 6) dYes (dBin gIx (dVar 6) (dC (.int (0 : Int)))))) (dVar 1)) (dPub (dLc [7] (dWalk (dVar 2)) (gNm 7) dYes (dBin gIx (dVar 7) (dC (.int (0 : Int))))))))
  (dSeq (dFor [4] (dRng1 (dCons (dCallB (orC gLen gLenD) (dCons (dVar 3) dNil)) dNil)) (gNm 4)
  (dIf (dOr (dNot (dTst (dCall (F__law_is_word K) (dCons (dBin gIx (dVar 3) (dVar 4)) dNil)))) (dTst (dBin (gIn false) (dBin gIx (dVar 3) (dVar 4)) (dSl gSl (dVar 3) dNoP (dPart (dVar 4))))))
  (dRet (dC (.bl false)))
  dNext))
  (dSeq (dSet 5 (dPub (dLc [6] (dWalk (dVar 0)) (gNm 6) dYes (dBin gIx (dVar 6) (dC (.int (0 : Int)))))))
  (dSeq (dFor [6] (dWalk (dVar 0)) (gNm 6)
  (dIf (dOr (dTst (dBin gLt (dBin gIx (dVar 6) (dC (.int (1 : Int)))) (dC (.int (0 : Int))))) (dTst (dBin gGt (dBin gIx (dVar 6) (dC (.int (1 : Int)))) (dC (.int (200 : Int))))))
  (dRet (dC (.bl false)))
  dNext))
  (dSeq (dFor [7] (dWalk (dVar 2)) (gNm 7)
  (dSeq (dIf (dOr (dTst (dBin (gIn true) (dBin gIx (dVar 7) (dC (.int (1 : Int)))) (dVar 5))) (dOr (dTst (dBin (gIn true) (dBin gIx (dVar 7) (dC (.int (2 : Int)))) (dBin gAdd (dVar 5) (dVar 1)))) (dTst (dBin (gEq false) (dBin gIx (dVar 7) (dC (.int (1 : Int)))) (dBin gIx (dVar 7) (dC (.int (2 : Int))))))))
  (dRet (dC (.bl false)))
  dNext)
  (dIf (dOr (dTst (dBin gLt (dBin gIx (dVar 7) (dC (.int (3 : Int)))) (dC (.int (0 : Int))))) (dOr (dTst (dBin gGt (dBin gIx (dVar 7) (dC (.int (3 : Int)))) (dC (.int (50 : Int))))) (dOr (dTst (dBin gLt (dBin gIx (dVar 7) (dC (.int (4 : Int)))) (dC (.int (1 : Int))))) (dTst (dBin gGt (dBin gIx (dVar 7) (dC (.int (4 : Int)))) (dC (.int (5 : Int))))))))
  (dRet (dC (.bl false)))
  dNext)))
  (dRet (dC (.bl true)))))))))
noncomputable def F__law_is_house (K : PySem.W.Frag) : Fn := fnP 8 (g__law_is_house K)
noncomputable def g__law_made (K : PySem.W.Frag) : DSn := (dSeq (dSet 3 (dCall (F__law_is_house K) (dCons (dVar 0) (dCons (dVar 1) (dCons (dVar 2) dNil)))))
  (dSeq (dSet 4 (dOwn (dCallF gList (dCons (dVar 0) dNil))))
  (dSeq (dSet 5 (dOwn (dCallF gList (dCons (dVar 1) dNil))))
  (dSeq (dSet 6 (dOwn (dCallF gList (dCons (dVar 2) dNil))))
  (dSeq (dTry K (.ref (He.ga K ("BadHouse" : Str))) 8 (dSet 7 (dPub (dMake (He.ga K ("House" : Str)) (F_House___init__ K) (dCons (dVar 4) (dCons (dVar 5) (dCons (dVar 6) dNil))))))
  (dSeq (dSet 9 (dIsX K 8 (dTup (dCons (dC (.raw (.ref (He.ga K ("AlarmOver" : Str))))) (dCons (dC (.raw (.ref (He.ga K ("BadBook" : Str))))) (dCons (dC (.raw (.ref (He.ga K ("BadBounds" : Str))))) (dCons (dC (.raw (.ref (He.ga K ("BadClosing" : Str))))) (dCons (dC (.raw (.ref (He.ga K ("BadCourse" : Str))))) (dCons (dC (.raw (.ref (He.ga K ("BadCover" : Str))))) (dCons (dC (.raw (.ref (He.ga K ("BadCrowd" : Str))))) (dCons (dC (.raw (.ref (He.ga K ("BadCut" : Str))))) (dCons (dC (.raw (.ref (He.ga K ("BadDeed" : Str))))) (dCons (dC (.raw (.ref (He.ga K ("BadFire" : Str))))) (dCons (dC (.raw (.ref (He.ga K ("BadFloor" : Str))))) (dCons (dC (.raw (.ref (He.ga K ("BadHour" : Str))))) (dCons (dC (.raw (.ref (He.ga K ("BadLimit" : Str))))) (dCons (dC (.raw (.ref (He.ga K ("BadLinks" : Str))))) (dCons (dC (.raw (.ref (He.ga K ("BadMinutes" : Str))))) (dCons (dC (.raw (.ref (He.ga K ("BadMovement" : Str))))) (dCons (dC (.raw (.ref (He.ga K ("BadNeeds" : Str))))) (dCons (dC (.raw (.ref (He.ga K ("BadNet" : Str))))) (dCons (dC (.raw (.ref (He.ga K ("BadOffers" : Str))))) (dCons (dC (.raw (.ref (He.ga K ("BadReport" : Str))))) (dCons (dC (.raw (.ref (He.ga K ("BadSigns" : Str))))) (dCons (dC (.raw (.ref (He.ga K ("BadTable" : Str))))) (dCons (dC (.raw (.ref (He.ga K ("BadTeams" : Str))))) (dCons (dC (.raw (.ref (He.ga K ("BadText" : Str))))) (dCons (dC (.raw (.ref (He.ga K ("BadTroubles" : Str))))) (dCons (dC (.raw (.ref (He.ga K ("BadWalk" : Str))))) (dCons (dC (.raw (.ref (He.ga K ("NoFlow" : Str))))) (dCons (dC (.raw (.ref (He.ga K ("NoHistory" : Str))))) (dCons (dC (.raw (.ref (He.ga K ("NothingToRedo" : Str))))) (dCons (dC (.raw (.ref (He.ga K ("NothingToUndo" : Str))))) (dCons (dC (.raw (.ref (He.ga K ("ReportClash" : Str))))) (dCons (dC (.raw (.ref (He.ga K ("TooLarge" : Str))))) (dCons (dC (.raw (.ref (He.ga K ("UnknownName" : Str))))) (dCons (dC (.raw (.ref (He.ga K ("UnknownReport" : Str))))) dNil)))))))))))))))))))))))))))))))))))))
  (dRet (dAndV (dNotV (dVar 3)) (dAndV (dNotV (dVar 9)) (dAndV (dIsX K 8 (dC (.raw (.ref (He.ga K ("EverybodyError" : Str)))))) (dIsX K 8 (dC (.raw (.ty "ValueError"))))))))))
  (dSeq (dIf (dOr (dNot (dTru (dVar 3))) (dOr (dTst (dBin (gEq true) (dVar 4) (dVar 0))) (dOr (dTst (dBin (gEq true) (dVar 5) (dVar 1))) (dTst (dBin (gEq true) (dVar 6) (dVar 2))))))
  (dRet (dC (.bl false)))
  dNext)
  (dSeq (dPutS (dVar 4) (dC (.int (0 : Int))) (dTup (dCons (dC (.str ("zz" : Str))) (dCons (dC (.int (7 : Int))) dNil))))
  (dSeq (dDrop (dMth "list" gAppend (dVar 4) (dCons (dTup (dCons (dC (.str ("zzz" : Str))) (dCons (dC (.int (8 : Int))) dNil))) dNil)))
  (dSeq (dPutS (dVar 5) (dC (.int (0 : Int))) (dC (.str ("zzzz" : Str))))
  (dSeq (dDrop (dMth "list" gAppend (dVar 5) (dCons (dC (.str ("z" : Str))) dNil)))
  (dSeq (dDrop (dMth "list" gAppend (dVar 6) (dCons (dTup (dCons (dC (.str ("y" : Str))) (dCons (dC (.str ("zz" : Str))) (dCons (dC (.str ("z" : Str))) (dCons (dC (.int (1 : Int))) (dCons (dC (.int (1 : Int))) dNil)))))) dNil)))
  (dSeq (dDrop (dMth0 "list" gReverse (dVar 6)))
  (dRet (dCall (F__law_kept K) (dCons (dVar 7) (dCons (dVar 0) (dCons (dVar 1) (dCons (dVar 2) dNil))))))))))))))))))
noncomputable def F__law_made (K : PySem.W.Frag) : Fn := fnP 10 (g__law_made K)
noncomputable def g_law (K : PySem.W.Frag) : DSn := (dSeq (dSet 1 (dBin gAdd (dC (.int (1 : Int))) (dCall (F__law_draw K) (dCons (dVar 0) (dCons (dC (.int (0 : Int))) (dCons (dC (.int (8 : Int))) dNil))))))
  (dSeq (dSet 2 (dBin gAdd (dC (.int (1 : Int))) (dCall (F__law_draw K) (dCons (dVar 0) (dCons (dC (.int (1 : Int))) (dCons (dC (.int (4 : Int))) dNil))))))
  (dSeq (dSet 3 (dCall (F__law_lists K) (dCons (dVar 0) (dCons (dVar 1) (dCons (dVar 2) (dCons (dCall (F__law_draw K) (dCons (dVar 0) (dCons (dC (.int (3 : Int))) (dCons (dC (.int (21 : Int))) dNil)))) dNil))))))
  (dSeq (dSet 4 (dPub (dMake (He.ga K ("House" : Str)) (F_House___init__ K) (dCons (dPub (dCallF gList (dCons (dBin gIx (dVar 3) (dC (.int (0 : Int)))) dNil))) (dCons (dPub (dCallF gList (dCons (dBin gIx (dVar 3) (dC (.int (1 : Int)))) dNil))) (dCons (dPub (dCallF gList (dCons (dBin gIx (dVar 3) (dC (.int (2 : Int)))) dNil))) dNil))))))
  (dSeq (dIf (dNot (dTst (dCall (F__law_kept K) (dCons (dVar 4) (dCons (dBin gIx (dVar 3) (dC (.int (0 : Int)))) (dCons (dBin gIx (dVar 3) (dC (.int (1 : Int)))) (dCons (dBin gIx (dVar 3) (dC (.int (2 : Int)))) dNil)))))))
  (dRet (dC (.bl false)))
  dNext)
  (dSeq (dFor [5, 6] (dRng1 (dCons (dC (.int (6 : Int))) dNil)) (gNm 5)
  (dSeq (dSet 6 (dCall (F__law_changed K) (dCons (dVar 0) (dCons (dBin gAdd (dC (.int (210 : Int))) (dBin gMul (dC (.int (10 : Int))) (dVar 5))) (dCons (dVar 3) dNil)))))
  (dIf (dNot (dTst (dCall (F__law_made K) (dCons (dBin gIx (dVar 6) (dC (.int (0 : Int)))) (dCons (dBin gIx (dVar 6) (dC (.int (1 : Int)))) (dCons (dBin gIx (dVar 6) (dC (.int (2 : Int)))) dNil))))))
  (dRet (dC (.bl false)))
  dNext)))
  (dSeq (dIf (dNot (dTst (dCall (F__law_made K) (dCons (dBin gIx (dVar 3) (dC (.int (0 : Int)))) (dCons (dBin gIx (dVar 3) (dC (.int (1 : Int)))) (dCons (dBin gIx (dVar 3) (dC (.int (2 : Int)))) dNil))))))
  (dRet (dC (.bl false)))
  dNext)
  (dRet (dCall (F__law_kept K) (dCons (dVar 4) (dCons (dBin gIx (dVar 3) (dC (.int (0 : Int)))) (dCons (dBin gIx (dVar 3) (dC (.int (1 : Int)))) (dCons (dBin gIx (dVar 3) (dC (.int (2 : Int)))) dNil)))))))))))))
noncomputable def F_law (K : PySem.W.Frag) : Fn := fnP 7 (g_law K)
/-! ### each def keeps its reading -/
section
variable {P : Program} {w : World} {K : PySem.W.Frag} {mg : Str → Option Value} {base : Heap}
theorem sc_is_name : FnScope [("text" : Str), ("sign" : Str)] [("text" : Str)] (defScope (top 42)) := ⟨rfl, rfl, rfl, by decide +kernel, rfl, by decide +kernel, by decide +kernel⟩
set_option maxHeartbeats 4000000 in
theorem b_is_name (Y : Gs K mg) {f : Addr} {cdv : Value} {A : Around} {outer : List PySem.Env} {s : Shared} {H : Hp} {E : XK} (hr : Room 0 (A.deeper (envOfC ("is_name" : Str) (defScope (top 42)) s.heap.objs.size f cdv))) :
    JB (cxOf (L2.CX P w) P w K mg base [("text" : Str), ("sign" : Str)] ("is_name" : Str) (defScope (top 42)) f cdv A outer s H E) (WC E) none (defBody (top 42)) (g_is_name K) := by
  have sc := sc_is_name
  have u64 := hr.units
  have u1 : (A.deeper (envOfC ("is_name" : Str) (defScope (top 42)) s.heap.objs.size f cdv)).units + 1 < cLine := by omega
  have tk := takes_of (X := (cxOf (L2.CX P w) P w K mg base [("text" : Str), ("sign" : Str)] ("is_name" : Str) (defScope (top 42)) f cdv A outer s H E)) (E := E) rfl rfl rfl rfl
  have hp := passes_of (X := (cxOf (L2.CX P w) P w K mg base [("text" : Str), ("sign" : Str)] ("is_name" : Str) (defScope (top 42)) f cdv A outer s H E)) rfl
  exact (jb_cons (js_if (jt_w (jw_or (jt_cmp bd_lt (je_callB b_lenA rfl Y.n_len boot_len (ja_cons (je_var 0) ja_nil)) je_int) (jw_or (jt_cmp bd_gt (je_callB b_lenA rfl Y.n_len boot_len (ja_cons (je_var 0) ja_nil)) (je_gint rfl Y.c_LONGEST_NAME)) (jw_or1 (jt_cmp (bd_notin u1) (je_ix u1 (je_var 0) je_int) (je_gstr rfl Y.c_LETTERS))))))
  (jb_one (js_ret je_bl))
  jb_nil)
  (jb_cons (js_for [1] hp rfl (ji_any (je_var 0)) (jg_name 1 sc.nd rfl (by first | exact Or.inl rfl | exact Or.inr rfl))
  (jb_one (js_if (jt_cmp (bd_notin u1) (je_var 1) (je_gstr rfl Y.c_SIGNS))
  (jb_one (js_ret je_bl))
  jb_nil)))
  (jb_one (js_ret je_bl))))
theorem ok_is_name (Y : Gs K mg) {f : Addr} {fd : FuncData} (F : FunD K ("is_name" : Str) ("is_name" : Str) (defArgs (top 42)) (defBody (top 42)) (defScope (top 42)) [] [] f fd) : Cal P w K mg base 1 f fd [("text" : Str)] (F_is_name K) := by
  have h0 := fn_ok (P := P) (w := w) (mg := mg) (base := base) (ex := exitP) (k := 0) (N := [("text" : Str), ("sign" : Str)]) (g := g_is_name K) exits_P F sc_is_name (fun cdv A outer s H E hr => b_is_name Y hr)
  exact ⟨h0, F.kp, F.bindsN (fun _ _ _ _ _ _ us hl => match us, hl with | [_], _ => rfl)⟩
theorem sc__check_exits : FnScope [("exits" : Str), ("name" : Str)] [("exits" : Str)] (defScope (top 51)) := ⟨rfl, rfl, rfl, by decide +kernel, rfl, by decide +kernel, by decide +kernel⟩
set_option maxHeartbeats 4000000 in
theorem b__check_exits (Y : Gs K mg) {d_is_name : FuncData} (c_is_name : Cal P w K mg base 1 (He.ga K ("is_name" : Str)) d_is_name [("text" : Str)] (F_is_name K)) {f : Addr} {cdv : Value} {A : Around} {outer : List PySem.Env} {s : Shared} {H : Hp} {E : XK} (hr : Room 1 (A.deeper (envOfC ("_check_exits" : Str) (defScope (top 51)) s.heap.objs.size f cdv))) :
    JB (cxOf (L2.CX P w) P w K mg base [("exits" : Str), ("name" : Str)] ("_check_exits" : Str) (defScope (top 51)) f cdv A outer s H E) (WC E) none (defBody (top 51)) (g__check_exits K) := by
  have sc := sc__check_exits
  have u64 := hr.units
  have u1 : (A.deeper (envOfC ("_check_exits" : Str) (defScope (top 51)) s.heap.objs.size f cdv)).units + 1 < cLine := by omega
  have tk := takes_of (X := (cxOf (L2.CX P w) P w K mg base [("exits" : Str), ("name" : Str)] ("_check_exits" : Str) (defScope (top 51)) f cdv A outer s H E)) (E := E) rfl rfl rfl rfl
  have hp := passes_of (X := (cxOf (L2.CX P w) P w K mg base [("exits" : Str), ("name" : Str)] ("_check_exits" : Str) (defScope (top 51)) f cdv A outer s H E)) rfl
  exact (jb_cons (js_if (jt_w (jw_or (jt_cmp bd_lt (je_callB b_lenA rfl Y.n_len boot_len (ja_cons (je_var 0) ja_nil)) je_int) (jw_or1 (jt_cmp bd_gt (je_callB b_lenA rfl Y.n_len boot_len (ja_cons (je_var 0) ja_nil)) (je_gint rfl Y.c_MOST_EXITS)))))
  (jb_one (js_raise rfl tk (jx_own1 PySem.F.excBase_ValueError Y.x_BadHouse.1 Y.g_BadHouse Y.x_BadHouse.2.1 (raises_own Y.x_BadHouse.2.2.1 Y.x_BadHouse.2.2.2) rfl (je_joined (.cons je_str (.cons (je_fmt (je_gint rfl Y.c_MOST_EXITS)) (.cons je_str .nil)))))))
  jb_nil)
  (jb_one (js_for [1] hp rfl (ji_any (je_var 0)) (jg_name 1 sc.nd rfl (by first | exact Or.inl rfl | exact Or.inr rfl))
  (jb_one (js_if (jt_not (jt_val (je_call c_is_name tk (hr.mono (by decide)) rfl Y.g_is_name (ja_cons (je_var 1) ja_nil) (al_cons al_nil))))
  (jb_one (js_raise rfl tk (jx_own1 PySem.F.excBase_ValueError Y.x_BadHouse.1 Y.g_BadHouse Y.x_BadHouse.2.1 (raises_own Y.x_BadHouse.2.2.1 Y.x_BadHouse.2.2.2) rfl je_str)))
  jb_nil)))))
theorem ok__check_exits (Y : Gs K mg) {d_is_name : FuncData} (c_is_name : Cal P w K mg base 1 (He.ga K ("is_name" : Str)) d_is_name [("text" : Str)] (F_is_name K)) {f : Addr} {fd : FuncData} (F : FunD K ("_check_exits" : Str) ("_check_exits" : Str) (defArgs (top 51)) (defBody (top 51)) (defScope (top 51)) [] [] f fd) : Cal P w K mg base 2 f fd [("exits" : Str)] (F__check_exits K) := by
  have h0 := fn_ok (P := P) (w := w) (mg := mg) (base := base) (ex := exitP) (k := 1) (N := [("exits" : Str), ("name" : Str)]) (g := g__check_exits K) exits_P F sc__check_exits (fun cdv A outer s H E hr => b__check_exits Y c_is_name hr)
  exact ⟨h0, F.kp, F.bindsN (fun _ _ _ _ _ _ us hl => match us, hl with | [_], _ => rfl)⟩
theorem sc__check_rooms : FnScope [("rooms" : Str), ("name" : Str), ("hold" : Str)] [("rooms" : Str)] (defScope (top 50)) := ⟨rfl, rfl, rfl, by decide +kernel, rfl, by decide +kernel, by decide +kernel⟩
set_option maxHeartbeats 4000000 in
theorem b__check_rooms (Y : Gs K mg) {d_is_name : FuncData} (c_is_name : Cal P w K mg base 1 (He.ga K ("is_name" : Str)) d_is_name [("text" : Str)] (F_is_name K)) {f : Addr} {cdv : Value} {A : Around} {outer : List PySem.Env} {s : Shared} {H : Hp} {E : XK} (hr : Room 1 (A.deeper (envOfC ("_check_rooms" : Str) (defScope (top 50)) s.heap.objs.size f cdv))) :
    JB (cxOf (L2.CX P w) P w K mg base [("rooms" : Str), ("name" : Str), ("hold" : Str)] ("_check_rooms" : Str) (defScope (top 50)) f cdv A outer s H E) (WC E) none (defBody (top 50)) (g__check_rooms K) := by
  have sc := sc__check_rooms
  have u64 := hr.units
  have u1 : (A.deeper (envOfC ("_check_rooms" : Str) (defScope (top 50)) s.heap.objs.size f cdv)).units + 1 < cLine := by omega
  have tk := takes_of (X := (cxOf (L2.CX P w) P w K mg base [("rooms" : Str), ("name" : Str), ("hold" : Str)] ("_check_rooms" : Str) (defScope (top 50)) f cdv A outer s H E)) (E := E) rfl rfl rfl rfl
  have hp := passes_of (X := (cxOf (L2.CX P w) P w K mg base [("rooms" : Str), ("name" : Str), ("hold" : Str)] ("_check_rooms" : Str) (defScope (top 50)) f cdv A outer s H E)) rfl
  exact (jb_cons (js_if (jt_w (jw_or (jt_cmp bd_lt (je_callB b_lenA rfl Y.n_len boot_len (ja_cons (je_var 0) ja_nil)) je_int) (jw_or1 (jt_cmp bd_gt (je_callB b_lenA rfl Y.n_len boot_len (ja_cons (je_var 0) ja_nil)) (je_gint rfl Y.c_MOST_ROOMS)))))
  (jb_one (js_raise rfl tk (jx_own1 PySem.F.excBase_ValueError Y.x_BadHouse.1 Y.g_BadHouse Y.x_BadHouse.2.1 (raises_own Y.x_BadHouse.2.2.1 Y.x_BadHouse.2.2.2) rfl (je_joined (.cons je_str (.cons (je_fmt (je_gint rfl Y.c_MOST_ROOMS)) (.cons je_str .nil)))))))
  jb_nil)
  (jb_one (js_for [1, 2] hp rfl (ji_any (je_var 0)) (jg_tup rfl (jgs_cons (jg_name 1 sc.nd rfl (by first | exact Or.inl rfl | exact Or.inr rfl)) (jgs_cons (jg_name 2 sc.nd rfl (by first | exact Or.inl rfl | exact Or.inr rfl)) jgs_nil)) rfl rfl (gl_cons (gl_cons gl_nil)))
  (jb_cons (js_if (jt_not (jt_val (je_call c_is_name tk (hr.mono (by decide)) rfl Y.g_is_name (ja_cons (je_var 1) ja_nil) (al_cons al_nil))))
  (jb_one (js_raise rfl tk (jx_own1 PySem.F.excBase_ValueError Y.x_BadHouse.1 Y.g_BadHouse Y.x_BadHouse.2.1 (raises_own Y.x_BadHouse.2.2.1 Y.x_BadHouse.2.2.2) rfl je_str)))
  jb_nil)
  (jb_one (js_if (jt_w (jw_or (jt_cmp bd_lt (je_var 2) je_int) (jw_or1 (jt_cmp bd_gt (je_var 2) (je_gint rfl Y.c_MOST_HOLD)))))
  (jb_one (js_raise rfl tk (jx_own1 PySem.F.excBase_ValueError Y.x_BadHouse.1 Y.g_BadHouse Y.x_BadHouse.2.1 (raises_own Y.x_BadHouse.2.2.1 Y.x_BadHouse.2.2.2) rfl (je_joined (.cons je_str (.cons (je_fmt (je_var 1)) (.cons je_str (.cons (je_fmt (je_gint rfl Y.c_MOST_HOLD)) .nil))))))))
  jb_nil))))))
theorem ok__check_rooms (Y : Gs K mg) {d_is_name : FuncData} (c_is_name : Cal P w K mg base 1 (He.ga K ("is_name" : Str)) d_is_name [("text" : Str)] (F_is_name K)) {f : Addr} {fd : FuncData} (F : FunD K ("_check_rooms" : Str) ("_check_rooms" : Str) (defArgs (top 50)) (defBody (top 50)) (defScope (top 50)) [] [] f fd) : Cal P w K mg base 2 f fd [("rooms" : Str)] (F__check_rooms K) := by
  have h0 := fn_ok (P := P) (w := w) (mg := mg) (base := base) (ex := exitP) (k := 1) (N := [("rooms" : Str), ("name" : Str), ("hold" : Str)]) (g := g__check_rooms K) exits_P F sc__check_rooms (fun cdv A outer s H E hr => b__check_rooms Y c_is_name hr)
  exact ⟨h0, F.kp, F.bindsN (fun _ _ _ _ _ _ us hl => match us, hl with | [_], _ => rfl)⟩
theorem sc__check_ways : FnScope [("ways" : Str), ("rooms" : Str), ("exits" : Str), ("name" : Str), ("start" : Str), ("end" : Str), ("width" : Str), ("time" : Str)] [("ways" : Str), ("rooms" : Str), ("exits" : Str)] (defScope (top 52)) := ⟨rfl, rfl, rfl, by decide +kernel, rfl, by decide +kernel, by decide +kernel⟩
set_option maxHeartbeats 4000000 in
theorem b__check_ways (Y : Gs K mg) {d_is_name : FuncData} (c_is_name : Cal P w K mg base 1 (He.ga K ("is_name" : Str)) d_is_name [("text" : Str)] (F_is_name K)) {f : Addr} {cdv : Value} {A : Around} {outer : List PySem.Env} {s : Shared} {H : Hp} {E : XK} (hr : Room 1 (A.deeper (envOfC ("_check_ways" : Str) (defScope (top 52)) s.heap.objs.size f cdv))) :
    JB (cxOf (L2.CX P w) P w K mg base [("ways" : Str), ("rooms" : Str), ("exits" : Str), ("name" : Str), ("start" : Str), ("end" : Str), ("width" : Str), ("time" : Str)] ("_check_ways" : Str) (defScope (top 52)) f cdv A outer s H E) (WC E) none (defBody (top 52)) (g__check_ways K) := by
  have sc := sc__check_ways
  have u64 := hr.units
  have u1 : (A.deeper (envOfC ("_check_ways" : Str) (defScope (top 52)) s.heap.objs.size f cdv)).units + 1 < cLine := by omega
  have tk := takes_of (X := (cxOf (L2.CX P w) P w K mg base [("ways" : Str), ("rooms" : Str), ("exits" : Str), ("name" : Str), ("start" : Str), ("end" : Str), ("width" : Str), ("time" : Str)] ("_check_ways" : Str) (defScope (top 52)) f cdv A outer s H E)) (E := E) rfl rfl rfl rfl
  have hp := passes_of (X := (cxOf (L2.CX P w) P w K mg base [("ways" : Str), ("rooms" : Str), ("exits" : Str), ("name" : Str), ("start" : Str), ("end" : Str), ("width" : Str), ("time" : Str)] ("_check_ways" : Str) (defScope (top 52)) f cdv A outer s H E)) rfl
  exact (jb_cons (js_if (jt_cmp bd_gt (je_callB b_lenA rfl Y.n_len boot_len (ja_cons (je_var 0) ja_nil)) (je_gint rfl Y.c_MOST_WAYS))
  (jb_one (js_raise rfl tk (jx_own1 PySem.F.excBase_ValueError Y.x_BadHouse.1 Y.g_BadHouse Y.x_BadHouse.2.1 (raises_own Y.x_BadHouse.2.2.1 Y.x_BadHouse.2.2.2) rfl (je_joined (.cons je_str (.cons (je_fmt (je_gint rfl Y.c_MOST_WAYS)) (.cons je_str .nil)))))))
  jb_nil)
  (jb_one (js_for [3, 4, 5, 6, 7] hp rfl (ji_any (je_var 0)) (jg_tup rfl (jgs_cons (jg_name 3 sc.nd rfl (by first | exact Or.inl rfl | exact Or.inr rfl)) (jgs_cons (jg_name 4 sc.nd rfl (by first | exact Or.inl rfl | exact Or.inr rfl)) (jgs_cons (jg_name 5 sc.nd rfl (by first | exact Or.inl rfl | exact Or.inr rfl)) (jgs_cons (jg_name 6 sc.nd rfl (by first | exact Or.inl rfl | exact Or.inr rfl)) (jgs_cons (jg_name 7 sc.nd rfl (by first | exact Or.inl rfl | exact Or.inr rfl)) jgs_nil))))) rfl rfl (gl_cons (gl_cons (gl_cons (gl_cons (gl_cons gl_nil))))))
  (jb_cons (js_if (jt_not (jt_val (je_call c_is_name tk (hr.mono (by decide)) rfl Y.g_is_name (ja_cons (je_var 3) ja_nil) (al_cons al_nil))))
  (jb_one (js_raise rfl tk (jx_own1 PySem.F.excBase_ValueError Y.x_BadHouse.1 Y.g_BadHouse Y.x_BadHouse.2.1 (raises_own Y.x_BadHouse.2.2.1 Y.x_BadHouse.2.2.2) rfl je_str)))
  jb_nil)
  (jb_cons (js_if (jt_cmp (bd_notin u1) (je_var 4) (je_var 1))
  (jb_one (js_raise rfl tk (jx_own1 PySem.F.excBase_ValueError Y.x_BadHouse.1 Y.g_BadHouse Y.x_BadHouse.2.1 (raises_own Y.x_BadHouse.2.2.1 Y.x_BadHouse.2.2.2) rfl (je_joined (.cons je_str (.cons (je_fmt (je_var 3)) (.cons je_str .nil)))))))
  jb_nil)
  (jb_cons (js_if (jt_w (jw_or (jt_cmp (bd_eq u64) (je_var 5) (je_var 4)) (jw_or1 (jt_cmp (bd_notin u1) (je_var 5) (je_bin bd_add (je_var 1) (je_var 2))))))
  (jb_one (js_raise rfl tk (jx_own1 PySem.F.excBase_ValueError Y.x_BadHouse.1 Y.g_BadHouse Y.x_BadHouse.2.1 (raises_own Y.x_BadHouse.2.2.1 Y.x_BadHouse.2.2.2) rfl (je_joined (.cons je_str (.cons (je_fmt (je_var 3)) (.cons je_str .nil)))))))
  jb_nil)
  (jb_cons (js_if (jt_w (jw_or (jt_cmp bd_lt (je_var 6) je_int) (jw_or1 (jt_cmp bd_gt (je_var 6) (je_gint rfl Y.c_MOST_WIDTH)))))
  (jb_one (js_raise rfl tk (jx_own1 PySem.F.excBase_ValueError Y.x_BadHouse.1 Y.g_BadHouse Y.x_BadHouse.2.1 (raises_own Y.x_BadHouse.2.2.1 Y.x_BadHouse.2.2.2) rfl (je_joined (.cons je_str (.cons (je_fmt (je_var 3)) (.cons je_str (.cons (je_fmt (je_gint rfl Y.c_MOST_WIDTH)) .nil))))))))
  jb_nil)
  (jb_one (js_if (jt_w (jw_or (jt_cmp bd_lt (je_var 7) je_int) (jw_or1 (jt_cmp bd_gt (je_var 7) (je_gint rfl Y.c_MOST_TIME)))))
  (jb_one (js_raise rfl tk (jx_own1 PySem.F.excBase_ValueError Y.x_BadHouse.1 Y.g_BadHouse Y.x_BadHouse.2.1 (raises_own Y.x_BadHouse.2.2.1 Y.x_BadHouse.2.2.2) rfl (je_joined (.cons je_str (.cons (je_fmt (je_var 3)) (.cons je_str (.cons (je_fmt (je_gint rfl Y.c_MOST_TIME)) .nil))))))))
  jb_nil)))))))))
theorem ok__check_ways (Y : Gs K mg) {d_is_name : FuncData} (c_is_name : Cal P w K mg base 1 (He.ga K ("is_name" : Str)) d_is_name [("text" : Str)] (F_is_name K)) {f : Addr} {fd : FuncData} (F : FunD K ("_check_ways" : Str) ("_check_ways" : Str) (defArgs (top 52)) (defBody (top 52)) (defScope (top 52)) [] [] f fd) : Cal P w K mg base 2 f fd [("ways" : Str), ("rooms" : Str), ("exits" : Str)] (F__check_ways K) := by
  have h0 := fn_ok (P := P) (w := w) (mg := mg) (base := base) (ex := exitP) (k := 1) (N := [("ways" : Str), ("rooms" : Str), ("exits" : Str), ("name" : Str), ("start" : Str), ("end" : Str), ("width" : Str), ("time" : Str)]) (g := g__check_ways K) exits_P F sc__check_ways (fun cdv A outer s H E hr => b__check_ways Y c_is_name hr)
  exact ⟨h0, F.kp, F.bindsN (fun _ _ _ _ _ _ us hl => match us, hl with | [_, _, _], _ => rfl)⟩
theorem sc_House___init__ : FnScope [("self" : Str), ("rooms" : Str), ("exits" : Str), ("ways" : Str), ("room_names" : Str), ("exit_names" : Str), ("way_names" : Str), ("names" : Str), ("name" : Str), ("hold" : Str), ("start" : Str), ("end" : Str), ("width" : Str), ("time" : Str), ("room" : Str), ("way" : Str), ("at" : Str)] [("self" : Str), ("rooms" : Str), ("exits" : Str), ("ways" : Str)] (defScope (inC 53 0)) := ⟨rfl, rfl, rfl, by decide +kernel, rfl, by decide +kernel, by decide +kernel⟩
set_option maxHeartbeats 4000000 in
theorem b_House___init__ (Y : Gs K mg) {d__check_exits : FuncData} (c__check_exits : Cal P w K mg base 2 (He.ga K ("_check_exits" : Str)) d__check_exits [("exits" : Str)] (F__check_exits K)) {d__check_rooms : FuncData} (c__check_rooms : Cal P w K mg base 2 (He.ga K ("_check_rooms" : Str)) d__check_rooms [("rooms" : Str)] (F__check_rooms K)) {d__check_ways : FuncData} (c__check_ways : Cal P w K mg base 2 (He.ga K ("_check_ways" : Str)) d__check_ways [("ways" : Str), ("rooms" : Str), ("exits" : Str)] (F__check_ways K)) {f : Addr} {cdv : Value} {A : Around} {outer : List PySem.Env} {s : Shared} {H : Hp} {E : XK} (hr : Room 2 (A.deeper (envOfC ("House.__init__" : Str) (defScope (inC 53 0)) s.heap.objs.size f cdv))) :
    JB (cxOf (L2.CX P w) P w K mg base [("self" : Str), ("rooms" : Str), ("exits" : Str), ("ways" : Str), ("room_names" : Str), ("exit_names" : Str), ("way_names" : Str), ("names" : Str), ("name" : Str), ("hold" : Str), ("start" : Str), ("end" : Str), ("width" : Str), ("time" : Str), ("room" : Str), ("way" : Str), ("at" : Str)] ("House.__init__" : Str) (defScope (inC 53 0)) f cdv A outer s H E) (WC E) none (defBody (inC 53 0)) (g_House___init__ K) := by
  have sc := sc_House___init__
  have u64 := hr.units
  have u1 : (A.deeper (envOfC ("House.__init__" : Str) (defScope (inC 53 0)) s.heap.objs.size f cdv)).units + 1 < cLine := by omega
  have tk := takes_of (X := (cxOf (L2.CX P w) P w K mg base [("self" : Str), ("rooms" : Str), ("exits" : Str), ("ways" : Str), ("room_names" : Str), ("exit_names" : Str), ("way_names" : Str), ("names" : Str), ("name" : Str), ("hold" : Str), ("start" : Str), ("end" : Str), ("width" : Str), ("time" : Str), ("room" : Str), ("way" : Str), ("at" : Str)] ("House.__init__" : Str) (defScope (inC 53 0)) f cdv A outer s H E)) (E := E) rfl rfl rfl rfl
  have hp := passes_of (X := (cxOf (L2.CX P w) P w K mg base [("self" : Str), ("rooms" : Str), ("exits" : Str), ("ways" : Str), ("room_names" : Str), ("exit_names" : Str), ("way_names" : Str), ("names" : Str), ("name" : Str), ("hold" : Str), ("start" : Str), ("end" : Str), ("width" : Str), ("time" : Str), ("room" : Str), ("way" : Str), ("at" : Str)] ("House.__init__" : Str) (defScope (inC 53 0)) f cdv A outer s H E)) rfl
  exact (jb_cons (js_fld (je_var 0) (je_callTy b_tuple rfl Y.n_tuple boot_tuple (ja_cons (je_pub (jf_lc (own := [(("name" : Str), 8), (("hold" : Str), 9)]) rfl sc.nd (ji_any (je_var 1)) (blkOk_by (N := [("self" : Str), ("rooms" : Str), ("exits" : Str), ("ways" : Str), ("room_names" : Str), ("exit_names" : Str), ("way_names" : Str), ("names" : Str), ("name" : Str), ("hold" : Str), ("start" : Str), ("end" : Str), ("width" : Str), ("time" : Str), ("room" : Str), ("way" : Str), ("at" : Str)]) (sc := defScope (inC 53 0)) (by decide +kernel)) (fun _ _ _ _ _ => (jw_tup rfl (jws_cons (jw_name 8 (by decide) sc.nd rfl (by first | exact Or.inl rfl | exact Or.inr rfl)) (jws_cons (jw_name 9 (by decide) sc.nd rfl (by first | exact Or.inl rfl | exact Or.inr rfl)) jws_nil)) rfl rfl (gl_cons (gl_cons gl_nil)))) (fun _ _ _ _ _ => jts_nil) (fun _ _ _ _ _ => (je_tup (ja_cons (je_var 8) (ja_cons (je_var 9) ja_nil)))))) ja_nil)))
  (jb_cons (js_fld (je_var 0) (je_callTy b_tuple rfl Y.n_tuple boot_tuple (ja_cons (je_var 2) ja_nil)))
  (jb_cons (js_fld (je_var 0) (je_callTy b_tuple rfl Y.n_tuple boot_tuple (ja_cons (je_pub (jf_lc (own := [(("name" : Str), 8), (("start" : Str), 10), (("end" : Str), 11), (("width" : Str), 12), (("time" : Str), 13)]) rfl sc.nd (ji_any (je_var 3)) (blkOk_by (N := [("self" : Str), ("rooms" : Str), ("exits" : Str), ("ways" : Str), ("room_names" : Str), ("exit_names" : Str), ("way_names" : Str), ("names" : Str), ("name" : Str), ("hold" : Str), ("start" : Str), ("end" : Str), ("width" : Str), ("time" : Str), ("room" : Str), ("way" : Str), ("at" : Str)]) (sc := defScope (inC 53 0)) (by decide +kernel)) (fun _ _ _ _ _ => (jw_tup rfl (jws_cons (jw_name 8 (by decide) sc.nd rfl (by first | exact Or.inl rfl | exact Or.inr rfl)) (jws_cons (jw_name 10 (by decide) sc.nd rfl (by first | exact Or.inl rfl | exact Or.inr rfl)) (jws_cons (jw_name 11 (by decide) sc.nd rfl (by first | exact Or.inl rfl | exact Or.inr rfl)) (jws_cons (jw_name 12 (by decide) sc.nd rfl (by first | exact Or.inl rfl | exact Or.inr rfl)) (jws_cons (jw_name 13 (by decide) sc.nd rfl (by first | exact Or.inl rfl | exact Or.inr rfl)) jws_nil))))) rfl rfl (gl_cons (gl_cons (gl_cons (gl_cons (gl_cons gl_nil))))))) (fun _ _ _ _ _ => jts_nil) (fun _ _ _ _ _ => (je_tup (ja_cons (je_var 8) (ja_cons (je_var 10) (ja_cons (je_var 11) (ja_cons (je_var 12) (ja_cons (je_var 13) ja_nil))))))))) ja_nil)))
  (jb_cons (js_setLcP (own := [(("room" : Str), 14)]) 4 rfl sc.nd rfl rfl (sw_true rfl rfl rfl rfl) (ji_any (je_fld (je_var 0))) (blkOk_by (N := [("self" : Str), ("rooms" : Str), ("exits" : Str), ("ways" : Str), ("room_names" : Str), ("exit_names" : Str), ("way_names" : Str), ("names" : Str), ("name" : Str), ("hold" : Str), ("start" : Str), ("end" : Str), ("width" : Str), ("time" : Str), ("room" : Str), ("way" : Str), ("at" : Str)]) (sc := defScope (inC 53 0)) (by decide +kernel)) (fun _ _ _ _ _ => (jw_name 14 (by decide) sc.nd rfl (by first | exact Or.inl rfl | exact Or.inr rfl))) (fun _ _ _ _ _ => jts_nil) (fun _ _ _ _ _ => (je_ix u1 (je_var 14) je_int)))
  (jb_cons (js_set 5 sc.nd rfl (by first | exact Or.inl rfl | exact Or.inr rfl) (je_pub (jf_callTy b_list rfl Y.n_list boot_list (ja_cons (je_fld (je_var 0)) ja_nil))))
  (jb_cons (js_setLcP (own := [(("way" : Str), 15)]) 6 rfl sc.nd rfl rfl (sw_true rfl rfl rfl rfl) (ji_any (je_fld (je_var 0))) (blkOk_by (N := [("self" : Str), ("rooms" : Str), ("exits" : Str), ("ways" : Str), ("room_names" : Str), ("exit_names" : Str), ("way_names" : Str), ("names" : Str), ("name" : Str), ("hold" : Str), ("start" : Str), ("end" : Str), ("width" : Str), ("time" : Str), ("room" : Str), ("way" : Str), ("at" : Str)]) (sc := defScope (inC 53 0)) (by decide +kernel)) (fun _ _ _ _ _ => (jw_name 15 (by decide) sc.nd rfl (by first | exact Or.inl rfl | exact Or.inr rfl))) (fun _ _ _ _ _ => jts_nil) (fun _ _ _ _ _ => (je_ix u1 (je_var 15) je_int)))
  (jb_cons (js_expr (je_call c__check_rooms tk (hr.mono (by decide)) rfl Y.g__check_rooms (ja_cons (je_fld (je_var 0)) ja_nil) (al_cons al_nil)))
  (jb_cons (js_expr (je_call c__check_exits tk (hr.mono (by decide)) rfl Y.g__check_exits (ja_cons (je_fld (je_var 0)) ja_nil) (al_cons al_nil)))
  (jb_cons (js_expr (je_call c__check_ways tk (hr.mono (by decide)) rfl Y.g__check_ways (ja_cons (je_fld (je_var 0)) (ja_cons (je_var 4) (ja_cons (je_var 5) ja_nil))) (al_cons (al_cons (al_cons al_nil)))))
  (jb_cons (js_set 7 sc.nd rfl (by first | exact Or.inl rfl | exact Or.inr rfl) (je_bin bd_add (je_bin bd_add (je_var 4) (je_var 5)) (je_var 6)))
  (jb_cons (js_if (jt_cmp bd_lt (je_lenTx rfl rfl Y.n_len rfl Y.n_set (je_var 7)) (je_callB b_lenA rfl Y.n_len boot_len (ja_cons (je_var 7) ja_nil)))
  (jb_one (js_raise rfl tk (jx_own1 PySem.F.excBase_ValueError Y.x_BadHouse.1 Y.g_BadHouse Y.x_BadHouse.2.1 (raises_own Y.x_BadHouse.2.2.1 Y.x_BadHouse.2.2.2) rfl je_str)))
  jb_nil)
  (jb_cons (js_fld (je_var 0) (je_pub (jf_dc (own := [(("at" : Str), 16), (("name" : Str), 8)]) rfl sc.nd (ji_enum rfl Y.n_enumerate (ja_cons (je_var 4) ja_nil)) (blkOk_by (N := [("self" : Str), ("rooms" : Str), ("exits" : Str), ("ways" : Str), ("room_names" : Str), ("exit_names" : Str), ("way_names" : Str), ("names" : Str), ("name" : Str), ("hold" : Str), ("start" : Str), ("end" : Str), ("width" : Str), ("time" : Str), ("room" : Str), ("way" : Str), ("at" : Str)]) (sc := defScope (inC 53 0)) (by decide +kernel)) (fun _ _ _ _ _ => (jw_tup rfl (jws_cons (jw_name 16 (by decide) sc.nd rfl (by first | exact Or.inl rfl | exact Or.inr rfl)) (jws_cons (jw_name 8 (by decide) sc.nd rfl (by first | exact Or.inl rfl | exact Or.inr rfl)) jws_nil)) rfl rfl (gl_cons (gl_cons gl_nil)))) (fun _ _ _ _ _ => jts_nil) (fun _ _ _ _ _ => (je_var 8)) (fun _ _ _ _ _ => (je_var 16)))))
  (jb_cons (js_fld (je_var 0) (je_pub (jf_dc (own := [(("at" : Str), 16), (("name" : Str), 8)]) rfl sc.nd (ji_enum rfl Y.n_enumerate (ja_cons (je_var 5) ja_nil)) (blkOk_by (N := [("self" : Str), ("rooms" : Str), ("exits" : Str), ("ways" : Str), ("room_names" : Str), ("exit_names" : Str), ("way_names" : Str), ("names" : Str), ("name" : Str), ("hold" : Str), ("start" : Str), ("end" : Str), ("width" : Str), ("time" : Str), ("room" : Str), ("way" : Str), ("at" : Str)]) (sc := defScope (inC 53 0)) (by decide +kernel)) (fun _ _ _ _ _ => (jw_tup rfl (jws_cons (jw_name 16 (by decide) sc.nd rfl (by first | exact Or.inl rfl | exact Or.inr rfl)) (jws_cons (jw_name 8 (by decide) sc.nd rfl (by first | exact Or.inl rfl | exact Or.inr rfl)) jws_nil)) rfl rfl (gl_cons (gl_cons gl_nil)))) (fun _ _ _ _ _ => jts_nil) (fun _ _ _ _ _ => (je_var 8)) (fun _ _ _ _ _ => (je_var 16)))))
  (jb_one (js_fld (je_var 0) (je_pub (jf_dc (own := [(("at" : Str), 16), (("name" : Str), 8)]) rfl sc.nd (ji_enum rfl Y.n_enumerate (ja_cons (je_var 6) ja_nil)) (blkOk_by (N := [("self" : Str), ("rooms" : Str), ("exits" : Str), ("ways" : Str), ("room_names" : Str), ("exit_names" : Str), ("way_names" : Str), ("names" : Str), ("name" : Str), ("hold" : Str), ("start" : Str), ("end" : Str), ("width" : Str), ("time" : Str), ("room" : Str), ("way" : Str), ("at" : Str)]) (sc := defScope (inC 53 0)) (by decide +kernel)) (fun _ _ _ _ _ => (jw_tup rfl (jws_cons (jw_name 16 (by decide) sc.nd rfl (by first | exact Or.inl rfl | exact Or.inr rfl)) (jws_cons (jw_name 8 (by decide) sc.nd rfl (by first | exact Or.inl rfl | exact Or.inr rfl)) jws_nil)) rfl rfl (gl_cons (gl_cons gl_nil)))) (fun _ _ _ _ _ => jts_nil) (fun _ _ _ _ _ => (je_var 8)) (fun _ _ _ _ _ => (je_var 16)))))))))))))))))))
theorem ok_House___init__ (Y : Gs K mg) {d__check_exits : FuncData} (c__check_exits : Cal P w K mg base 2 (He.ga K ("_check_exits" : Str)) d__check_exits [("exits" : Str)] (F__check_exits K)) {d__check_rooms : FuncData} (c__check_rooms : Cal P w K mg base 2 (He.ga K ("_check_rooms" : Str)) d__check_rooms [("rooms" : Str)] (F__check_rooms K)) {d__check_ways : FuncData} (c__check_ways : Cal P w K mg base 2 (He.ga K ("_check_ways" : Str)) d__check_ways [("ways" : Str), ("rooms" : Str), ("exits" : Str)] (F__check_ways K)) {f : Addr} {fd : FuncData} (F : FunD K ("__init__" : Str) ("House.__init__" : Str) (defArgs (inC 53 0)) (defBody (inC 53 0)) (defScope (inC 53 0)) [] [] f fd) : Cal P w K mg base 3 f fd [("self" : Str), ("rooms" : Str), ("exits" : Str), ("ways" : Str)] (F_House___init__ K) := by
  have h0 := fn_ok (P := P) (w := w) (mg := mg) (base := base) (ex := exitM) (k := 2) (N := [("self" : Str), ("rooms" : Str), ("exits" : Str), ("ways" : Str), ("room_names" : Str), ("exit_names" : Str), ("way_names" : Str), ("names" : Str), ("name" : Str), ("hold" : Str), ("start" : Str), ("end" : Str), ("width" : Str), ("time" : Str), ("room" : Str), ("way" : Str), ("at" : Str)]) (g := g_House___init__ K) exits_M F sc_House___init__ (fun cdv A outer s H E hr => b_House___init__ Y c__check_exits c__check_rooms c__check_ways hr)
  exact ⟨h0, F.kp, F.bindsN (fun _ _ _ _ _ _ us hl => match us, hl with | [_, _, _, _], _ => rfl)⟩
theorem sc__law_draw : FnScope [("script" : Str), ("k" : Str), ("size" : Str), ("count" : Str), ("cell" : Str), ("rest" : Str), ("turn" : Str), ("mixed" : Str)] [("script" : Str), ("k" : Str), ("size" : Str)] (defScope (top 55)) := ⟨rfl, rfl, rfl, by decide +kernel, rfl, by decide +kernel, by decide +kernel⟩
set_option maxHeartbeats 4000000 in
theorem b__law_draw (Y : Gs K mg) {f : Addr} {cdv : Value} {A : Around} {outer : List PySem.Env} {s : Shared} {H : Hp} {E : XK} (hr : Room 0 (A.deeper (envOfC ("_law_draw" : Str) (defScope (top 55)) s.heap.objs.size f cdv))) :
    JB (cxOf (L2.CX P w) P w K mg base [("script" : Str), ("k" : Str), ("size" : Str), ("count" : Str), ("cell" : Str), ("rest" : Str), ("turn" : Str), ("mixed" : Str)] ("_law_draw" : Str) (defScope (top 55)) f cdv A outer s H E) (WC E) none (defBody (top 55)) (g__law_draw K) := by
  have sc := sc__law_draw
  have u64 := hr.units
  have u1 : (A.deeper (envOfC ("_law_draw" : Str) (defScope (top 55)) s.heap.objs.size f cdv)).units + 1 < cLine := by omega
  have tk := takes_of (X := (cxOf (L2.CX P w) P w K mg base [("script" : Str), ("k" : Str), ("size" : Str), ("count" : Str), ("cell" : Str), ("rest" : Str), ("turn" : Str), ("mixed" : Str)] ("_law_draw" : Str) (defScope (top 55)) f cdv A outer s H E)) (E := E) rfl rfl rfl rfl
  have hp := passes_of (X := (cxOf (L2.CX P w) P w K mg base [("script" : Str), ("k" : Str), ("size" : Str), ("count" : Str), ("cell" : Str), ("rest" : Str), ("turn" : Str), ("mixed" : Str)] ("_law_draw" : Str) (defScope (top 55)) f cdv A outer s H E)) rfl
  exact (jb_cons (js_set 3 sc.nd rfl (by first | exact Or.inl rfl | exact Or.inr rfl) (je_callB (b_min2 rfl) rfl Y.n_min boot_min (ja_cons (je_callB b_lenA rfl Y.n_len boot_len (ja_cons (je_var 0) ja_nil)) (ja_cons je_int ja_nil))))
  (jb_cons (js_set 4 sc.nd rfl (by first | exact Or.inl rfl | exact Or.inr rfl) je_int)
  (jb_cons (js_if (jt_cmp bd_gt (je_var 3) je_int)
  (jb_one (js_set 4 sc.nd rfl (by first | exact Or.inl rfl | exact Or.inr rfl) (je_callB b_abs rfl Y.n_abs boot_abs (ja_cons (je_ix u1 (je_var 0) (je_bin bd_mod (je_var 1) (je_var 3))) ja_nil))))
  jb_nil)
  (jb_cons (js_if (jt_cmp bd_ge (je_var 4) (je_bin bd_pow je_int je_int))
  (jb_cons (js_set 5 sc.nd rfl (by first | exact Or.inl rfl | exact Or.inr rfl) (je_var 4))
  (jb_cons (js_for [6] hp rfl (ji_rng1 rfl Y.n_range (ja_cons (je_bin bd_div (je_var 1) (je_var 3)) ja_nil)) (jg_name 6 sc.nd rfl (by first | exact Or.inl rfl | exact Or.inr rfl))
  (jb_one (js_set 5 sc.nd rfl (by first | exact Or.inl rfl | exact Or.inr rfl) (je_bin bd_div (je_var 5) je_int))))
  (jb_one (js_if (jt_cmp bd_gt (je_var 5) je_int)
  (jb_one (js_ret (je_bin bd_mod (je_bin bd_mod (je_callTy b_int rfl Y.n_int boot_int (ja_cons (je_var 5) ja_nil)) je_int) (je_var 2))))
  jb_nil))))
  jb_nil)
  (jb_cons (js_set 7 sc.nd rfl (by first | exact Or.inl rfl | exact Or.inr rfl) (je_bin bd_mod (je_callTy b_int rfl Y.n_int boot_int (ja_cons (je_bin bd_add (je_bin bd_add (je_var 4) (je_bin bd_mul je_int (je_var 1))) je_int) ja_nil)) je_int))
  (jb_cons (js_set 7 sc.nd rfl (by first | exact Or.inl rfl | exact Or.inr rfl) (je_bin bd_mod (je_callTy b_int rfl Y.n_int boot_int (ja_cons (je_bin bd_mul (je_var 7) (je_bin bd_add (je_var 7) je_int)) ja_nil)) je_int))
  (jb_cons (js_set 7 sc.nd rfl (by first | exact Or.inl rfl | exact Or.inr rfl) (je_bin bd_mod (je_callTy b_int rfl Y.n_int boot_int (ja_cons (je_bin bd_add (je_bin bd_mul (je_var 7) (je_bin bd_add (je_var 7) je_int)) (je_bin bd_mul je_int (je_var 1))) ja_nil)) je_int))
  (jb_one (js_ret (je_bin bd_mod (je_callTy b_int rfl Y.n_int boot_int (ja_cons (je_bin bd_div (je_var 7) je_int) ja_nil)) (je_var 2)))))))))))
theorem ok__law_draw (Y : Gs K mg) {f : Addr} {fd : FuncData} (F : FunD K ("_law_draw" : Str) ("_law_draw" : Str) (defArgs (top 55)) (defBody (top 55)) (defScope (top 55)) [] [] f fd) : Cal P w K mg base 1 f fd [("script" : Str), ("k" : Str), ("size" : Str)] (F__law_draw K) := by
  have h0 := fn_ok (P := P) (w := w) (mg := mg) (base := base) (ex := exitP) (k := 0) (N := [("script" : Str), ("k" : Str), ("size" : Str), ("count" : Str), ("cell" : Str), ("rest" : Str), ("turn" : Str), ("mixed" : Str)]) (g := g__law_draw K) exits_P F sc__law_draw (fun cdv A outer s H E hr => b__law_draw Y hr)
  exact ⟨h0, F.kp, F.bindsN (fun _ _ _ _ _ _ us hl => match us, hl with | [_, _, _], _ => rfl)⟩
theorem sc__law_name : FnScope [("script" : Str), ("at" : Str), ("letters" : Str), ("spot" : Str), ("size" : Str), ("word" : Str), ("turn" : Str)] [("script" : Str), ("at" : Str)] (defScope (top 56)) := ⟨rfl, rfl, rfl, by decide +kernel, rfl, by decide +kernel, by decide +kernel⟩
set_option maxHeartbeats 4000000 in
theorem b__law_name (Y : Gs K mg) {d__law_draw : FuncData} (c__law_draw : Cal P w K mg base 1 (He.ga K ("_law_draw" : Str)) d__law_draw [("script" : Str), ("k" : Str), ("size" : Str)] (F__law_draw K)) {f : Addr} {cdv : Value} {A : Around} {outer : List PySem.Env} {s : Shared} {H : Hp} {E : XK} (hr : Room 1 (A.deeper (envOfC ("_law_name" : Str) (defScope (top 56)) s.heap.objs.size f cdv))) :
    JB (cxOf (L2.CX P w) P w K mg base [("script" : Str), ("at" : Str), ("letters" : Str), ("spot" : Str), ("size" : Str), ("word" : Str), ("turn" : Str)] ("_law_name" : Str) (defScope (top 56)) f cdv A outer s H E) (WC E) none (defBody (top 56)) (g__law_name K) := by
  have sc := sc__law_name
  have u64 := hr.units
  have u1 : (A.deeper (envOfC ("_law_name" : Str) (defScope (top 56)) s.heap.objs.size f cdv)).units + 1 < cLine := by omega
  have tk := takes_of (X := (cxOf (L2.CX P w) P w K mg base [("script" : Str), ("at" : Str), ("letters" : Str), ("spot" : Str), ("size" : Str), ("word" : Str), ("turn" : Str)] ("_law_name" : Str) (defScope (top 56)) f cdv A outer s H E)) (E := E) rfl rfl rfl rfl
  have hp := passes_of (X := (cxOf (L2.CX P w) P w K mg base [("script" : Str), ("at" : Str), ("letters" : Str), ("spot" : Str), ("size" : Str), ("word" : Str), ("turn" : Str)] ("_law_name" : Str) (defScope (top 56)) f cdv A outer s H E)) rfl
  exact (jb_cons (js_set 2 sc.nd rfl (by first | exact Or.inl rfl | exact Or.inr rfl) je_str)
  (jb_cons (js_set 3 sc.nd rfl (by first | exact Or.inl rfl | exact Or.inr rfl) (je_bin bd_add je_int (je_call c__law_draw tk (hr.mono (by decide)) rfl Y.g__law_draw (ja_cons (je_var 0) (ja_cons je_int (ja_cons je_int ja_nil))) (al_cons (al_cons (al_cons al_nil))))))
  (jb_cons (js_set 4 sc.nd rfl (by first | exact Or.inl rfl | exact Or.inr rfl) (je_bin bd_add (je_bin bd_add (je_var 3) je_int) (je_call c__law_draw tk (hr.mono (by decide)) rfl Y.g__law_draw (ja_cons (je_var 0) (ja_cons (je_bin bd_add je_int (je_var 1)) (ja_cons (je_bin bd_sub je_int (je_var 3)) ja_nil))) (al_cons (al_cons (al_cons al_nil))))))
  (jb_cons (js_set 5 sc.nd rfl (by first | exact Or.inl rfl | exact Or.inr rfl) (je_ix u1 (je_var 2) (je_call c__law_draw tk (hr.mono (by decide)) rfl Y.g__law_draw (ja_cons (je_var 0) (ja_cons (je_bin bd_add je_int (je_var 1)) (ja_cons je_int ja_nil))) (al_cons (al_cons (al_cons al_nil))))))
  (jb_cons (js_for [6] hp rfl (ji_rng2 rfl Y.n_range (ja_cons je_int (ja_cons (je_var 4) ja_nil))) (jg_name 6 sc.nd rfl (by first | exact Or.inl rfl | exact Or.inr rfl))
  (jb_one (js_if (jt_cmp (bd_eq u64) (je_var 6) (je_var 3))
  (jb_one (js_set 5 sc.nd rfl (by first | exact Or.inl rfl | exact Or.inr rfl) (je_bin bd_add (je_var 5) (je_ix u1 (je_var 2) (je_bin bd_mod (je_callTy b_int rfl Y.n_int boot_int (ja_cons (je_bin bd_add (je_bin bd_mul (je_var 1) je_int) (je_call c__law_draw tk (hr.mono (by decide)) rfl Y.g__law_draw (ja_cons (je_var 0) (ja_cons je_int (ja_cons je_int ja_nil))) (al_cons (al_cons (al_cons al_nil))))) ja_nil)) je_int)))))
  (jb_one (js_set 5 sc.nd rfl (by first | exact Or.inl rfl | exact Or.inr rfl) (je_bin bd_add (je_var 5) (je_ix u1 (je_var 2) (je_call c__law_draw tk (hr.mono (by decide)) rfl Y.g__law_draw (ja_cons (je_var 0) (ja_cons (je_bin bd_add (je_bin bd_add je_int (je_bin bd_mul je_int (je_var 1))) (je_var 6)) (ja_cons je_int ja_nil))) (al_cons (al_cons (al_cons al_nil)))))))))))
  (jb_one (js_ret (je_var 5))))))))
theorem ok__law_name (Y : Gs K mg) {d__law_draw : FuncData} (c__law_draw : Cal P w K mg base 1 (He.ga K ("_law_draw" : Str)) d__law_draw [("script" : Str), ("k" : Str), ("size" : Str)] (F__law_draw K)) {f : Addr} {fd : FuncData} (F : FunD K ("_law_name" : Str) ("_law_name" : Str) (defArgs (top 56)) (defBody (top 56)) (defScope (top 56)) [] [] f fd) : Cal P w K mg base 2 f fd [("script" : Str), ("at" : Str)] (F__law_name K) := by
  have h0 := fn_ok (P := P) (w := w) (mg := mg) (base := base) (ex := exitP) (k := 1) (N := [("script" : Str), ("at" : Str), ("letters" : Str), ("spot" : Str), ("size" : Str), ("word" : Str), ("turn" : Str)]) (g := g__law_name K) exits_P F sc__law_name (fun cdv A outer s H E hr => b__law_name Y c__law_draw hr)
  exact ⟨h0, F.kp, F.bindsN (fun _ _ _ _ _ _ us hl => match us, hl with | [_, _], _ => rfl)⟩
theorem sc__law_lists : FnScope [("script" : Str), ("many" : Str), ("gates" : Str), ("count" : Str), ("rooms" : Str), ("at" : Str), ("hold" : Str), ("exits" : Str), ("places" : Str), ("ways" : Str), ("start" : Str), ("end" : Str), ("width" : Str), ("time" : Str), ("room" : Str)] [("script" : Str), ("many" : Str), ("gates" : Str), ("count" : Str)] (defScope (top 57)) := ⟨rfl, rfl, rfl, by decide +kernel, rfl, by decide +kernel, by decide +kernel⟩
set_option maxHeartbeats 4000000 in
theorem b__law_lists (Y : Gs K mg) {d__law_draw : FuncData} (c__law_draw : Cal P w K mg base 1 (He.ga K ("_law_draw" : Str)) d__law_draw [("script" : Str), ("k" : Str), ("size" : Str)] (F__law_draw K)) {d__law_name : FuncData} (c__law_name : Cal P w K mg base 2 (He.ga K ("_law_name" : Str)) d__law_name [("script" : Str), ("at" : Str)] (F__law_name K)) {f : Addr} {cdv : Value} {A : Around} {outer : List PySem.Env} {s : Shared} {H : Hp} {E : XK} (hr : Room 2 (A.deeper (envOfC ("_law_lists" : Str) (defScope (top 57)) s.heap.objs.size f cdv))) :
    JB (cxOf (L2.CX P w) P w K mg base [("script" : Str), ("many" : Str), ("gates" : Str), ("count" : Str), ("rooms" : Str), ("at" : Str), ("hold" : Str), ("exits" : Str), ("places" : Str), ("ways" : Str), ("start" : Str), ("end" : Str), ("width" : Str), ("time" : Str), ("room" : Str)] ("_law_lists" : Str) (defScope (top 57)) f cdv A outer s H E) (WC E) none (defBody (top 57)) (g__law_lists K) := by
  have sc := sc__law_lists
  have u64 := hr.units
  have u1 : (A.deeper (envOfC ("_law_lists" : Str) (defScope (top 57)) s.heap.objs.size f cdv)).units + 1 < cLine := by omega
  have tk := takes_of (X := (cxOf (L2.CX P w) P w K mg base [("script" : Str), ("many" : Str), ("gates" : Str), ("count" : Str), ("rooms" : Str), ("at" : Str), ("hold" : Str), ("exits" : Str), ("places" : Str), ("ways" : Str), ("start" : Str), ("end" : Str), ("width" : Str), ("time" : Str), ("room" : Str)] ("_law_lists" : Str) (defScope (top 57)) f cdv A outer s H E)) (E := E) rfl rfl rfl rfl
  have hp := passes_of (X := (cxOf (L2.CX P w) P w K mg base [("script" : Str), ("many" : Str), ("gates" : Str), ("count" : Str), ("rooms" : Str), ("at" : Str), ("hold" : Str), ("exits" : Str), ("places" : Str), ("ways" : Str), ("start" : Str), ("end" : Str), ("width" : Str), ("time" : Str), ("room" : Str)] ("_law_lists" : Str) (defScope (top 57)) f cdv A outer s H E)) rfl
  exact (jb_cons (js_set 4 sc.nd rfl (by first | exact Or.inl rfl | exact Or.inr rfl) (je_own (jf_lst ja_nil)))
  (jb_cons (js_for [5, 6] hp rfl (ji_rng1 rfl Y.n_range (ja_cons (je_var 1) ja_nil)) (jg_name 5 sc.nd rfl (by first | exact Or.inl rfl | exact Or.inr rfl))
  (jb_cons (js_set 6 sc.nd rfl (by first | exact Or.inl rfl | exact Or.inr rfl) (je_ix u1 (je_pub (jf_lst (ja_cons je_int (ja_cons je_int (ja_cons je_int (ja_cons (je_call c__law_draw tk (hr.mono (by decide)) rfl Y.g__law_draw (ja_cons (je_var 0) (ja_cons (je_bin bd_add je_int (je_var 5)) (ja_cons je_int ja_nil))) (al_cons (al_cons (al_cons al_nil)))) ja_nil)))))) (je_call c__law_draw tk (hr.mono (by decide)) rfl Y.g__law_draw (ja_cons (je_var 0) (ja_cons (je_bin bd_add je_int (je_var 5)) (ja_cons je_int ja_nil))) (al_cons (al_cons (al_cons al_nil))))))
  (jb_one (js_expr (je_mth PySem.F.plainAttrs_list PySem.F.slot_list_append PySem.F.type_list_append m_append (je_var 4) (ja_cons (je_tup (ja_cons (je_call c__law_name tk (hr.mono (by decide)) rfl Y.g__law_name (ja_cons (je_var 0) (ja_cons (je_var 5) ja_nil)) (al_cons (al_cons al_nil))) (ja_cons (je_var 6) ja_nil))) ja_nil))))))
  (jb_cons (js_setLcP (own := [(("at" : Str), 5)]) 7 rfl sc.nd rfl rfl (sw_true rfl rfl rfl rfl) (ji_rng1 rfl Y.n_range (ja_cons (je_var 2) ja_nil)) (blkOk_by (N := [("script" : Str), ("many" : Str), ("gates" : Str), ("count" : Str), ("rooms" : Str), ("at" : Str), ("hold" : Str), ("exits" : Str), ("places" : Str), ("ways" : Str), ("start" : Str), ("end" : Str), ("width" : Str), ("time" : Str), ("room" : Str)]) (sc := defScope (top 57)) (by decide +kernel)) (fun _ _ _ _ _ => (jw_name 5 (by decide) sc.nd rfl (by first | exact Or.inl rfl | exact Or.inr rfl))) (fun _ _ _ _ _ => jts_nil) (fun _ _ _ _ _ => (je_call c__law_name tk0' (hr.mono (by decide)) rfl Y.g__law_name (ja_cons (je_var 0) (ja_cons (je_bin bd_add (je_var 1) (je_var 5)) ja_nil)) (al_cons (al_cons al_nil)))))
  (jb_cons (js_set 8 sc.nd rfl (by first | exact Or.inl rfl | exact Or.inr rfl) (je_bin bd_add (je_pub (jf_lc (own := [(("room" : Str), 14)]) rfl sc.nd (ji_any (je_var 4)) (blkOk_by (N := [("script" : Str), ("many" : Str), ("gates" : Str), ("count" : Str), ("rooms" : Str), ("at" : Str), ("hold" : Str), ("exits" : Str), ("places" : Str), ("ways" : Str), ("start" : Str), ("end" : Str), ("width" : Str), ("time" : Str), ("room" : Str)]) (sc := defScope (top 57)) (by decide +kernel)) (fun _ _ _ _ _ => (jw_name 14 (by decide) sc.nd rfl (by first | exact Or.inl rfl | exact Or.inr rfl))) (fun _ _ _ _ _ => jts_nil) (fun _ _ _ _ _ => (je_ix u1 (je_var 14) je_int)))) (je_var 7)))
  (jb_cons (js_set 9 sc.nd rfl (by first | exact Or.inl rfl | exact Or.inr rfl) (je_own (jf_lst ja_nil)))
  (jb_cons (js_for [5, 10, 11, 12, 13] hp rfl (ji_rng1 rfl Y.n_range (ja_cons (je_var 3) ja_nil)) (jg_name 5 sc.nd rfl (by first | exact Or.inl rfl | exact Or.inr rfl))
  (jb_one (js_if (jt_w (jw_and (jt_cmp bd_gt (je_var 1) je_int) (jw_and1 (jt_cmp bd_gt (je_callB b_lenA rfl Y.n_len boot_len (ja_cons (je_var 8) ja_nil)) je_int))))
  (jb_cons (js_set 10 sc.nd rfl (by first | exact Or.inl rfl | exact Or.inr rfl) (je_call c__law_draw tk (hr.mono (by decide)) rfl Y.g__law_draw (ja_cons (je_var 0) (ja_cons (je_bin bd_add je_int (je_var 5)) (ja_cons (je_var 1) ja_nil))) (al_cons (al_cons (al_cons al_nil)))))
  (jb_cons (js_set 11 sc.nd rfl (by first | exact Or.inl rfl | exact Or.inr rfl) (je_bin bd_mod (je_callTy b_int rfl Y.n_int boot_int (ja_cons (je_bin bd_add (je_bin bd_add (je_var 10) je_int) (je_call c__law_draw tk (hr.mono (by decide)) rfl Y.g__law_draw (ja_cons (je_var 0) (ja_cons (je_bin bd_add je_int (je_var 5)) (ja_cons (je_bin bd_sub (je_callB b_lenA rfl Y.n_len boot_len (ja_cons (je_var 8) ja_nil)) je_int) ja_nil))) (al_cons (al_cons (al_cons al_nil))))) ja_nil)) (je_callB b_lenA rfl Y.n_len boot_len (ja_cons (je_var 8) ja_nil))))
  (jb_cons (js_set 12 sc.nd rfl (by first | exact Or.inl rfl | exact Or.inr rfl) (je_ix u1 (je_pub (jf_lst (ja_cons je_int (ja_cons je_int (ja_cons je_int (ja_cons (je_call c__law_draw tk (hr.mono (by decide)) rfl Y.g__law_draw (ja_cons (je_var 0) (ja_cons (je_bin bd_add je_int (je_var 5)) (ja_cons je_int ja_nil))) (al_cons (al_cons (al_cons al_nil)))) ja_nil)))))) (je_call c__law_draw tk (hr.mono (by decide)) rfl Y.g__law_draw (ja_cons (je_var 0) (ja_cons (je_bin bd_add je_int (je_var 5)) (ja_cons je_int ja_nil))) (al_cons (al_cons (al_cons al_nil))))))
  (jb_cons (js_set 13 sc.nd rfl (by first | exact Or.inl rfl | exact Or.inr rfl) (je_bin bd_add je_int (je_call c__law_draw tk (hr.mono (by decide)) rfl Y.g__law_draw (ja_cons (je_var 0) (ja_cons (je_bin bd_add je_int (je_var 5)) (ja_cons je_int ja_nil))) (al_cons (al_cons (al_cons al_nil))))))
  (jb_one (js_expr (je_mth PySem.F.plainAttrs_list PySem.F.slot_list_append PySem.F.type_list_append m_append (je_var 9) (ja_cons (je_tup (ja_cons (je_call c__law_name tk (hr.mono (by decide)) rfl Y.g__law_name (ja_cons (je_var 0) (ja_cons (je_bin bd_add (je_bin bd_add (je_var 1) (je_var 2)) (je_var 5)) ja_nil)) (al_cons (al_cons al_nil))) (ja_cons (je_ix u1 (je_var 8) (je_var 10)) (ja_cons (je_ix u1 (je_var 8) (je_var 11)) (ja_cons (je_var 12) (ja_cons (je_var 13) ja_nil)))))) ja_nil))))))))
  jb_nil)))
  (jb_one (js_fz 9 (js_fz 4 (js_ret (je_tup (ja_cons (je_var 4) (ja_cons (je_var 7) (ja_cons (je_var 9) ja_nil))))))))))))))
theorem ok__law_lists (Y : Gs K mg) {d__law_draw : FuncData} (c__law_draw : Cal P w K mg base 1 (He.ga K ("_law_draw" : Str)) d__law_draw [("script" : Str), ("k" : Str), ("size" : Str)] (F__law_draw K)) {d__law_name : FuncData} (c__law_name : Cal P w K mg base 2 (He.ga K ("_law_name" : Str)) d__law_name [("script" : Str), ("at" : Str)] (F__law_name K)) {f : Addr} {fd : FuncData} (F : FunD K ("_law_lists" : Str) ("_law_lists" : Str) (defArgs (top 57)) (defBody (top 57)) (defScope (top 57)) [] [] f fd) : Cal P w K mg base 3 f fd [("script" : Str), ("many" : Str), ("gates" : Str), ("count" : Str)] (F__law_lists K) := by
  have h0 := fn_ok (P := P) (w := w) (mg := mg) (base := base) (ex := exitP) (k := 2) (N := [("script" : Str), ("many" : Str), ("gates" : Str), ("count" : Str), ("rooms" : Str), ("at" : Str), ("hold" : Str), ("exits" : Str), ("places" : Str), ("ways" : Str), ("start" : Str), ("end" : Str), ("width" : Str), ("time" : Str), ("room" : Str)]) (g := g__law_lists K) exits_P F sc__law_lists (fun cdv A outer s H E hr => b__law_lists Y c__law_draw c__law_name hr)
  exact ⟨h0, F.kp, F.bindsN (fun _ _ _ _ _ _ us hl => match us, hl with | [_, _, _, _], _ => rfl)⟩
theorem sc__law_odd : FnScope [("script" : Str), ("k" : Str), ("word" : Str), ("kind" : Str), ("spot" : Str), ("marks" : Str)] [("script" : Str), ("k" : Str), ("word" : Str)] (defScope (top 58)) := ⟨rfl, rfl, rfl, by decide +kernel, rfl, by decide +kernel, by decide +kernel⟩
set_option maxHeartbeats 4000000 in
theorem b__law_odd (Y : Gs K mg) {d__law_draw : FuncData} (c__law_draw : Cal P w K mg base 1 (He.ga K ("_law_draw" : Str)) d__law_draw [("script" : Str), ("k" : Str), ("size" : Str)] (F__law_draw K)) {f : Addr} {cdv : Value} {A : Around} {outer : List PySem.Env} {s : Shared} {H : Hp} {E : XK} (hr : Room 1 (A.deeper (envOfC ("_law_odd" : Str) (defScope (top 58)) s.heap.objs.size f cdv))) :
    JB (cxOf (L2.CX P w) P w K mg base [("script" : Str), ("k" : Str), ("word" : Str), ("kind" : Str), ("spot" : Str), ("marks" : Str)] ("_law_odd" : Str) (defScope (top 58)) f cdv A outer s H E) (WC E) none (defBody (top 58)) (g__law_odd K) := by
  have sc := sc__law_odd
  have u64 := hr.units
  have u1 : (A.deeper (envOfC ("_law_odd" : Str) (defScope (top 58)) s.heap.objs.size f cdv)).units + 1 < cLine := by omega
  have tk := takes_of (X := (cxOf (L2.CX P w) P w K mg base [("script" : Str), ("k" : Str), ("word" : Str), ("kind" : Str), ("spot" : Str), ("marks" : Str)] ("_law_odd" : Str) (defScope (top 58)) f cdv A outer s H E)) (E := E) rfl rfl rfl rfl
  have hp := passes_of (X := (cxOf (L2.CX P w) P w K mg base [("script" : Str), ("k" : Str), ("word" : Str), ("kind" : Str), ("spot" : Str), ("marks" : Str)] ("_law_odd" : Str) (defScope (top 58)) f cdv A outer s H E)) rfl
  exact (jb_cons (js_set 3 sc.nd rfl (by first | exact Or.inl rfl | exact Or.inr rfl) (je_call c__law_draw tk (hr.mono (by decide)) rfl Y.g__law_draw (ja_cons (je_var 0) (ja_cons (je_var 1) (ja_cons je_int ja_nil))) (al_cons (al_cons (al_cons al_nil)))))
  (jb_cons (js_set 4 sc.nd rfl (by first | exact Or.inl rfl | exact Or.inr rfl) (je_call c__law_draw tk (hr.mono (by decide)) rfl Y.g__law_draw (ja_cons (je_var 0) (ja_cons (je_bin bd_add (je_var 1) je_int) (ja_cons (je_callB b_lenA rfl Y.n_len boot_len (ja_cons (je_var 2) ja_nil)) ja_nil))) (al_cons (al_cons (al_cons al_nil)))))
  (jb_cons (js_set 5 sc.nd rfl (by first | exact Or.inl rfl | exact Or.inr rfl) je_str)
  (jb_cons (js_if (jt_cmp (bd_eq u64) (je_var 3) je_int)
  (jb_one (js_ret je_str))
  jb_nil)
  (jb_cons (js_if (jt_cmp (bd_eq u64) (je_var 3) je_int)
  (jb_one (js_ret (je_slice (je_var 2) jo_none (jo_some je_int))))
  jb_nil)
  (jb_cons (js_if (jt_cmp (bd_eq u64) (je_var 3) je_int)
  (jb_one (js_ret (je_slice (je_bin bd_add (je_var 2) je_str) jo_none (jo_some je_int))))
  jb_nil)
  (jb_cons (js_if (jt_cmp (bd_eq u64) (je_var 3) je_int)
  (jb_one (js_ret (je_slice (je_bin bd_add (je_var 2) je_str) jo_none (jo_some je_int))))
  jb_nil)
  (jb_cons (js_if (jt_cmp (bd_eq u64) (je_var 3) je_int)
  (jb_one (js_ret (je_bin bd_add (je_bin bd_add (je_slice (je_var 2) jo_none (jo_some (je_var 4))) (je_ix u1 je_str (je_call c__law_draw tk (hr.mono (by decide)) rfl Y.g__law_draw (ja_cons (je_var 0) (ja_cons (je_bin bd_add (je_var 1) je_int) (ja_cons je_int ja_nil))) (al_cons (al_cons (al_cons al_nil)))))) (je_slice (je_var 2) (jo_some (je_bin bd_add (je_var 4) je_int)) jo_none))))
  jb_nil)
  (jb_cons (js_if (jt_cmp (bd_eq u64) (je_var 3) je_int)
  (jb_one (js_ret (je_bin bd_add (je_ix u1 je_str (je_call c__law_draw tk (hr.mono (by decide)) rfl Y.g__law_draw (ja_cons (je_var 0) (ja_cons (je_bin bd_add (je_var 1) je_int) (ja_cons je_int ja_nil))) (al_cons (al_cons (al_cons al_nil))))) (je_slice (je_var 2) (jo_some je_int) jo_none))))
  jb_nil)
  (jb_cons (js_if (jt_cmp (bd_eq u64) (je_var 3) je_int)
  (jb_one (js_ret (je_bin bd_add (je_slice (je_var 2) jo_none (jo_some je_int)) je_str)))
  jb_nil)
  (jb_cons (js_if (jt_cmp (bd_eq u64) (je_var 3) je_int)
  (jb_one (js_ret (je_bin bd_add (je_slice (je_var 2) jo_none (jo_some je_int)) je_str)))
  jb_nil)
  (jb_cons (js_if (jt_cmp (bd_eq u64) (je_var 3) je_int)
  (jb_one (js_ret (je_bin bd_add je_str (je_slice (je_var 2) jo_none (jo_some je_int)))))
  jb_nil)
  (jb_one (js_ret (je_bin bd_add (je_bin bd_add (je_slice (je_var 2) jo_none (jo_some (je_var 4))) (je_ix u1 (je_var 5) (je_call c__law_draw tk (hr.mono (by decide)) rfl Y.g__law_draw (ja_cons (je_var 0) (ja_cons (je_bin bd_add (je_var 1) je_int) (ja_cons (je_callB b_lenA rfl Y.n_len boot_len (ja_cons (je_var 5) ja_nil)) ja_nil))) (al_cons (al_cons (al_cons al_nil)))))) (je_slice (je_var 2) (jo_some (je_bin bd_add (je_var 4) je_int)) jo_none))))))))))))))))
theorem ok__law_odd (Y : Gs K mg) {d__law_draw : FuncData} (c__law_draw : Cal P w K mg base 1 (He.ga K ("_law_draw" : Str)) d__law_draw [("script" : Str), ("k" : Str), ("size" : Str)] (F__law_draw K)) {f : Addr} {fd : FuncData} (F : FunD K ("_law_odd" : Str) ("_law_odd" : Str) (defArgs (top 58)) (defBody (top 58)) (defScope (top 58)) [] [] f fd) : Cal P w K mg base 2 f fd [("script" : Str), ("k" : Str), ("word" : Str)] (F__law_odd K) := by
  have h0 := fn_ok (P := P) (w := w) (mg := mg) (base := base) (ex := exitP) (k := 1) (N := [("script" : Str), ("k" : Str), ("word" : Str), ("kind" : Str), ("spot" : Str), ("marks" : Str)]) (g := g__law_odd K) exits_P F sc__law_odd (fun cdv A outer s H E hr => b__law_odd Y c__law_draw hr)
  exact ⟨h0, F.kp, F.bindsN (fun _ _ _ _ _ _ us hl => match us, hl with | [_, _, _], _ => rfl)⟩
theorem sc__law_swap : FnScope [("word" : Str), ("old" : Str), ("new" : Str)] [("word" : Str), ("old" : Str), ("new" : Str)] (defScope (top 59)) := ⟨rfl, rfl, rfl, by decide +kernel, rfl, by decide +kernel, by decide +kernel⟩
set_option maxHeartbeats 4000000 in
theorem b__law_swap (Y : Gs K mg) {f : Addr} {cdv : Value} {A : Around} {outer : List PySem.Env} {s : Shared} {H : Hp} {E : XK} (hr : Room 0 (A.deeper (envOfC ("_law_swap" : Str) (defScope (top 59)) s.heap.objs.size f cdv))) :
    JB (cxOf (L2.CX P w) P w K mg base [("word" : Str), ("old" : Str), ("new" : Str)] ("_law_swap" : Str) (defScope (top 59)) f cdv A outer s H E) (WC E) none (defBody (top 59)) (g__law_swap K) := by
  have sc := sc__law_swap
  have u64 := hr.units
  have u1 : (A.deeper (envOfC ("_law_swap" : Str) (defScope (top 59)) s.heap.objs.size f cdv)).units + 1 < cLine := by omega
  have tk := takes_of (X := (cxOf (L2.CX P w) P w K mg base [("word" : Str), ("old" : Str), ("new" : Str)] ("_law_swap" : Str) (defScope (top 59)) f cdv A outer s H E)) (E := E) rfl rfl rfl rfl
  have hp := passes_of (X := (cxOf (L2.CX P w) P w K mg base [("word" : Str), ("old" : Str), ("new" : Str)] ("_law_swap" : Str) (defScope (top 59)) f cdv A outer s H E)) rfl
  exact (jb_cons (js_if (jt_cmp (bd_eq u64) (je_var 0) (je_var 1))
  (jb_one (js_ret (je_var 2)))
  jb_nil)
  (jb_one (js_ret (je_var 0))))
theorem ok__law_swap (Y : Gs K mg) {f : Addr} {fd : FuncData} (F : FunD K ("_law_swap" : Str) ("_law_swap" : Str) (defArgs (top 59)) (defBody (top 59)) (defScope (top 59)) [] [] f fd) : Cal P w K mg base 1 f fd [("word" : Str), ("old" : Str), ("new" : Str)] (F__law_swap K) := by
  have h0 := fn_ok (P := P) (w := w) (mg := mg) (base := base) (ex := exitP) (k := 0) (N := [("word" : Str), ("old" : Str), ("new" : Str)]) (g := g__law_swap K) exits_P F sc__law_swap (fun cdv A outer s H E hr => b__law_swap Y hr)
  exact ⟨h0, F.kp, F.bindsN (fun _ _ _ _ _ _ us hl => match us, hl with | [_, _, _], _ => rfl)⟩
theorem sc__law_renamed : FnScope [("parts" : Str), ("old" : Str), ("new" : Str), ("rooms" : Str), ("exits" : Str), ("ways" : Str), ("way" : Str), ("ends" : Str), ("room" : Str), ("gate" : Str)] [("parts" : Str), ("old" : Str), ("new" : Str)] (defScope (top 60)) := ⟨rfl, rfl, rfl, by decide +kernel, rfl, by decide +kernel, by decide +kernel⟩
set_option maxHeartbeats 4000000 in
theorem b__law_renamed (Y : Gs K mg) {d__law_swap : FuncData} (c__law_swap : Cal P w K mg base 1 (He.ga K ("_law_swap" : Str)) d__law_swap [("word" : Str), ("old" : Str), ("new" : Str)] (F__law_swap K)) {f : Addr} {cdv : Value} {A : Around} {outer : List PySem.Env} {s : Shared} {H : Hp} {E : XK} (hr : Room 1 (A.deeper (envOfC ("_law_renamed" : Str) (defScope (top 60)) s.heap.objs.size f cdv))) :
    JB (cxOf (L2.CX P w) P w K mg base [("parts" : Str), ("old" : Str), ("new" : Str), ("rooms" : Str), ("exits" : Str), ("ways" : Str), ("way" : Str), ("ends" : Str), ("room" : Str), ("gate" : Str)] ("_law_renamed" : Str) (defScope (top 60)) f cdv A outer s H E) (WC E) none (defBody (top 60)) (g__law_renamed K) := by
  have sc := sc__law_renamed
  have u64 := hr.units
  have u1 : (A.deeper (envOfC ("_law_renamed" : Str) (defScope (top 60)) s.heap.objs.size f cdv)).units + 1 < cLine := by omega
  have tk := takes_of (X := (cxOf (L2.CX P w) P w K mg base [("parts" : Str), ("old" : Str), ("new" : Str), ("rooms" : Str), ("exits" : Str), ("ways" : Str), ("way" : Str), ("ends" : Str), ("room" : Str), ("gate" : Str)] ("_law_renamed" : Str) (defScope (top 60)) f cdv A outer s H E)) (E := E) rfl rfl rfl rfl
  have hp := passes_of (X := (cxOf (L2.CX P w) P w K mg base [("parts" : Str), ("old" : Str), ("new" : Str), ("rooms" : Str), ("exits" : Str), ("ways" : Str), ("way" : Str), ("ends" : Str), ("room" : Str), ("gate" : Str)] ("_law_renamed" : Str) (defScope (top 60)) f cdv A outer s H E)) rfl
  exact (jb_cons (js_setLcP (own := [(("room" : Str), 8)]) 3 rfl sc.nd rfl rfl (sw_true rfl rfl rfl rfl) (ji_any (je_ix u1 (je_var 0) je_int)) (blkOk_by (N := [("parts" : Str), ("old" : Str), ("new" : Str), ("rooms" : Str), ("exits" : Str), ("ways" : Str), ("way" : Str), ("ends" : Str), ("room" : Str), ("gate" : Str)]) (sc := defScope (top 60)) (by decide +kernel)) (fun _ _ _ _ _ => (jw_name 8 (by decide) sc.nd rfl (by first | exact Or.inl rfl | exact Or.inr rfl))) (fun _ _ _ _ _ => jts_nil) (fun _ _ _ _ _ => (je_tup (ja_cons (je_call c__law_swap tk0' (hr.mono (by decide)) rfl Y.g__law_swap (ja_cons (je_ix u1 (je_var 8) je_int) (ja_cons (je_var 1) (ja_cons (je_var 2) ja_nil))) (al_cons (al_cons (al_cons al_nil)))) (ja_cons (je_ix u1 (je_var 8) je_int) ja_nil)))))
  (jb_cons (js_setLcP (own := [(("gate" : Str), 9)]) 4 rfl sc.nd rfl rfl (sw_true rfl rfl rfl rfl) (ji_any (je_ix u1 (je_var 0) je_int)) (blkOk_by (N := [("parts" : Str), ("old" : Str), ("new" : Str), ("rooms" : Str), ("exits" : Str), ("ways" : Str), ("way" : Str), ("ends" : Str), ("room" : Str), ("gate" : Str)]) (sc := defScope (top 60)) (by decide +kernel)) (fun _ _ _ _ _ => (jw_name 9 (by decide) sc.nd rfl (by first | exact Or.inl rfl | exact Or.inr rfl))) (fun _ _ _ _ _ => jts_nil) (fun _ _ _ _ _ => (je_call c__law_swap tk0' (hr.mono (by decide)) rfl Y.g__law_swap (ja_cons (je_var 9) (ja_cons (je_var 1) (ja_cons (je_var 2) ja_nil))) (al_cons (al_cons (al_cons al_nil))))))
  (jb_cons (js_set 5 sc.nd rfl (by first | exact Or.inl rfl | exact Or.inr rfl) (je_own (jf_lst ja_nil)))
  (jb_cons (js_for [6, 7] hp rfl (ji_any (je_ix u1 (je_var 0) je_int)) (jg_name 6 sc.nd rfl (by first | exact Or.inl rfl | exact Or.inr rfl))
  (jb_cons (js_set 7 sc.nd rfl (by first | exact Or.inl rfl | exact Or.inr rfl) (je_tup (ja_cons (je_call c__law_swap tk (hr.mono (by decide)) rfl Y.g__law_swap (ja_cons (je_ix u1 (je_var 6) je_int) (ja_cons (je_var 1) (ja_cons (je_var 2) ja_nil))) (al_cons (al_cons (al_cons al_nil)))) (ja_cons (je_call c__law_swap tk (hr.mono (by decide)) rfl Y.g__law_swap (ja_cons (je_ix u1 (je_var 6) je_int) (ja_cons (je_var 1) (ja_cons (je_var 2) ja_nil))) (al_cons (al_cons (al_cons al_nil)))) ja_nil))))
  (jb_one (js_expr (je_mth PySem.F.plainAttrs_list PySem.F.slot_list_append PySem.F.type_list_append m_append (je_var 5) (ja_cons (je_tup (ja_cons (je_call c__law_swap tk (hr.mono (by decide)) rfl Y.g__law_swap (ja_cons (je_ix u1 (je_var 6) je_int) (ja_cons (je_var 1) (ja_cons (je_var 2) ja_nil))) (al_cons (al_cons (al_cons al_nil)))) (ja_cons (je_ix u1 (je_var 7) je_int) (ja_cons (je_ix u1 (je_var 7) je_int) (ja_cons (je_ix u1 (je_var 6) je_int) (ja_cons (je_ix u1 (je_var 6) je_int) ja_nil)))))) ja_nil))))))
  (jb_one (js_fz 5 (js_ret (je_tup (ja_cons (je_var 3) (ja_cons (je_var 4) (ja_cons (je_var 5) ja_nil)))))))))))
theorem ok__law_renamed (Y : Gs K mg) {d__law_swap : FuncData} (c__law_swap : Cal P w K mg base 1 (He.ga K ("_law_swap" : Str)) d__law_swap [("word" : Str), ("old" : Str), ("new" : Str)] (F__law_swap K)) {f : Addr} {fd : FuncData} (F : FunD K ("_law_renamed" : Str) ("_law_renamed" : Str) (defArgs (top 60)) (defBody (top 60)) (defScope (top 60)) [] [] f fd) : Cal P w K mg base 2 f fd [("parts" : Str), ("old" : Str), ("new" : Str)] (F__law_renamed K) := by
  have h0 := fn_ok (P := P) (w := w) (mg := mg) (base := base) (ex := exitP) (k := 1) (N := [("parts" : Str), ("old" : Str), ("new" : Str), ("rooms" : Str), ("exits" : Str), ("ways" : Str), ("way" : Str), ("ends" : Str), ("room" : Str), ("gate" : Str)]) (g := g__law_renamed K) exits_P F sc__law_renamed (fun cdv A outer s H E hr => b__law_renamed Y c__law_swap hr)
  exact ⟨h0, F.kp, F.bindsN (fun _ _ _ _ _ _ us hl => match us, hl with | [_, _, _], _ => rfl)⟩
theorem sc__law_way_changed : FnScope [("script" : Str), ("k" : Str), ("parts" : Str), ("kind" : Str), ("at" : Str), ("way" : Str), ("far" : Str), ("choice" : Str), ("gate" : Str), ("other" : Str), ("ways" : Str)] [("script" : Str), ("k" : Str), ("parts" : Str), ("kind" : Str)] (defScope (top 61)) := ⟨rfl, rfl, rfl, by decide +kernel, rfl, by decide +kernel, by decide +kernel⟩
set_option maxHeartbeats 4000000 in
theorem b__law_way_changed (Y : Gs K mg) {d__law_draw : FuncData} (c__law_draw : Cal P w K mg base 1 (He.ga K ("_law_draw" : Str)) d__law_draw [("script" : Str), ("k" : Str), ("size" : Str)] (F__law_draw K)) {d__law_name : FuncData} (c__law_name : Cal P w K mg base 2 (He.ga K ("_law_name" : Str)) d__law_name [("script" : Str), ("at" : Str)] (F__law_name K)) {f : Addr} {cdv : Value} {A : Around} {outer : List PySem.Env} {s : Shared} {H : Hp} {E : XK} (hr : Room 2 (A.deeper (envOfC ("_law_way_changed" : Str) (defScope (top 61)) s.heap.objs.size f cdv))) :
    JB (cxOf (L2.CX P w) P w K mg base [("script" : Str), ("k" : Str), ("parts" : Str), ("kind" : Str), ("at" : Str), ("way" : Str), ("far" : Str), ("choice" : Str), ("gate" : Str), ("other" : Str), ("ways" : Str)] ("_law_way_changed" : Str) (defScope (top 61)) f cdv A outer s H E) (WC E) none (defBody (top 61)) (g__law_way_changed K) := by
  have sc := sc__law_way_changed
  have u64 := hr.units
  have u1 : (A.deeper (envOfC ("_law_way_changed" : Str) (defScope (top 61)) s.heap.objs.size f cdv)).units + 1 < cLine := by omega
  have tk := takes_of (X := (cxOf (L2.CX P w) P w K mg base [("script" : Str), ("k" : Str), ("parts" : Str), ("kind" : Str), ("at" : Str), ("way" : Str), ("far" : Str), ("choice" : Str), ("gate" : Str), ("other" : Str), ("ways" : Str)] ("_law_way_changed" : Str) (defScope (top 61)) f cdv A outer s H E)) (E := E) rfl rfl rfl rfl
  have hp := passes_of (X := (cxOf (L2.CX P w) P w K mg base [("script" : Str), ("k" : Str), ("parts" : Str), ("kind" : Str), ("at" : Str), ("way" : Str), ("far" : Str), ("choice" : Str), ("gate" : Str), ("other" : Str), ("ways" : Str)] ("_law_way_changed" : Str) (defScope (top 61)) f cdv A outer s H E)) rfl
  exact (jb_cons (js_set 4 sc.nd rfl (by first | exact Or.inl rfl | exact Or.inr rfl) (je_call c__law_draw tk (hr.mono (by decide)) rfl Y.g__law_draw (ja_cons (je_var 0) (ja_cons (je_var 1) (ja_cons (je_callB b_lenA rfl Y.n_len boot_len (ja_cons (je_ix u1 (je_var 2) je_int) ja_nil)) ja_nil))) (al_cons (al_cons (al_cons al_nil)))))
  (jb_cons (js_set 5 sc.nd rfl (by first | exact Or.inl rfl | exact Or.inr rfl) (je_ix u1 (je_ix u1 (je_var 2) je_int) (je_var 4)))
  (jb_cons (js_set 6 sc.nd rfl (by first | exact Or.inl rfl | exact Or.inr rfl) (je_call c__law_draw tk (hr.mono (by decide)) rfl Y.g__law_draw (ja_cons (je_var 0) (ja_cons (je_bin bd_add (je_var 1) je_int) (ja_cons je_int ja_nil))) (al_cons (al_cons (al_cons al_nil)))))
  (jb_cons (js_set 7 sc.nd rfl (by first | exact Or.inl rfl | exact Or.inr rfl) (je_call c__law_draw tk (hr.mono (by decide)) rfl Y.g__law_draw (ja_cons (je_var 0) (ja_cons (je_bin bd_add (je_var 1) je_int) (ja_cons je_int ja_nil))) (al_cons (al_cons (al_cons al_nil)))))
  (jb_cons (js_set 8 sc.nd rfl (by first | exact Or.inl rfl | exact Or.inr rfl) (je_ix u1 (je_ix u1 (je_var 2) je_int) (je_call c__law_draw tk (hr.mono (by decide)) rfl Y.g__law_draw (ja_cons (je_var 0) (ja_cons (je_bin bd_add (je_var 1) je_int) (ja_cons (je_callB b_lenA rfl Y.n_len boot_len (ja_cons (je_ix u1 (je_var 2) je_int) ja_nil)) ja_nil))) (al_cons (al_cons (al_cons al_nil))))))
  (jb_cons (js_if (jt_cmp (bd_eq u64) (je_var 3) je_int)
  (jb_one (js_set 5 sc.nd rfl (by first | exact Or.inl rfl | exact Or.inr rfl) (je_tup (ja_cons (je_ix u1 (je_var 5) je_int) (ja_cons (je_ix u1 (je_var 5) je_int) (ja_cons (je_ix u1 (je_var 5) je_int) (ja_cons (je_ix u1 (je_pub (jf_lst (ja_cons (je_neg je_int) (ja_cons je_int (ja_cons je_int (ja_cons je_int (ja_cons (je_bin bd_sub (je_neg je_int) (je_var 6)) (ja_cons (je_bin bd_add je_int (je_var 6)) ja_nil)))))))) (je_var 7)) (ja_cons (je_ix u1 (je_var 5) je_int) ja_nil))))))))
  jb_nil)
  (jb_cons (js_if (jt_cmp (bd_eq u64) (je_var 3) je_int)
  (jb_one (js_set 5 sc.nd rfl (by first | exact Or.inl rfl | exact Or.inr rfl) (je_tup (ja_cons (je_ix u1 (je_var 5) je_int) (ja_cons (je_ix u1 (je_var 5) je_int) (ja_cons (je_ix u1 (je_var 5) je_int) (ja_cons (je_ix u1 (je_var 5) je_int) (ja_cons (je_ix u1 (je_pub (jf_lst (ja_cons je_int (ja_cons je_int (ja_cons je_int (ja_cons je_int (ja_cons (je_bin bd_sub (je_neg je_int) (je_var 6)) (ja_cons (je_bin bd_add je_int (je_var 6)) ja_nil)))))))) (je_var 7)) ja_nil))))))))
  jb_nil)
  (jb_cons (js_if (jt_cmp (bd_eq u64) (je_var 3) je_int)
  (jb_cons (js_set 5 sc.nd rfl (by first | exact Or.inl rfl | exact Or.inr rfl) (je_tup (ja_cons (je_ix u1 (je_var 5) je_int) (ja_cons (je_ix u1 (je_pub (jf_lst (ja_cons (je_var 8) (ja_cons (je_var 8) (ja_cons (je_call c__law_name tk (hr.mono (by decide)) rfl Y.g__law_name (ja_cons (je_var 0) (ja_cons je_int ja_nil)) (al_cons (al_cons al_nil))) (ja_cons (je_ix u1 (je_var 5) je_int) (ja_cons (je_var 8) (ja_cons je_str ja_nil)))))))) (je_var 7)) (ja_cons (je_ix u1 (je_var 5) je_int) (ja_cons (je_ix u1 (je_var 5) je_int) (ja_cons (je_ix u1 (je_var 5) je_int) ja_nil)))))))
  (jb_one (js_if (jt_cmp (bd_eq u64) (je_ix u1 (je_var 5) je_int) (je_ix u1 (je_var 5) je_int))
  (jb_one (js_set 5 sc.nd rfl (by first | exact Or.inl rfl | exact Or.inr rfl) (je_tup (ja_cons (je_ix u1 (je_var 5) je_int) (ja_cons (je_ix u1 (je_var 5) je_int) (ja_cons (je_ix u1 (je_ix u1 (je_ix u1 (je_var 2) je_int) je_int) je_int) (ja_cons (je_ix u1 (je_var 5) je_int) (ja_cons (je_ix u1 (je_var 5) je_int) ja_nil))))))))
  jb_nil)))
  jb_nil)
  (jb_cons (js_if (jt_cmp (bd_eq u64) (je_var 3) je_int)
  (jb_cons (js_set 9 sc.nd rfl (by first | exact Or.inl rfl | exact Or.inr rfl) (je_ix u1 (je_ix u1 (je_ix u1 (je_var 2) je_int) (je_call c__law_draw tk (hr.mono (by decide)) rfl Y.g__law_draw (ja_cons (je_var 0) (ja_cons (je_bin bd_add (je_var 1) je_int) (ja_cons (je_callB b_lenA rfl Y.n_len boot_len (ja_cons (je_ix u1 (je_var 2) je_int) ja_nil)) ja_nil))) (al_cons (al_cons (al_cons al_nil))))) je_int))
  (jb_one (js_set 5 sc.nd rfl (by first | exact Or.inl rfl | exact Or.inr rfl) (je_tup (ja_cons (je_ix u1 (je_var 5) je_int) (ja_cons (je_ix u1 (je_var 5) je_int) (ja_cons (je_ix u1 (je_pub (jf_lst (ja_cons (je_ix u1 (je_var 5) je_int) (ja_cons (je_ix u1 (je_var 5) je_int) (ja_cons (je_call c__law_name tk (hr.mono (by decide)) rfl Y.g__law_name (ja_cons (je_var 0) (ja_cons je_int ja_nil)) (al_cons (al_cons al_nil))) (ja_cons (je_ix u1 (je_var 5) je_int) (ja_cons (je_var 9) (ja_cons je_str ja_nil)))))))) (je_var 7)) (ja_cons (je_ix u1 (je_var 5) je_int) (ja_cons (je_ix u1 (je_var 5) je_int) ja_nil)))))))))
  jb_nil)
  (jb_cons (js_set 10 sc.nd rfl (by first | exact Or.inl rfl | exact Or.inr rfl) (je_own (jf_callTy b_list rfl Y.n_list boot_list (ja_cons (je_ix u1 (je_var 2) je_int) ja_nil))))
  (jb_cons (js_put u1 (je_var 10) (je_var 4) (je_var 5))
  (jb_one (js_fz 10 (js_ret (je_tup (ja_cons (je_ix u1 (je_var 2) je_int) (ja_cons (je_ix u1 (je_var 2) je_int) (ja_cons (je_var 10) ja_nil))))))))))))))))))
theorem ok__law_way_changed (Y : Gs K mg) {d__law_draw : FuncData} (c__law_draw : Cal P w K mg base 1 (He.ga K ("_law_draw" : Str)) d__law_draw [("script" : Str), ("k" : Str), ("size" : Str)] (F__law_draw K)) {d__law_name : FuncData} (c__law_name : Cal P w K mg base 2 (He.ga K ("_law_name" : Str)) d__law_name [("script" : Str), ("at" : Str)] (F__law_name K)) {f : Addr} {fd : FuncData} (F : FunD K ("_law_way_changed" : Str) ("_law_way_changed" : Str) (defArgs (top 61)) (defBody (top 61)) (defScope (top 61)) [] [] f fd) : Cal P w K mg base 3 f fd [("script" : Str), ("k" : Str), ("parts" : Str), ("kind" : Str)] (F__law_way_changed K) := by
  have h0 := fn_ok (P := P) (w := w) (mg := mg) (base := base) (ex := exitP) (k := 2) (N := [("script" : Str), ("k" : Str), ("parts" : Str), ("kind" : Str), ("at" : Str), ("way" : Str), ("far" : Str), ("choice" : Str), ("gate" : Str), ("other" : Str), ("ways" : Str)]) (g := g__law_way_changed K) exits_P F sc__law_way_changed (fun cdv A outer s H E hr => b__law_way_changed Y c__law_draw c__law_name hr)
  exact ⟨h0, F.kp, F.bindsN (fun _ _ _ _ _ _ us hl => match us, hl with | [_, _, _, _], _ => rfl)⟩
theorem sc__law_changed : FnScope [("script" : Str), ("k" : Str), ("parts" : Str), ("kind" : Str), ("words" : Str), ("at" : Str), ("other" : Str), ("far" : Str), ("rooms" : Str), ("room" : Str), ("way" : Str)] [("script" : Str), ("k" : Str), ("parts" : Str)] (defScope (top 62)) := ⟨rfl, rfl, rfl, by decide +kernel, rfl, by decide +kernel, by decide +kernel⟩
set_option maxHeartbeats 4000000 in
theorem b__law_changed (Y : Gs K mg) {d__law_draw : FuncData} (c__law_draw : Cal P w K mg base 1 (He.ga K ("_law_draw" : Str)) d__law_draw [("script" : Str), ("k" : Str), ("size" : Str)] (F__law_draw K)) {d__law_lists : FuncData} (c__law_lists : Cal P w K mg base 3 (He.ga K ("_law_lists" : Str)) d__law_lists [("script" : Str), ("many" : Str), ("gates" : Str), ("count" : Str)] (F__law_lists K)) {d__law_odd : FuncData} (c__law_odd : Cal P w K mg base 2 (He.ga K ("_law_odd" : Str)) d__law_odd [("script" : Str), ("k" : Str), ("word" : Str)] (F__law_odd K)) {d__law_renamed : FuncData} (c__law_renamed : Cal P w K mg base 2 (He.ga K ("_law_renamed" : Str)) d__law_renamed [("parts" : Str), ("old" : Str), ("new" : Str)] (F__law_renamed K)) {d__law_way_changed : FuncData} (c__law_way_changed : Cal P w K mg base 3 (He.ga K ("_law_way_changed" : Str)) d__law_way_changed [("script" : Str), ("k" : Str), ("parts" : Str), ("kind" : Str)] (F__law_way_changed K)) {f : Addr} {cdv : Value} {A : Around} {outer : List PySem.Env} {s : Shared} {H : Hp} {E : XK} (hr : Room 3 (A.deeper (envOfC ("_law_changed" : Str) (defScope (top 62)) s.heap.objs.size f cdv))) :
    JB (cxOf (L2.CX P w) P w K mg base [("script" : Str), ("k" : Str), ("parts" : Str), ("kind" : Str), ("words" : Str), ("at" : Str), ("other" : Str), ("far" : Str), ("rooms" : Str), ("room" : Str), ("way" : Str)] ("_law_changed" : Str) (defScope (top 62)) f cdv A outer s H E) (WC E) none (defBody (top 62)) (g__law_changed K) := by
  have sc := sc__law_changed
  have u64 := hr.units
  have u1 : (A.deeper (envOfC ("_law_changed" : Str) (defScope (top 62)) s.heap.objs.size f cdv)).units + 1 < cLine := by omega
  have tk := takes_of (X := (cxOf (L2.CX P w) P w K mg base [("script" : Str), ("k" : Str), ("parts" : Str), ("kind" : Str), ("words" : Str), ("at" : Str), ("other" : Str), ("far" : Str), ("rooms" : Str), ("room" : Str), ("way" : Str)] ("_law_changed" : Str) (defScope (top 62)) f cdv A outer s H E)) (E := E) rfl rfl rfl rfl
  have hp := passes_of (X := (cxOf (L2.CX P w) P w K mg base [("script" : Str), ("k" : Str), ("parts" : Str), ("kind" : Str), ("words" : Str), ("at" : Str), ("other" : Str), ("far" : Str), ("rooms" : Str), ("room" : Str), ("way" : Str)] ("_law_changed" : Str) (defScope (top 62)) f cdv A outer s H E)) rfl
  exact (jb_cons (js_set 3 sc.nd rfl (by first | exact Or.inl rfl | exact Or.inr rfl) (je_call c__law_draw tk (hr.mono (by decide)) rfl Y.g__law_draw (ja_cons (je_var 0) (ja_cons (je_var 1) (ja_cons je_int ja_nil))) (al_cons (al_cons (al_cons al_nil)))))
  (jb_cons (js_set 4 sc.nd rfl (by first | exact Or.inl rfl | exact Or.inr rfl) (je_bin bd_add (je_bin bd_add (je_pub (jf_lc (own := [(("room" : Str), 9)]) rfl sc.nd (ji_any (je_ix u1 (je_var 2) je_int)) (blkOk_by (N := [("script" : Str), ("k" : Str), ("parts" : Str), ("kind" : Str), ("words" : Str), ("at" : Str), ("other" : Str), ("far" : Str), ("rooms" : Str), ("room" : Str), ("way" : Str)]) (sc := defScope (top 62)) (by decide +kernel)) (fun _ _ _ _ _ => (jw_name 9 (by decide) sc.nd rfl (by first | exact Or.inl rfl | exact Or.inr rfl))) (fun _ _ _ _ _ => jts_nil) (fun _ _ _ _ _ => (je_ix u1 (je_var 9) je_int)))) (je_ix u1 (je_var 2) je_int)) (je_pub (jf_lc (own := [(("way" : Str), 10)]) rfl sc.nd (ji_any (je_ix u1 (je_var 2) je_int)) (blkOk_by (N := [("script" : Str), ("k" : Str), ("parts" : Str), ("kind" : Str), ("words" : Str), ("at" : Str), ("other" : Str), ("far" : Str), ("rooms" : Str), ("room" : Str), ("way" : Str)]) (sc := defScope (top 62)) (by decide +kernel)) (fun _ _ _ _ _ => (jw_name 10 (by decide) sc.nd rfl (by first | exact Or.inl rfl | exact Or.inr rfl))) (fun _ _ _ _ _ => jts_nil) (fun _ _ _ _ _ => (je_ix u1 (je_var 10) je_int))))))
  (jb_cons (js_set 5 sc.nd rfl (by first | exact Or.inl rfl | exact Or.inr rfl) (je_call c__law_draw tk (hr.mono (by decide)) rfl Y.g__law_draw (ja_cons (je_var 0) (ja_cons (je_bin bd_add (je_var 1) je_int) (ja_cons (je_callB b_lenA rfl Y.n_len boot_len (ja_cons (je_var 4) ja_nil)) ja_nil))) (al_cons (al_cons (al_cons al_nil)))))
  (jb_cons (js_if (jt_cmp bd_lt (je_var 3) je_int)
  (jb_one (js_ret (je_call c__law_renamed tk (hr.mono (by decide)) rfl Y.g__law_renamed (ja_cons (je_var 2) (ja_cons (je_ix u1 (je_var 4) (je_var 5)) (ja_cons (je_call c__law_odd tk (hr.mono (by decide)) rfl Y.g__law_odd (ja_cons (je_var 0) (ja_cons (je_bin bd_add (je_var 1) je_int) (ja_cons (je_ix u1 (je_var 4) (je_var 5)) ja_nil))) (al_cons (al_cons (al_cons al_nil)))) ja_nil))) (al_cons (al_cons (al_cons al_nil))))))
  jb_nil)
  (jb_cons (js_if (jt_cmp bd_lt (je_var 3) je_int)
  (jb_cons (js_set 6 sc.nd rfl (by first | exact Or.inl rfl | exact Or.inr rfl) (je_bin bd_mod (je_callTy b_int rfl Y.n_int boot_int (ja_cons (je_bin bd_add (je_bin bd_add (je_var 5) je_int) (je_call c__law_draw tk (hr.mono (by decide)) rfl Y.g__law_draw (ja_cons (je_var 0) (ja_cons (je_bin bd_add (je_var 1) je_int) (ja_cons (je_bin bd_sub (je_callB b_lenA rfl Y.n_len boot_len (ja_cons (je_var 4) ja_nil)) je_int) ja_nil))) (al_cons (al_cons (al_cons al_nil))))) ja_nil)) (je_callB b_lenA rfl Y.n_len boot_len (ja_cons (je_var 4) ja_nil))))
  (jb_one (js_ret (je_call c__law_renamed tk (hr.mono (by decide)) rfl Y.g__law_renamed (ja_cons (je_var 2) (ja_cons (je_ix u1 (je_var 4) (je_var 5)) (ja_cons (je_ix u1 (je_var 4) (je_var 6)) ja_nil))) (al_cons (al_cons (al_cons al_nil)))))))
  jb_nil)
  (jb_cons (js_if (jt_cmp (bd_eq u64) (je_var 3) je_int)
  (jb_cons (js_set 7 sc.nd rfl (by first | exact Or.inl rfl | exact Or.inr rfl) (je_call c__law_draw tk (hr.mono (by decide)) rfl Y.g__law_draw (ja_cons (je_var 0) (ja_cons (je_bin bd_add (je_var 1) je_int) (ja_cons je_int ja_nil))) (al_cons (al_cons (al_cons al_nil)))))
  (jb_cons (js_set 5 sc.nd rfl (by first | exact Or.inl rfl | exact Or.inr rfl) (je_call c__law_draw tk (hr.mono (by decide)) rfl Y.g__law_draw (ja_cons (je_var 0) (ja_cons (je_bin bd_add (je_var 1) je_int) (ja_cons (je_callB b_lenA rfl Y.n_len boot_len (ja_cons (je_ix u1 (je_var 2) je_int) ja_nil)) ja_nil))) (al_cons (al_cons (al_cons al_nil)))))
  (jb_cons (js_set 8 sc.nd rfl (by first | exact Or.inl rfl | exact Or.inr rfl) (je_own (jf_callTy b_list rfl Y.n_list boot_list (ja_cons (je_ix u1 (je_var 2) je_int) ja_nil))))
  (jb_cons (js_put u1 (je_var 8) (je_var 5) (je_tup (ja_cons (je_ix u1 (je_ix u1 (je_var 8) (je_var 5)) je_int) (ja_cons (je_ix u1 (je_pub (jf_lst (ja_cons (je_neg je_int) (ja_cons je_int (ja_cons je_int (ja_cons je_int (ja_cons (je_bin bd_sub (je_neg je_int) (je_var 7)) (ja_cons (je_bin bd_add je_int (je_var 7)) ja_nil)))))))) (je_call c__law_draw tk (hr.mono (by decide)) rfl Y.g__law_draw (ja_cons (je_var 0) (ja_cons (je_bin bd_add (je_var 1) je_int) (ja_cons je_int ja_nil))) (al_cons (al_cons (al_cons al_nil))))) ja_nil))))
  (jb_one (js_fz 8 (js_ret (je_tup (ja_cons (je_var 8) (ja_cons (je_ix u1 (je_var 2) je_int) (ja_cons (je_ix u1 (je_var 2) je_int) ja_nil)))))))))))
  jb_nil)
  (jb_cons (js_if (jt_cmp bd_lt (je_var 3) je_int)
  (jb_cons (js_if (jt_cmp (bd_eq u64) (je_callB b_lenA rfl Y.n_len boot_len (ja_cons (je_ix u1 (je_var 2) je_int) ja_nil)) je_int)
  (jb_one (js_ret (je_var 2)))
  jb_nil)
  (jb_one (js_ret (je_call c__law_way_changed tk (hr.mono (by decide)) rfl Y.g__law_way_changed (ja_cons (je_var 0) (ja_cons (je_bin bd_add (je_var 1) je_int) (ja_cons (je_var 2) (ja_cons (je_ix u1 (je_pub (jf_lst (ja_cons je_int (ja_cons je_int (ja_cons je_int (ja_cons je_int (ja_cons je_int (ja_cons je_int ja_nil)))))))) (je_bin bd_sub (je_var 3) je_int)) ja_nil)))) (al_cons (al_cons (al_cons (al_cons al_nil))))))))
  jb_nil)
  (jb_cons (js_if (jt_cmp (bd_eq u64) (je_var 3) je_int)
  (jb_one (js_ret (je_call c__law_lists tk (hr.mono (by decide)) rfl Y.g__law_lists (ja_cons (je_var 0) (ja_cons (je_ix u1 (je_pub (jf_lst (ja_cons je_int (ja_cons je_int (ja_cons je_int (ja_cons je_int ja_nil)))))) (je_call c__law_draw tk (hr.mono (by decide)) rfl Y.g__law_draw (ja_cons (je_var 0) (ja_cons (je_bin bd_add (je_var 1) je_int) (ja_cons je_int ja_nil))) (al_cons (al_cons (al_cons al_nil))))) (ja_cons (je_callB b_lenA rfl Y.n_len boot_len (ja_cons (je_ix u1 (je_var 2) je_int) ja_nil)) (ja_cons (je_callB b_lenA rfl Y.n_len boot_len (ja_cons (je_ix u1 (je_var 2) je_int) ja_nil)) ja_nil)))) (al_cons (al_cons (al_cons (al_cons al_nil)))))))
  jb_nil)
  (jb_cons (js_if (jt_cmp (bd_eq u64) (je_var 3) je_int)
  (jb_one (js_ret (je_call c__law_lists tk (hr.mono (by decide)) rfl Y.g__law_lists (ja_cons (je_var 0) (ja_cons (je_callB b_lenA rfl Y.n_len boot_len (ja_cons (je_ix u1 (je_var 2) je_int) ja_nil)) (ja_cons (je_ix u1 (je_pub (jf_lst (ja_cons je_int (ja_cons je_int (ja_cons je_int (ja_cons je_int ja_nil)))))) (je_call c__law_draw tk (hr.mono (by decide)) rfl Y.g__law_draw (ja_cons (je_var 0) (ja_cons (je_bin bd_add (je_var 1) je_int) (ja_cons je_int ja_nil))) (al_cons (al_cons (al_cons al_nil))))) (ja_cons (je_callB b_lenA rfl Y.n_len boot_len (ja_cons (je_ix u1 (je_var 2) je_int) ja_nil)) ja_nil)))) (al_cons (al_cons (al_cons (al_cons al_nil)))))))
  jb_nil)
  (jb_one (js_ret (je_call c__law_lists tk (hr.mono (by decide)) rfl Y.g__law_lists (ja_cons (je_var 0) (ja_cons (je_callB b_lenA rfl Y.n_len boot_len (ja_cons (je_ix u1 (je_var 2) je_int) ja_nil)) (ja_cons (je_callB b_lenA rfl Y.n_len boot_len (ja_cons (je_ix u1 (je_var 2) je_int) ja_nil)) (ja_cons (je_ix u1 (je_pub (jf_lst (ja_cons je_int (ja_cons je_int (ja_cons je_int (ja_cons je_int ja_nil)))))) (je_call c__law_draw tk (hr.mono (by decide)) rfl Y.g__law_draw (ja_cons (je_var 0) (ja_cons (je_bin bd_add (je_var 1) je_int) (ja_cons je_int ja_nil))) (al_cons (al_cons (al_cons al_nil))))) ja_nil)))) (al_cons (al_cons (al_cons (al_cons al_nil))))))))))))))))
theorem ok__law_changed (Y : Gs K mg) {d__law_draw : FuncData} (c__law_draw : Cal P w K mg base 1 (He.ga K ("_law_draw" : Str)) d__law_draw [("script" : Str), ("k" : Str), ("size" : Str)] (F__law_draw K)) {d__law_lists : FuncData} (c__law_lists : Cal P w K mg base 3 (He.ga K ("_law_lists" : Str)) d__law_lists [("script" : Str), ("many" : Str), ("gates" : Str), ("count" : Str)] (F__law_lists K)) {d__law_odd : FuncData} (c__law_odd : Cal P w K mg base 2 (He.ga K ("_law_odd" : Str)) d__law_odd [("script" : Str), ("k" : Str), ("word" : Str)] (F__law_odd K)) {d__law_renamed : FuncData} (c__law_renamed : Cal P w K mg base 2 (He.ga K ("_law_renamed" : Str)) d__law_renamed [("parts" : Str), ("old" : Str), ("new" : Str)] (F__law_renamed K)) {d__law_way_changed : FuncData} (c__law_way_changed : Cal P w K mg base 3 (He.ga K ("_law_way_changed" : Str)) d__law_way_changed [("script" : Str), ("k" : Str), ("parts" : Str), ("kind" : Str)] (F__law_way_changed K)) {f : Addr} {fd : FuncData} (F : FunD K ("_law_changed" : Str) ("_law_changed" : Str) (defArgs (top 62)) (defBody (top 62)) (defScope (top 62)) [] [] f fd) : Cal P w K mg base 4 f fd [("script" : Str), ("k" : Str), ("parts" : Str)] (F__law_changed K) := by
  have h0 := fn_ok (P := P) (w := w) (mg := mg) (base := base) (ex := exitP) (k := 3) (N := [("script" : Str), ("k" : Str), ("parts" : Str), ("kind" : Str), ("words" : Str), ("at" : Str), ("other" : Str), ("far" : Str), ("rooms" : Str), ("room" : Str), ("way" : Str)]) (g := g__law_changed K) exits_P F sc__law_changed (fun cdv A outer s H E hr => b__law_changed Y c__law_draw c__law_lists c__law_odd c__law_renamed c__law_way_changed hr)
  exact ⟨h0, F.kp, F.bindsN (fun _ _ _ _ _ _ us hl => match us, hl with | [_, _, _], _ => rfl)⟩
theorem sc__law_same : FnScope [("told" : Str), ("due" : Str), ("at" : Str)] [("told" : Str), ("due" : Str)] (defScope (top 65)) := ⟨rfl, rfl, rfl, by decide +kernel, rfl, by decide +kernel, by decide +kernel⟩
set_option maxHeartbeats 4000000 in
theorem b__law_same (Y : Gs K mg) {f : Addr} {cdv : Value} {A : Around} {outer : List PySem.Env} {s : Shared} {H : Hp} {E : XK} (hr : Room 0 (A.deeper (envOfC ("_law_same" : Str) (defScope (top 65)) s.heap.objs.size f cdv))) :
    JB (cxOf (L2.CX P w) P w K mg base [("told" : Str), ("due" : Str), ("at" : Str)] ("_law_same" : Str) (defScope (top 65)) f cdv A outer s H E) (WC E) none (defBody (top 65)) (g__law_same K) := by
  have sc := sc__law_same
  have u64 := hr.units
  have u1 : (A.deeper (envOfC ("_law_same" : Str) (defScope (top 65)) s.heap.objs.size f cdv)).units + 1 < cLine := by omega
  have tk := takes_of (X := (cxOf (L2.CX P w) P w K mg base [("told" : Str), ("due" : Str), ("at" : Str)] ("_law_same" : Str) (defScope (top 65)) f cdv A outer s H E)) (E := E) rfl rfl rfl rfl
  have hp := passes_of (X := (cxOf (L2.CX P w) P w K mg base [("told" : Str), ("due" : Str), ("at" : Str)] ("_law_same" : Str) (defScope (top 65)) f cdv A outer s H E)) rfl
  exact (jb_cons (js_if (jt_w (jw_or (jt_not (jt_val (je_callB b_isi rfl Y.n_isinstance boot_isinstance (ja_cons (je_var 0) (ja_cons (je_ty rfl Y.n_tuple boot_tuple) ja_nil))))) (jw_or1 (jt_cmp (bd_ne u64) (je_callB b_lenA rfl Y.n_len boot_len (ja_cons (je_var 0) ja_nil)) (je_callB b_lenA rfl Y.n_len boot_len (ja_cons (je_var 1) ja_nil))))))
  (jb_one (js_ret je_bl))
  jb_nil)
  (jb_cons (js_for [2] hp rfl (ji_rng1 rfl Y.n_range (ja_cons (je_callB b_lenA rfl Y.n_len boot_len (ja_cons (je_var 1) ja_nil)) ja_nil)) (jg_name 2 sc.nd rfl (by first | exact Or.inl rfl | exact Or.inr rfl))
  (jb_one (js_if (jt_val (je_callB b_isi rfl Y.n_isinstance boot_isinstance (ja_cons (je_ix u1 (je_var 1) (je_var 2)) (ja_cons (je_ty rfl Y.n_str boot_str) ja_nil))))
  (jb_one (js_if (jt_w (jw_or (jt_not (jt_val (je_callB b_isi rfl Y.n_isinstance boot_isinstance (ja_cons (je_ix u1 (je_var 0) (je_var 2)) (ja_cons (je_ty rfl Y.n_str boot_str) ja_nil))))) (jw_or1 (jt_cmp (bd_ne u64) (je_ix u1 (je_var 0) (je_var 2)) (je_ix u1 (je_var 1) (je_var 2))))))
  (jb_one (js_ret je_bl))
  jb_nil))
  (jb_one (js_if (jt_w (jw_or (jt_not (jt_val (je_callB b_isi rfl Y.n_isinstance boot_isinstance (ja_cons (je_ix u1 (je_var 0) (je_var 2)) (ja_cons (je_ty rfl Y.n_int boot_int) ja_nil))))) (jw_or (jt_val (je_callB b_isi rfl Y.n_isinstance boot_isinstance (ja_cons (je_ix u1 (je_var 0) (je_var 2)) (ja_cons (je_ty rfl Y.n_bool boot_bool) ja_nil)))) (jw_or1 (jt_cmp (bd_ne u64) (je_ix u1 (je_var 0) (je_var 2)) (je_ix u1 (je_var 1) (je_var 2)))))))
  (jb_one (js_ret je_bl))
  jb_nil)))))
  (jb_one (js_ret je_bl))))
theorem ok__law_same (Y : Gs K mg) {f : Addr} {fd : FuncData} (F : FunD K ("_law_same" : Str) ("_law_same" : Str) (defArgs (top 65)) (defBody (top 65)) (defScope (top 65)) [] [] f fd) : Cal P w K mg base 1 f fd [("told" : Str), ("due" : Str)] (F__law_same K) := by
  have h0 := fn_ok (P := P) (w := w) (mg := mg) (base := base) (ex := exitP) (k := 0) (N := [("told" : Str), ("due" : Str), ("at" : Str)]) (g := g__law_same K) exits_P F sc__law_same (fun cdv A outer s H E hr => b__law_same Y hr)
  exact ⟨h0, F.kp, F.bindsN (fun _ _ _ _ _ _ us hl => match us, hl with | [_, _], _ => rfl)⟩
theorem sc__law_kept : FnScope [("house" : Str), ("rooms" : Str), ("exits" : Str), ("ways" : Str), ("at" : Str)] [("house" : Str), ("rooms" : Str), ("exits" : Str), ("ways" : Str)] (defScope (top 66)) := ⟨rfl, rfl, rfl, by decide +kernel, rfl, by decide +kernel, by decide +kernel⟩
set_option maxHeartbeats 4000000 in
theorem b__law_kept (Y : Gs K mg) {d__law_same : FuncData} (c__law_same : Cal P w K mg base 1 (He.ga K ("_law_same" : Str)) d__law_same [("told" : Str), ("due" : Str)] (F__law_same K)) {f : Addr} {cdv : Value} {A : Around} {outer : List PySem.Env} {s : Shared} {H : Hp} {E : XK} (hr : Room 1 (A.deeper (envOfC ("_law_kept" : Str) (defScope (top 66)) s.heap.objs.size f cdv))) :
    JB (cxOf (L2.CX P w) P w K mg base [("house" : Str), ("rooms" : Str), ("exits" : Str), ("ways" : Str), ("at" : Str)] ("_law_kept" : Str) (defScope (top 66)) f cdv A outer s H E) (WC E) none (defBody (top 66)) (g__law_kept K) := by
  have sc := sc__law_kept
  have u64 := hr.units
  have u1 : (A.deeper (envOfC ("_law_kept" : Str) (defScope (top 66)) s.heap.objs.size f cdv)).units + 1 < cLine := by omega
  have tk := takes_of (X := (cxOf (L2.CX P w) P w K mg base [("house" : Str), ("rooms" : Str), ("exits" : Str), ("ways" : Str), ("at" : Str)] ("_law_kept" : Str) (defScope (top 66)) f cdv A outer s H E)) (E := E) rfl rfl rfl rfl
  have hp := passes_of (X := (cxOf (L2.CX P w) P w K mg base [("house" : Str), ("rooms" : Str), ("exits" : Str), ("ways" : Str), ("at" : Str)] ("_law_kept" : Str) (defScope (top 66)) f cdv A outer s H E)) rfl
  exact (jb_cons (js_if (jt_w (jw_or (jt_not (jt_val (je_callB b_isi rfl Y.n_isinstance boot_isinstance (ja_cons (je_var 0) (ja_cons (je_glob rfl Y.g_House rfl) ja_nil))))) (jw_or (jt_not (jt_val (je_callB b_isi rfl Y.n_isinstance boot_isinstance (ja_cons (je_fld (je_var 0)) (ja_cons (je_ty rfl Y.n_tuple boot_tuple) ja_nil))))) (jw_or1 (jt_not (jt_val (je_callB b_isi rfl Y.n_isinstance boot_isinstance (ja_cons (je_fld (je_var 0)) (ja_cons (je_ty rfl Y.n_tuple boot_tuple) ja_nil)))))))))
  (jb_one (js_ret je_bl))
  jb_nil)
  (jb_cons (js_if (jt_w (jw_or (jt_cmp (bd_ne u64) (je_callB b_lenA rfl Y.n_len boot_len (ja_cons (je_fld (je_var 0)) ja_nil)) (je_callB b_lenA rfl Y.n_len boot_len (ja_cons (je_var 1) ja_nil))) (jw_or (jt_cmp (bd_ne u64) (je_callB b_lenA rfl Y.n_len boot_len (ja_cons (je_fld (je_var 0)) ja_nil)) (je_callB b_lenA rfl Y.n_len boot_len (ja_cons (je_var 3) ja_nil))) (jw_or1 (jt_not (jt_val (je_call c__law_same tk (hr.mono (by decide)) rfl Y.g__law_same (ja_cons (je_fld (je_var 0)) (ja_cons (je_var 2) ja_nil)) (al_cons (al_cons al_nil)))))))))
  (jb_one (js_ret je_bl))
  jb_nil)
  (jb_cons (js_for [4] hp rfl (ji_rng1 rfl Y.n_range (ja_cons (je_callB b_lenA rfl Y.n_len boot_len (ja_cons (je_var 1) ja_nil)) ja_nil)) (jg_name 4 sc.nd rfl (by first | exact Or.inl rfl | exact Or.inr rfl))
  (jb_one (js_if (jt_not (jt_val (je_call c__law_same tk (hr.mono (by decide)) rfl Y.g__law_same (ja_cons (je_ix u1 (je_fld (je_var 0)) (je_var 4)) (ja_cons (je_ix u1 (je_var 1) (je_var 4)) ja_nil)) (al_cons (al_cons al_nil)))))
  (jb_one (js_ret je_bl))
  jb_nil)))
  (jb_cons (js_for [4] hp rfl (ji_rng1 rfl Y.n_range (ja_cons (je_callB b_lenA rfl Y.n_len boot_len (ja_cons (je_var 3) ja_nil)) ja_nil)) (jg_name 4 sc.nd rfl (by first | exact Or.inl rfl | exact Or.inr rfl))
  (jb_one (js_if (jt_not (jt_val (je_call c__law_same tk (hr.mono (by decide)) rfl Y.g__law_same (ja_cons (je_ix u1 (je_fld (je_var 0)) (je_var 4)) (ja_cons (je_ix u1 (je_var 3) (je_var 4)) ja_nil)) (al_cons (al_cons al_nil)))))
  (jb_one (js_ret je_bl))
  jb_nil)))
  (jb_one (js_ret je_bl))))))
theorem ok__law_kept (Y : Gs K mg) {d__law_same : FuncData} (c__law_same : Cal P w K mg base 1 (He.ga K ("_law_same" : Str)) d__law_same [("told" : Str), ("due" : Str)] (F__law_same K)) {f : Addr} {fd : FuncData} (F : FunD K ("_law_kept" : Str) ("_law_kept" : Str) (defArgs (top 66)) (defBody (top 66)) (defScope (top 66)) [] [] f fd) : Cal P w K mg base 2 f fd [("house" : Str), ("rooms" : Str), ("exits" : Str), ("ways" : Str)] (F__law_kept K) := by
  have h0 := fn_ok (P := P) (w := w) (mg := mg) (base := base) (ex := exitP) (k := 1) (N := [("house" : Str), ("rooms" : Str), ("exits" : Str), ("ways" : Str), ("at" : Str)]) (g := g__law_kept K) exits_P F sc__law_kept (fun cdv A outer s H E hr => b__law_kept Y c__law_same hr)
  exact ⟨h0, F.kp, F.bindsN (fun _ _ _ _ _ _ us hl => match us, hl with | [_, _, _, _], _ => rfl)⟩
theorem sc__law_is_word : FnScope [("word" : Str), ("sign" : Str)] [("word" : Str)] (defScope (top 63)) := ⟨rfl, rfl, rfl, by decide +kernel, rfl, by decide +kernel, by decide +kernel⟩
set_option maxHeartbeats 4000000 in
theorem b__law_is_word (Y : Gs K mg) {f : Addr} {cdv : Value} {A : Around} {outer : List PySem.Env} {s : Shared} {H : Hp} {E : XK} (hr : Room 0 (A.deeper (envOfC ("_law_is_word" : Str) (defScope (top 63)) s.heap.objs.size f cdv))) :
    JB (cxOf (L2.CX P w) P w K mg base [("word" : Str), ("sign" : Str)] ("_law_is_word" : Str) (defScope (top 63)) f cdv A outer s H E) (WC E) none (defBody (top 63)) (g__law_is_word K) := by
  have sc := sc__law_is_word
  have u64 := hr.units
  have u1 : (A.deeper (envOfC ("_law_is_word" : Str) (defScope (top 63)) s.heap.objs.size f cdv)).units + 1 < cLine := by omega
  have tk := takes_of (X := (cxOf (L2.CX P w) P w K mg base [("word" : Str), ("sign" : Str)] ("_law_is_word" : Str) (defScope (top 63)) f cdv A outer s H E)) (E := E) rfl rfl rfl rfl
  have hp := passes_of (X := (cxOf (L2.CX P w) P w K mg base [("word" : Str), ("sign" : Str)] ("_law_is_word" : Str) (defScope (top 63)) f cdv A outer s H E)) rfl
  exact (jb_cons (js_if (jt_w (jw_or (jt_cmp bd_lt (je_callB b_lenA rfl Y.n_len boot_len (ja_cons (je_var 0) ja_nil)) je_int) (jw_or (jt_cmp bd_gt (je_callB b_lenA rfl Y.n_len boot_len (ja_cons (je_var 0) ja_nil)) je_int) (jw_or1 (jt_cmp (bd_notin u1) (je_ix u1 (je_var 0) je_int) je_str)))))
  (jb_one (js_ret je_bl))
  jb_nil)
  (jb_cons (js_for [1] hp rfl (ji_any (je_var 0)) (jg_name 1 sc.nd rfl (by first | exact Or.inl rfl | exact Or.inr rfl))
  (jb_one (js_if (jt_cmp (bd_notin u1) (je_var 1) je_str)
  (jb_one (js_ret je_bl))
  jb_nil)))
  (jb_one (js_ret je_bl))))
theorem ok__law_is_word (Y : Gs K mg) {f : Addr} {fd : FuncData} (F : FunD K ("_law_is_word" : Str) ("_law_is_word" : Str) (defArgs (top 63)) (defBody (top 63)) (defScope (top 63)) [] [] f fd) : Cal P w K mg base 1 f fd [("word" : Str)] (F__law_is_word K) := by
  have h0 := fn_ok (P := P) (w := w) (mg := mg) (base := base) (ex := exitP) (k := 0) (N := [("word" : Str), ("sign" : Str)]) (g := g__law_is_word K) exits_P F sc__law_is_word (fun cdv A outer s H E hr => b__law_is_word Y hr)
  exact ⟨h0, F.kp, F.bindsN (fun _ _ _ _ _ _ us hl => match us, hl with | [_], _ => rfl)⟩
theorem sc__law_is_house : FnScope [("rooms" : Str), ("exits" : Str), ("ways" : Str), ("words" : Str), ("at" : Str), ("starts" : Str), ("room" : Str), ("way" : Str)] [("rooms" : Str), ("exits" : Str), ("ways" : Str)] (defScope (top 64)) := ⟨rfl, rfl, rfl, by decide +kernel, rfl, by decide +kernel, by decide +kernel⟩
set_option maxHeartbeats 4000000 in
theorem b__law_is_house (Y : Gs K mg) {d__law_is_word : FuncData} (c__law_is_word : Cal P w K mg base 1 (He.ga K ("_law_is_word" : Str)) d__law_is_word [("word" : Str)] (F__law_is_word K)) {f : Addr} {cdv : Value} {A : Around} {outer : List PySem.Env} {s : Shared} {H : Hp} {E : XK} (hr : Room 1 (A.deeper (envOfC ("_law_is_house" : Str) (defScope (top 64)) s.heap.objs.size f cdv))) :
    JB (cxOf (L2.CX P w) P w K mg base [("rooms" : Str), ("exits" : Str), ("ways" : Str), ("words" : Str), ("at" : Str), ("starts" : Str), ("room" : Str), ("way" : Str)] ("_law_is_house" : Str) (defScope (top 64)) f cdv A outer s H E) (WC E) none (defBody (top 64)) (g__law_is_house K) := by
  have sc := sc__law_is_house
  have u64 := hr.units
  have u1 : (A.deeper (envOfC ("_law_is_house" : Str) (defScope (top 64)) s.heap.objs.size f cdv)).units + 1 < cLine := by omega
  have tk := takes_of (X := (cxOf (L2.CX P w) P w K mg base [("rooms" : Str), ("exits" : Str), ("ways" : Str), ("words" : Str), ("at" : Str), ("starts" : Str), ("room" : Str), ("way" : Str)] ("_law_is_house" : Str) (defScope (top 64)) f cdv A outer s H E)) (E := E) rfl rfl rfl rfl
  have hp := passes_of (X := (cxOf (L2.CX P w) P w K mg base [("rooms" : Str), ("exits" : Str), ("ways" : Str), ("words" : Str), ("at" : Str), ("starts" : Str), ("room" : Str), ("way" : Str)] ("_law_is_house" : Str) (defScope (top 64)) f cdv A outer s H E)) rfl
  exact (jb_cons (js_if (jt_w (jw_or (jt_cmp bd_lt (je_callB b_lenA rfl Y.n_len boot_len (ja_cons (je_var 0) ja_nil)) je_int) (jw_or (jt_cmp bd_gt (je_callB b_lenA rfl Y.n_len boot_len (ja_cons (je_var 0) ja_nil)) je_int) (jw_or (jt_cmp bd_lt (je_callB b_lenA rfl Y.n_len boot_len (ja_cons (je_var 1) ja_nil)) je_int) (jw_or (jt_cmp bd_gt (je_callB b_lenA rfl Y.n_len boot_len (ja_cons (je_var 1) ja_nil)) je_int) (jw_or1 (jt_cmp bd_gt (je_callB b_lenA rfl Y.n_len boot_len (ja_cons (je_var 2) ja_nil)) je_int)))))))
  (jb_one (js_ret je_bl))
  jb_nil)
  (jb_cons (js_set 3 sc.nd rfl (by first | exact Or.inl rfl | exact Or.inr rfl) (je_bin bd_add (je_bin bd_add (je_pub (jf_lc (own := [(("room" : Str), 6)]) rfl sc.nd (ji_any (je_var 0)) (blkOk_by (N := [("rooms" : Str), ("exits" : Str), ("ways" : Str), ("words" : Str), ("at" : Str), ("starts" : Str), ("room" : Str), ("way" : Str)]) (sc := defScope (top 64)) (by decide +kernel)) (fun _ _ _ _ _ => (jw_name 6 (by decide) sc.nd rfl (by first | exact Or.inl rfl | exact Or.inr rfl))) (fun _ _ _ _ _ => jts_nil) (fun _ _ _ _ _ => (je_ix u1 (je_var 6) je_int)))) (je_var 1)) (je_pub (jf_lc (own := [(("way" : Str), 7)]) rfl sc.nd (ji_any (je_var 2)) (blkOk_by (N := [("rooms" : Str), ("exits" : Str), ("ways" : Str), ("words" : Str), ("at" : Str), ("starts" : Str), ("room" : Str), ("way" : Str)]) (sc := defScope (top 64)) (by decide +kernel)) (fun _ _ _ _ _ => (jw_name 7 (by decide) sc.nd rfl (by first | exact Or.inl rfl | exact Or.inr rfl))) (fun _ _ _ _ _ => jts_nil) (fun _ _ _ _ _ => (je_ix u1 (je_var 7) je_int))))))
  (jb_cons (js_for [4] hp rfl (ji_rng1 rfl Y.n_range (ja_cons (je_callB b_lenA rfl Y.n_len boot_len (ja_cons (je_var 3) ja_nil)) ja_nil)) (jg_name 4 sc.nd rfl (by first | exact Or.inl rfl | exact Or.inr rfl))
  (jb_one (js_if (jt_w (jw_or (jt_not (jt_val (je_call c__law_is_word tk (hr.mono (by decide)) rfl Y.g__law_is_word (ja_cons (je_ix u1 (je_var 3) (je_var 4)) ja_nil) (al_cons al_nil)))) (jw_or1 (jt_cmp (bd_in u1) (je_ix u1 (je_var 3) (je_var 4)) (je_slice (je_var 3) jo_none (jo_some (je_var 4)))))))
  (jb_one (js_ret je_bl))
  jb_nil)))
  (jb_cons (js_setLcP (own := [(("room" : Str), 6)]) 5 rfl sc.nd rfl rfl (sw_true rfl rfl rfl rfl) (ji_any (je_var 0)) (blkOk_by (N := [("rooms" : Str), ("exits" : Str), ("ways" : Str), ("words" : Str), ("at" : Str), ("starts" : Str), ("room" : Str), ("way" : Str)]) (sc := defScope (top 64)) (by decide +kernel)) (fun _ _ _ _ _ => (jw_name 6 (by decide) sc.nd rfl (by first | exact Or.inl rfl | exact Or.inr rfl))) (fun _ _ _ _ _ => jts_nil) (fun _ _ _ _ _ => (je_ix u1 (je_var 6) je_int)))
  (jb_cons (js_for [6] hp rfl (ji_any (je_var 0)) (jg_name 6 sc.nd rfl (by first | exact Or.inl rfl | exact Or.inr rfl))
  (jb_one (js_if (jt_w (jw_or (jt_cmp bd_lt (je_ix u1 (je_var 6) je_int) je_int) (jw_or1 (jt_cmp bd_gt (je_ix u1 (je_var 6) je_int) je_int))))
  (jb_one (js_ret je_bl))
  jb_nil)))
  (jb_cons (js_for [7] hp rfl (ji_any (je_var 2)) (jg_name 7 sc.nd rfl (by first | exact Or.inl rfl | exact Or.inr rfl))
  (jb_cons (js_if (jt_w (jw_or (jt_cmp (bd_notin u1) (je_ix u1 (je_var 7) je_int) (je_var 5)) (jw_or (jt_cmp (bd_notin u1) (je_ix u1 (je_var 7) je_int) (je_bin bd_add (je_var 5) (je_var 1))) (jw_or1 (jt_cmp (bd_eq u64) (je_ix u1 (je_var 7) je_int) (je_ix u1 (je_var 7) je_int))))))
  (jb_one (js_ret je_bl))
  jb_nil)
  (jb_one (js_if (jt_w (jw_or (jt_cmp bd_lt (je_ix u1 (je_var 7) je_int) je_int) (jw_or (jt_cmp bd_gt (je_ix u1 (je_var 7) je_int) je_int) (jw_or (jt_cmp bd_lt (je_ix u1 (je_var 7) je_int) je_int) (jw_or1 (jt_cmp bd_gt (je_ix u1 (je_var 7) je_int) je_int))))))
  (jb_one (js_ret je_bl))
  jb_nil))))
  (jb_one (js_ret je_bl))))))))
theorem ok__law_is_house (Y : Gs K mg) {d__law_is_word : FuncData} (c__law_is_word : Cal P w K mg base 1 (He.ga K ("_law_is_word" : Str)) d__law_is_word [("word" : Str)] (F__law_is_word K)) {f : Addr} {fd : FuncData} (F : FunD K ("_law_is_house" : Str) ("_law_is_house" : Str) (defArgs (top 64)) (defBody (top 64)) (defScope (top 64)) [] [] f fd) : Cal P w K mg base 2 f fd [("rooms" : Str), ("exits" : Str), ("ways" : Str)] (F__law_is_house K) := by
  have h0 := fn_ok (P := P) (w := w) (mg := mg) (base := base) (ex := exitP) (k := 1) (N := [("rooms" : Str), ("exits" : Str), ("ways" : Str), ("words" : Str), ("at" : Str), ("starts" : Str), ("room" : Str), ("way" : Str)]) (g := g__law_is_house K) exits_P F sc__law_is_house (fun cdv A outer s H E hr => b__law_is_house Y c__law_is_word hr)
  exact ⟨h0, F.kp, F.bindsN (fun _ _ _ _ _ _ us hl => match us, hl with | [_, _, _], _ => rfl)⟩
theorem sc__law_made : FnScope [("rooms" : Str), ("exits" : Str), ("ways" : Str), ("due" : Str), ("first" : Str), ("second" : Str), ("third" : Str), ("house" : Str), ("e" : Str), ("other" : Str)] [("rooms" : Str), ("exits" : Str), ("ways" : Str)] (defScope (top 67)) := ⟨rfl, rfl, rfl, by decide +kernel, rfl, by decide +kernel, by decide +kernel⟩
set_option maxHeartbeats 4000000 in
theorem b__law_made (Y : Gs K mg) {d_House___init__ : FuncData} (c_House___init__ : Cal P w K mg base 3 (He.ma K (He.ga K ("House" : Str)) ("__init__" : Str)) d_House___init__ [("self" : Str), ("rooms" : Str), ("exits" : Str), ("ways" : Str)] (F_House___init__ K)) {d__law_is_house : FuncData} (c__law_is_house : Cal P w K mg base 2 (He.ga K ("_law_is_house" : Str)) d__law_is_house [("rooms" : Str), ("exits" : Str), ("ways" : Str)] (F__law_is_house K)) {d__law_kept : FuncData} (c__law_kept : Cal P w K mg base 2 (He.ga K ("_law_kept" : Str)) d__law_kept [("house" : Str), ("rooms" : Str), ("exits" : Str), ("ways" : Str)] (F__law_kept K)) {f : Addr} {cdv : Value} {A : Around} {outer : List PySem.Env} {s : Shared} {H : Hp} {E : XK} (hr : Room 4 (A.deeper (envOfC ("_law_made" : Str) (defScope (top 67)) s.heap.objs.size f cdv))) :
    JB (cxOf (L2.CX P w) P w K mg base [("rooms" : Str), ("exits" : Str), ("ways" : Str), ("due" : Str), ("first" : Str), ("second" : Str), ("third" : Str), ("house" : Str), ("e" : Str), ("other" : Str)] ("_law_made" : Str) (defScope (top 67)) f cdv A outer s H E) (WC E) none (defBody (top 67)) (g__law_made K) := by
  have sc := sc__law_made
  have u64 := hr.units
  have u1 : (A.deeper (envOfC ("_law_made" : Str) (defScope (top 67)) s.heap.objs.size f cdv)).units + 1 < cLine := by omega
  have tk := takes_of (X := (cxOf (L2.CX P w) P w K mg base [("rooms" : Str), ("exits" : Str), ("ways" : Str), ("due" : Str), ("first" : Str), ("second" : Str), ("third" : Str), ("house" : Str), ("e" : Str), ("other" : Str)] ("_law_made" : Str) (defScope (top 67)) f cdv A outer s H E)) (E := E) rfl rfl rfl rfl
  have hp := passes_of (X := (cxOf (L2.CX P w) P w K mg base [("rooms" : Str), ("exits" : Str), ("ways" : Str), ("due" : Str), ("first" : Str), ("second" : Str), ("third" : Str), ("house" : Str), ("e" : Str), ("other" : Str)] ("_law_made" : Str) (defScope (top 67)) f cdv A outer s H E)) rfl
  exact (jb_cons (js_set 3 sc.nd rfl (by first | exact Or.inl rfl | exact Or.inr rfl) (je_call c__law_is_house tk (hr.mono (by decide)) rfl Y.g__law_is_house (ja_cons (je_var 0) (ja_cons (je_var 1) (ja_cons (je_var 2) ja_nil))) (al_cons (al_cons (al_cons al_nil)))))
  (jb_cons (js_set 4 sc.nd rfl (by first | exact Or.inl rfl | exact Or.inr rfl) (je_own (jf_callTy b_list rfl Y.n_list boot_list (ja_cons (je_var 0) ja_nil))))
  (jb_cons (js_set 5 sc.nd rfl (by first | exact Or.inl rfl | exact Or.inr rfl) (je_own (jf_callTy b_list rfl Y.n_list boot_list (ja_cons (je_var 1) ja_nil))))
  (jb_cons (js_set 6 sc.nd rfl (by first | exact Or.inl rfl | exact Or.inr rfl) (je_own (jf_callTy b_list rfl Y.n_list boot_list (ja_cons (je_var 2) ja_nil))))
  (jb_cons (js_try rfl rfl sc.nd rfl rfl ⟨rfl, by decide, .inl Y.g_BadHouse⟩ tk
  (fun W' pn xe tk' hp' => (jb_one (js_set 7 sc.nd rfl (by first | exact Or.inl rfl | exact Or.inr rfl) (je_pub (jf_make Y.mk_House c_House___init__ tk' (hr.mono (by decide)) rfl Y.g_House (ja_cons (je_var 4) (ja_cons (je_var 5) (ja_cons (je_var 6) ja_nil))) (al_cons (al_cons (al_cons al_nil))))))))
  (fun a oe cls d pn hz hf => (jb_cons (js_set 9 sc.nd rfl (by first | exact Or.inl rfl | exact Or.inr rfl) (je_isX hz hf rfl Y.n_isinstance rfl (Or.inl rfl) (je_tup (ja_cons (je_glob rfl Y.g_AlarmOver rfl) (ja_cons (je_glob rfl Y.g_BadBook rfl) (ja_cons (je_glob rfl Y.g_BadBounds rfl) (ja_cons (je_glob rfl Y.g_BadClosing rfl) (ja_cons (je_glob rfl Y.g_BadCourse rfl) (ja_cons (je_glob rfl Y.g_BadCover rfl) (ja_cons (je_glob rfl Y.g_BadCrowd rfl) (ja_cons (je_glob rfl Y.g_BadCut rfl) (ja_cons (je_glob rfl Y.g_BadDeed rfl) (ja_cons (je_glob rfl Y.g_BadFire rfl) (ja_cons (je_glob rfl Y.g_BadFloor rfl) (ja_cons (je_glob rfl Y.g_BadHour rfl) (ja_cons (je_glob rfl Y.g_BadLimit rfl) (ja_cons (je_glob rfl Y.g_BadLinks rfl) (ja_cons (je_glob rfl Y.g_BadMinutes rfl) (ja_cons (je_glob rfl Y.g_BadMovement rfl) (ja_cons (je_glob rfl Y.g_BadNeeds rfl) (ja_cons (je_glob rfl Y.g_BadNet rfl) (ja_cons (je_glob rfl Y.g_BadOffers rfl) (ja_cons (je_glob rfl Y.g_BadReport rfl) (ja_cons (je_glob rfl Y.g_BadSigns rfl) (ja_cons (je_glob rfl Y.g_BadTable rfl) (ja_cons (je_glob rfl Y.g_BadTeams rfl) (ja_cons (je_glob rfl Y.g_BadText rfl) (ja_cons (je_glob rfl Y.g_BadTroubles rfl) (ja_cons (je_glob rfl Y.g_BadWalk rfl) (ja_cons (je_glob rfl Y.g_NoFlow rfl) (ja_cons (je_glob rfl Y.g_NoHistory rfl) (ja_cons (je_glob rfl Y.g_NothingToRedo rfl) (ja_cons (je_glob rfl Y.g_NothingToUndo rfl) (ja_cons (je_glob rfl Y.g_ReportClash rfl) (ja_cons (je_glob rfl Y.g_TooLarge rfl) (ja_cons (je_glob rfl Y.g_UnknownName rfl) (ja_cons (je_glob rfl Y.g_UnknownReport rfl) ja_nil)))))))))))))))))))))))))))))))))))))
  (jb_one (js_ret (je_and (je_not (je_var 3)) (je_and (je_not (je_var 9)) (je_and (je_isX hz hf rfl Y.n_isinstance rfl (Or.inl rfl) (je_glob rfl Y.g_EverybodyError rfl)) (je_one (je_isX hz hf rfl Y.n_isinstance rfl (Or.inl rfl) (je_ty rfl Y.n_ValueError boot_ValueError)))))))))))
  (jb_cons (js_if (jt_w (jw_or (jt_not (jt_tru (je_var 3))) (jw_or (jt_cmp (bd_ne u64) (je_var 4) (je_var 0)) (jw_or (jt_cmp (bd_ne u64) (je_var 5) (je_var 1)) (jw_or1 (jt_cmp (bd_ne u64) (je_var 6) (je_var 2)))))))
  (jb_one (js_ret je_bl))
  jb_nil)
  (jb_cons (js_put u1 (je_var 4) je_int (je_tup (ja_cons je_str (ja_cons je_int ja_nil))))
  (jb_cons (js_expr (je_mth PySem.F.plainAttrs_list PySem.F.slot_list_append PySem.F.type_list_append m_append (je_var 4) (ja_cons (je_tup (ja_cons je_str (ja_cons je_int ja_nil))) ja_nil)))
  (jb_cons (js_put u1 (je_var 5) je_int je_str)
  (jb_cons (js_expr (je_mth PySem.F.plainAttrs_list PySem.F.slot_list_append PySem.F.type_list_append m_append (je_var 5) (ja_cons je_str ja_nil)))
  (jb_cons (js_expr (je_mth PySem.F.plainAttrs_list PySem.F.slot_list_append PySem.F.type_list_append m_append (je_var 6) (ja_cons (je_tup (ja_cons je_str (ja_cons je_str (ja_cons je_str (ja_cons je_int (ja_cons je_int ja_nil)))))) ja_nil)))
  (jb_cons (js_expr (je_mth0 PySem.F.plainAttrs_list PySem.F.slot_list_reverse PySem.F.type_list_reverse m_reverse (je_var 6)))
  (jb_one (js_ret (je_call c__law_kept tk (hr.mono (by decide)) rfl Y.g__law_kept (ja_cons (je_var 7) (ja_cons (je_var 0) (ja_cons (je_var 1) (ja_cons (je_var 2) ja_nil)))) (al_cons (al_cons (al_cons (al_cons al_nil)))))))))))))))))))
theorem ok__law_made (Y : Gs K mg) {d_House___init__ : FuncData} (c_House___init__ : Cal P w K mg base 3 (He.ma K (He.ga K ("House" : Str)) ("__init__" : Str)) d_House___init__ [("self" : Str), ("rooms" : Str), ("exits" : Str), ("ways" : Str)] (F_House___init__ K)) {d__law_is_house : FuncData} (c__law_is_house : Cal P w K mg base 2 (He.ga K ("_law_is_house" : Str)) d__law_is_house [("rooms" : Str), ("exits" : Str), ("ways" : Str)] (F__law_is_house K)) {d__law_kept : FuncData} (c__law_kept : Cal P w K mg base 2 (He.ga K ("_law_kept" : Str)) d__law_kept [("house" : Str), ("rooms" : Str), ("exits" : Str), ("ways" : Str)] (F__law_kept K)) {f : Addr} {fd : FuncData} (F : FunD K ("_law_made" : Str) ("_law_made" : Str) (defArgs (top 67)) (defBody (top 67)) (defScope (top 67)) [] [] f fd) : Cal P w K mg base 5 f fd [("rooms" : Str), ("exits" : Str), ("ways" : Str)] (F__law_made K) := by
  have h0 := fn_ok (P := P) (w := w) (mg := mg) (base := base) (ex := exitP) (k := 4) (N := [("rooms" : Str), ("exits" : Str), ("ways" : Str), ("due" : Str), ("first" : Str), ("second" : Str), ("third" : Str), ("house" : Str), ("e" : Str), ("other" : Str)]) (g := g__law_made K) exits_P F sc__law_made (fun cdv A outer s H E hr => b__law_made Y c_House___init__ c__law_is_house c__law_kept hr)
  exact ⟨h0, F.kp, F.bindsN (fun _ _ _ _ _ _ us hl => match us, hl with | [_, _, _], _ => rfl)⟩
theorem sc_law : FnScope [("script" : Str), ("many" : Str), ("gates" : Str), ("parts" : Str), ("house" : Str), ("turn" : Str), ("changed" : Str)] [("script" : Str)] (defScope (top 68)) := ⟨rfl, rfl, rfl, by decide +kernel, rfl, by decide +kernel, by decide +kernel⟩
set_option maxHeartbeats 4000000 in
theorem b_law (Y : Gs K mg) {d_House___init__ : FuncData} (c_House___init__ : Cal P w K mg base 3 (He.ma K (He.ga K ("House" : Str)) ("__init__" : Str)) d_House___init__ [("self" : Str), ("rooms" : Str), ("exits" : Str), ("ways" : Str)] (F_House___init__ K)) {d__law_changed : FuncData} (c__law_changed : Cal P w K mg base 4 (He.ga K ("_law_changed" : Str)) d__law_changed [("script" : Str), ("k" : Str), ("parts" : Str)] (F__law_changed K)) {d__law_draw : FuncData} (c__law_draw : Cal P w K mg base 1 (He.ga K ("_law_draw" : Str)) d__law_draw [("script" : Str), ("k" : Str), ("size" : Str)] (F__law_draw K)) {d__law_kept : FuncData} (c__law_kept : Cal P w K mg base 2 (He.ga K ("_law_kept" : Str)) d__law_kept [("house" : Str), ("rooms" : Str), ("exits" : Str), ("ways" : Str)] (F__law_kept K)) {d__law_lists : FuncData} (c__law_lists : Cal P w K mg base 3 (He.ga K ("_law_lists" : Str)) d__law_lists [("script" : Str), ("many" : Str), ("gates" : Str), ("count" : Str)] (F__law_lists K)) {d__law_made : FuncData} (c__law_made : Cal P w K mg base 5 (He.ga K ("_law_made" : Str)) d__law_made [("rooms" : Str), ("exits" : Str), ("ways" : Str)] (F__law_made K)) {f : Addr} {cdv : Value} {A : Around} {outer : List PySem.Env} {s : Shared} {H : Hp} {E : XK} (hr : Room 5 (A.deeper (envOfC ("law" : Str) (defScope (top 68)) s.heap.objs.size f cdv))) :
    JB (cxOf (L2.CX P w) P w K mg base [("script" : Str), ("many" : Str), ("gates" : Str), ("parts" : Str), ("house" : Str), ("turn" : Str), ("changed" : Str)] ("law" : Str) (defScope (top 68)) f cdv A outer s H E) (WC E) none (defBody (top 68)) (g_law K) := by
  have sc := sc_law
  have u64 := hr.units
  have u1 : (A.deeper (envOfC ("law" : Str) (defScope (top 68)) s.heap.objs.size f cdv)).units + 1 < cLine := by omega
  have tk := takes_of (X := (cxOf (L2.CX P w) P w K mg base [("script" : Str), ("many" : Str), ("gates" : Str), ("parts" : Str), ("house" : Str), ("turn" : Str), ("changed" : Str)] ("law" : Str) (defScope (top 68)) f cdv A outer s H E)) (E := E) rfl rfl rfl rfl
  have hp := passes_of (X := (cxOf (L2.CX P w) P w K mg base [("script" : Str), ("many" : Str), ("gates" : Str), ("parts" : Str), ("house" : Str), ("turn" : Str), ("changed" : Str)] ("law" : Str) (defScope (top 68)) f cdv A outer s H E)) rfl
  exact (jb_cons (js_set 1 sc.nd rfl (by first | exact Or.inl rfl | exact Or.inr rfl) (je_bin bd_add je_int (je_call c__law_draw tk (hr.mono (by decide)) rfl Y.g__law_draw (ja_cons (je_var 0) (ja_cons je_int (ja_cons je_int ja_nil))) (al_cons (al_cons (al_cons al_nil))))))
  (jb_cons (js_set 2 sc.nd rfl (by first | exact Or.inl rfl | exact Or.inr rfl) (je_bin bd_add je_int (je_call c__law_draw tk (hr.mono (by decide)) rfl Y.g__law_draw (ja_cons (je_var 0) (ja_cons je_int (ja_cons je_int ja_nil))) (al_cons (al_cons (al_cons al_nil))))))
  (jb_cons (js_set 3 sc.nd rfl (by first | exact Or.inl rfl | exact Or.inr rfl) (je_call c__law_lists tk (hr.mono (by decide)) rfl Y.g__law_lists (ja_cons (je_var 0) (ja_cons (je_var 1) (ja_cons (je_var 2) (ja_cons (je_call c__law_draw tk (hr.mono (by decide)) rfl Y.g__law_draw (ja_cons (je_var 0) (ja_cons je_int (ja_cons je_int ja_nil))) (al_cons (al_cons (al_cons al_nil)))) ja_nil)))) (al_cons (al_cons (al_cons (al_cons al_nil))))))
  (jb_cons (js_set 4 sc.nd rfl (by first | exact Or.inl rfl | exact Or.inr rfl) (je_pub (jf_make Y.mk_House c_House___init__ tk (hr.mono (by decide)) rfl Y.g_House (ja_cons (je_pub (jf_callTy b_list rfl Y.n_list boot_list (ja_cons (je_ix u1 (je_var 3) je_int) ja_nil))) (ja_cons (je_pub (jf_callTy b_list rfl Y.n_list boot_list (ja_cons (je_ix u1 (je_var 3) je_int) ja_nil))) (ja_cons (je_pub (jf_callTy b_list rfl Y.n_list boot_list (ja_cons (je_ix u1 (je_var 3) je_int) ja_nil))) ja_nil))) (al_cons (al_cons (al_cons al_nil))))))
  (jb_cons (js_if (jt_not (jt_val (je_call c__law_kept tk (hr.mono (by decide)) rfl Y.g__law_kept (ja_cons (je_var 4) (ja_cons (je_ix u1 (je_var 3) je_int) (ja_cons (je_ix u1 (je_var 3) je_int) (ja_cons (je_ix u1 (je_var 3) je_int) ja_nil)))) (al_cons (al_cons (al_cons (al_cons al_nil)))))))
  (jb_one (js_ret je_bl))
  jb_nil)
  (jb_cons (js_for [5, 6] hp rfl (ji_rng1 rfl Y.n_range (ja_cons je_int ja_nil)) (jg_name 5 sc.nd rfl (by first | exact Or.inl rfl | exact Or.inr rfl))
  (jb_cons (js_set 6 sc.nd rfl (by first | exact Or.inl rfl | exact Or.inr rfl) (je_call c__law_changed tk (hr.mono (by decide)) rfl Y.g__law_changed (ja_cons (je_var 0) (ja_cons (je_bin bd_add je_int (je_bin bd_mul je_int (je_var 5))) (ja_cons (je_var 3) ja_nil))) (al_cons (al_cons (al_cons al_nil)))))
  (jb_one (js_if (jt_not (jt_val (je_call c__law_made tk (hr.mono (by decide)) rfl Y.g__law_made (ja_cons (je_ix u1 (je_var 6) je_int) (ja_cons (je_ix u1 (je_var 6) je_int) (ja_cons (je_ix u1 (je_var 6) je_int) ja_nil))) (al_cons (al_cons (al_cons al_nil))))))
  (jb_one (js_ret je_bl))
  jb_nil))))
  (jb_cons (js_if (jt_not (jt_val (je_call c__law_made tk (hr.mono (by decide)) rfl Y.g__law_made (ja_cons (je_ix u1 (je_var 3) je_int) (ja_cons (je_ix u1 (je_var 3) je_int) (ja_cons (je_ix u1 (je_var 3) je_int) ja_nil))) (al_cons (al_cons (al_cons al_nil))))))
  (jb_one (js_ret je_bl))
  jb_nil)
  (jb_one (js_ret (je_call c__law_kept tk (hr.mono (by decide)) rfl Y.g__law_kept (ja_cons (je_var 4) (ja_cons (je_ix u1 (je_var 3) je_int) (ja_cons (je_ix u1 (je_var 3) je_int) (ja_cons (je_ix u1 (je_var 3) je_int) ja_nil)))) (al_cons (al_cons (al_cons (al_cons al_nil))))))))))))))
theorem ok_law (Y : Gs K mg) {d_House___init__ : FuncData} (c_House___init__ : Cal P w K mg base 3 (He.ma K (He.ga K ("House" : Str)) ("__init__" : Str)) d_House___init__ [("self" : Str), ("rooms" : Str), ("exits" : Str), ("ways" : Str)] (F_House___init__ K)) {d__law_changed : FuncData} (c__law_changed : Cal P w K mg base 4 (He.ga K ("_law_changed" : Str)) d__law_changed [("script" : Str), ("k" : Str), ("parts" : Str)] (F__law_changed K)) {d__law_draw : FuncData} (c__law_draw : Cal P w K mg base 1 (He.ga K ("_law_draw" : Str)) d__law_draw [("script" : Str), ("k" : Str), ("size" : Str)] (F__law_draw K)) {d__law_kept : FuncData} (c__law_kept : Cal P w K mg base 2 (He.ga K ("_law_kept" : Str)) d__law_kept [("house" : Str), ("rooms" : Str), ("exits" : Str), ("ways" : Str)] (F__law_kept K)) {d__law_lists : FuncData} (c__law_lists : Cal P w K mg base 3 (He.ga K ("_law_lists" : Str)) d__law_lists [("script" : Str), ("many" : Str), ("gates" : Str), ("count" : Str)] (F__law_lists K)) {d__law_made : FuncData} (c__law_made : Cal P w K mg base 5 (He.ga K ("_law_made" : Str)) d__law_made [("rooms" : Str), ("exits" : Str), ("ways" : Str)] (F__law_made K)) {f : Addr} {fd : FuncData} (F : FunD K ("law" : Str) ("law" : Str) (defArgs (top 68)) (defBody (top 68)) (defScope (top 68)) [] [] f fd) : Cal P w K mg base 6 f fd [("script" : Str)] (F_law K) := by
  have h0 := fn_ok (P := P) (w := w) (mg := mg) (base := base) (ex := exitP) (k := 5) (N := [("script" : Str), ("many" : Str), ("gates" : Str), ("parts" : Str), ("house" : Str), ("turn" : Str), ("changed" : Str)]) (g := g_law K) exits_P F sc_law (fun cdv A outer s H E hr => b_law Y c_House___init__ c__law_changed c__law_draw c__law_kept c__law_lists c__law_made hr)
  exact ⟨h0, F.kp, F.bindsN (fun _ _ _ _ _ _ us hl => match us, hl with | [_], _ => rfl)⟩
end

/-! ### the head -/
def dd_is_name : He.DefD := ⟨(("is_name" : Str), none), ("is_name" : Str), ("is_name" : Str), defArgs (top 42), defBody (top 42), defScope (top 42), [], []⟩
def dd__check_exits : He.DefD := ⟨(("_check_exits" : Str), none), ("_check_exits" : Str), ("_check_exits" : Str), defArgs (top 51), defBody (top 51), defScope (top 51), [], []⟩
def dd__check_rooms : He.DefD := ⟨(("_check_rooms" : Str), none), ("_check_rooms" : Str), ("_check_rooms" : Str), defArgs (top 50), defBody (top 50), defScope (top 50), [], []⟩
def dd__check_ways : He.DefD := ⟨(("_check_ways" : Str), none), ("_check_ways" : Str), ("_check_ways" : Str), defArgs (top 52), defBody (top 52), defScope (top 52), [], []⟩
def dd_House___init__ : He.DefD := ⟨(("House" : Str), some ("__init__" : Str)), ("__init__" : Str), ("House.__init__" : Str), defArgs (inC 53 0), defBody (inC 53 0), defScope (inC 53 0), [], []⟩
def dd__law_draw : He.DefD := ⟨(("_law_draw" : Str), none), ("_law_draw" : Str), ("_law_draw" : Str), defArgs (top 55), defBody (top 55), defScope (top 55), [], []⟩
def dd__law_name : He.DefD := ⟨(("_law_name" : Str), none), ("_law_name" : Str), ("_law_name" : Str), defArgs (top 56), defBody (top 56), defScope (top 56), [], []⟩
def dd__law_lists : He.DefD := ⟨(("_law_lists" : Str), none), ("_law_lists" : Str), ("_law_lists" : Str), defArgs (top 57), defBody (top 57), defScope (top 57), [], []⟩
def dd__law_odd : He.DefD := ⟨(("_law_odd" : Str), none), ("_law_odd" : Str), ("_law_odd" : Str), defArgs (top 58), defBody (top 58), defScope (top 58), [], []⟩
def dd__law_swap : He.DefD := ⟨(("_law_swap" : Str), none), ("_law_swap" : Str), ("_law_swap" : Str), defArgs (top 59), defBody (top 59), defScope (top 59), [], []⟩
def dd__law_renamed : He.DefD := ⟨(("_law_renamed" : Str), none), ("_law_renamed" : Str), ("_law_renamed" : Str), defArgs (top 60), defBody (top 60), defScope (top 60), [], []⟩
def dd__law_way_changed : He.DefD := ⟨(("_law_way_changed" : Str), none), ("_law_way_changed" : Str), ("_law_way_changed" : Str), defArgs (top 61), defBody (top 61), defScope (top 61), [], []⟩
def dd__law_changed : He.DefD := ⟨(("_law_changed" : Str), none), ("_law_changed" : Str), ("_law_changed" : Str), defArgs (top 62), defBody (top 62), defScope (top 62), [], []⟩
def dd__law_same : He.DefD := ⟨(("_law_same" : Str), none), ("_law_same" : Str), ("_law_same" : Str), defArgs (top 65), defBody (top 65), defScope (top 65), [], []⟩
def dd__law_kept : He.DefD := ⟨(("_law_kept" : Str), none), ("_law_kept" : Str), ("_law_kept" : Str), defArgs (top 66), defBody (top 66), defScope (top 66), [], []⟩
def dd__law_is_word : He.DefD := ⟨(("_law_is_word" : Str), none), ("_law_is_word" : Str), ("_law_is_word" : Str), defArgs (top 63), defBody (top 63), defScope (top 63), [], []⟩
def dd__law_is_house : He.DefD := ⟨(("_law_is_house" : Str), none), ("_law_is_house" : Str), ("_law_is_house" : Str), defArgs (top 64), defBody (top 64), defScope (top 64), [], []⟩
def dd__law_made : He.DefD := ⟨(("_law_made" : Str), none), ("_law_made" : Str), ("_law_made" : Str), defArgs (top 67), defBody (top 67), defScope (top 67), [], []⟩
def dd_law : He.DefD := ⟨(("law" : Str), none), ("law" : Str), ("law" : Str), defArgs (top 68), defBody (top 68), defScope (top 68), [], []⟩
def fnL : List He.DefD := [dd_is_name, dd__check_exits, dd__check_rooms, dd__check_ways, dd_House___init__, dd__law_draw, dd__law_name, dd__law_lists, dd__law_odd, dd__law_swap, dd__law_renamed, dd__law_way_changed, dd__law_changed, dd__law_same, dd__law_kept, dd__law_is_word, dd__law_is_house, dd__law_made, dd_law]
def fa0 : List He.Fa := [.free ("ValueError" : Str), .free ("abs" : Str), .free ("bool" : Str), .free ("enumerate" : Str), .free ("int" : Str), .free ("isinstance" : Str), .free ("len" : Str), .free ("list" : Str), .free ("min" : Str), .free ("range" : Str), .free ("set" : Str), .free ("str" : Str), .free ("tuple" : Str), .str ("LETTERS" : Str) ("abcdefghijklmnopqrstuvwxyz" : Str), .int ("LONGEST_NAME" : Str) (12 : Int), .int ("MOST_EXITS" : Str) (4 : Int), .int ("MOST_HOLD" : Str) (200 : Int), .int ("MOST_ROOMS" : Str) (8 : Int), .int ("MOST_TIME" : Str) (5 : Int), .int ("MOST_WAYS" : Str) (20 : Int), .int ("MOST_WIDTH" : Str) (50 : Int), .str ("SIGNS" : Str) ("abcdefghijklmnopqrstuvwxyz0123456789" : Str), .glo ("AlarmOver" : Str), .glo ("BadBook" : Str), .glo ("BadBounds" : Str), .glo ("BadClosing" : Str), .glo ("BadCourse" : Str), .glo ("BadCover" : Str), .glo ("BadCrowd" : Str), .glo ("BadCut" : Str)]
def fa1 : List He.Fa := [.glo ("BadDeed" : Str), .glo ("BadFire" : Str), .glo ("BadFloor" : Str), .glo ("BadHour" : Str), .glo ("BadHouse" : Str), .glo ("BadLimit" : Str), .glo ("BadLinks" : Str), .glo ("BadMinutes" : Str), .glo ("BadMovement" : Str), .glo ("BadNeeds" : Str), .glo ("BadNet" : Str), .glo ("BadOffers" : Str), .glo ("BadReport" : Str), .glo ("BadSigns" : Str), .glo ("BadTable" : Str), .glo ("BadTeams" : Str), .glo ("BadText" : Str), .glo ("BadTroubles" : Str), .glo ("BadWalk" : Str), .glo ("EverybodyError" : Str), .glo ("House" : Str), .glo ("NoFlow" : Str), .glo ("NoHistory" : Str), .glo ("NothingToRedo" : Str), .glo ("NothingToUndo" : Str), .glo ("ReportClash" : Str), .glo ("TooLarge" : Str), .glo ("UnknownName" : Str), .glo ("UnknownReport" : Str), .glo ("_check_exits" : Str)]
def fa2 : List He.Fa := [.glo ("_check_rooms" : Str), .glo ("_check_ways" : Str), .glo ("_law_changed" : Str), .glo ("_law_draw" : Str), .glo ("_law_is_house" : Str), .glo ("_law_is_word" : Str), .glo ("_law_kept" : Str), .glo ("_law_lists" : Str), .glo ("_law_made" : Str), .glo ("_law_name" : Str), .glo ("_law_odd" : Str), .glo ("_law_renamed" : Str), .glo ("_law_same" : Str), .glo ("_law_swap" : Str), .glo ("_law_way_changed" : Str), .glo ("is_name" : Str), .glo ("law" : Str), .exc ("BadHouse" : Str), .cls ("House" : Str), .mkr ("House" : Str), .noat ("House" : Str) ("rooms" : Str), .noat ("House" : Str) ("exits" : Str), .noat ("House" : Str) ("ways" : Str), .noat ("House" : Str) ("_way_at" : Str), .noat ("House" : Str) ("_exit_at" : Str), .noat ("House" : Str) ("_room_at" : Str)]
def faL : List He.Fa := fa0 ++ fa1 ++ fa2
/-- more facts of K -/
def exL (K : PySem.W.Frag) : List Bool := [decide (PySem.W.findIn K (.ref (He.ga K ("House" : Str))) "__class__" = some (some (.builtin "object.__class__"))),
  decide (PySem.W.specialIn K (.builtin "object.__class__") "__get__" = some (some (.builtin "getset_descriptor.__get__"))),
  decide (PySem.W.takesIn K (.builtin "object.__class__") = some true),
  decide (PySem.W.mroIn K (He.ga K ("House" : Str)) (.type "object") = some true),
  decide (PySem.W.kitOne K (.ref (He.ga K ("House" : Str))) (.ref (He.ga K ("House" : Str))) = some true),
  decide (PySem.W.exmOne K (.ref (He.ga K ("BadHouse" : Str))) (.ref (He.ga K ("BadHouse" : Str))) = some true),
  exC K (He.ga K ("BadHouse" : Str)),
  decide (PySem.W.kitAny K (.ref (He.ga K ("BadHouse" : Str))) [(.ref (He.ga K ("AlarmOver" : Str))), (.ref (He.ga K ("BadBook" : Str))), (.ref (He.ga K ("BadBounds" : Str))), (.ref (He.ga K ("BadClosing" : Str))), (.ref (He.ga K ("BadCourse" : Str))), (.ref (He.ga K ("BadCover" : Str))), (.ref (He.ga K ("BadCrowd" : Str))), (.ref (He.ga K ("BadCut" : Str))), (.ref (He.ga K ("BadDeed" : Str))), (.ref (He.ga K ("BadFire" : Str))), (.ref (He.ga K ("BadFloor" : Str))), (.ref (He.ga K ("BadHour" : Str))), (.ref (He.ga K ("BadLimit" : Str))), (.ref (He.ga K ("BadLinks" : Str))), (.ref (He.ga K ("BadMinutes" : Str))), (.ref (He.ga K ("BadMovement" : Str))), (.ref (He.ga K ("BadNeeds" : Str))), (.ref (He.ga K ("BadNet" : Str))), (.ref (He.ga K ("BadOffers" : Str))), (.ref (He.ga K ("BadReport" : Str))), (.ref (He.ga K ("BadSigns" : Str))), (.ref (He.ga K ("BadTable" : Str))), (.ref (He.ga K ("BadTeams" : Str))), (.ref (He.ga K ("BadText" : Str))), (.ref (He.ga K ("BadTroubles" : Str))), (.ref (He.ga K ("BadWalk" : Str))), (.ref (He.ga K ("NoFlow" : Str))), (.ref (He.ga K ("NoHistory" : Str))), (.ref (He.ga K ("NothingToRedo" : Str))), (.ref (He.ga K ("NothingToUndo" : Str))), (.ref (He.ga K ("ReportClash" : Str))), (.ref (He.ga K ("TooLarge" : Str))), (.ref (He.ga K ("UnknownName" : Str))), (.ref (He.ga K ("UnknownReport" : Str)))] = some false),
  decide (PySem.W.kitOne K (.ref (He.ga K ("BadHouse" : Str))) (.ref (He.ga K ("EverybodyError" : Str))) = some true),
  decide (PySem.W.kitOne K (.ref (He.ga K ("BadHouse" : Str))) (.type "ValueError") = some true)]
def exB (K : PySem.W.Frag) : Bool := (exL K).all id
def names0 : List PySem.Str := [("_wall" : Str), ("__name__" : Str), ("EverybodyError" : Str), ("BadHouse" : Str), ("UnknownName" : Str), ("BadCrowd" : Str), ("BadClosing" : Str), ("BadMinutes" : Str), ("BadMovement" : Str), ("BadWalk" : Str), ("BadNet" : Str), ("BadNeeds" : Str), ("BadCut" : Str), ("BadLimit" : Str), ("BadSigns" : Str), ("BadTeams" : Str), ("BadFire" : Str), ("BadCourse" : Str), ("BadTroubles" : Str), ("BadBounds" : Str), ("BadCover" : Str), ("BadOffers" : Str), ("BadBook" : Str), ("BadReport" : Str), ("UnknownReport" : Str), ("BadFloor" : Str), ("BadTable" : Str), ("BadLinks" : Str), ("BadDeed" : Str), ("BadHour" : Str), ("NothingToUndo" : Str), ("NothingToRedo" : Str), ("AlarmOver" : Str), ("NoHistory" : Str), ("TooLarge" : Str)]
def names1 : List PySem.Str := [("NoFlow" : Str), ("ReportClash" : Str), ("BadText" : Str), ("LETTERS" : Str), ("SIGNS" : Str), ("LONGEST_NAME" : Str), ("is_name" : Str), ("MOST_ROOMS" : Str), ("MOST_EXITS" : Str), ("MOST_WAYS" : Str), ("MOST_HOLD" : Str), ("MOST_WIDTH" : Str), ("MOST_TIME" : Str), ("_check_rooms" : Str), ("_check_exits" : Str), ("_check_ways" : Str), ("House" : Str), ("_law_draw" : Str), ("_law_name" : Str), ("_law_lists" : Str), ("_law_odd" : Str), ("_law_swap" : Str), ("_law_renamed" : Str), ("_law_way_changed" : Str), ("_law_changed" : Str), ("_law_is_word" : Str), ("_law_is_house" : Str), ("_law_same" : Str), ("_law_kept" : Str), ("_law_made" : Str)]
def namesL : List PySem.Str := names0 ++ names1
abbrev RowX : PySem.W.OpenRow := PySem.W.OpenLaw.row PySem.Challenge.rw_everybodyout_k01_house_refused_or_kept
abbrev qv : Program := PySem.W.view RowX.prog [68]
abbrev hk : PySem.W.Hook := He.hookX 5 faL fnL [] [] exB
def ob (s : PySem.W.SharedT) : He.AlX := He.obsX 5 faL fnL [] [] exB (HandSHeadRun.getT s)
theorem ob_eq (s : PySem.W.SharedT) : ob s = hk.obs s.abs := He.obsX_eq (HandSHeadRun.getT_eq s)
set_option maxHeartbeats 0 in
theorem run (w : World) : HandSHeadRun.RunEq RowX qv hk ob 15000 namesL w := by
  intro os
  kernel_rfl


end
open TL
open TL.Ty (enc)
open TL.Mt (co)
/-- what K says, for the typed readings -/
structure Ks (K : PySem.W.Frag) : Prop where
  fo_House_rooms : FldOk K (He.ga K ("House" : Str)) ("rooms" : Str)
  fo_House_exits : FldOk K (He.ga K ("House" : Str)) ("exits" : Str)
  fo_House_ways : FldOk K (He.ga K ("House" : Str)) ("ways" : Str)
  fo_House__way_at : FldOk K (He.ga K ("House" : Str)) ("_way_at" : Str)
  fo_House__exit_at : FldOk K (He.ga K ("House" : Str)) ("_exit_at" : Str)
  fo_House__room_at : FldOk K (He.ga K ("House" : Str)) ("_room_at" : Str)
  is1_House : PySem.W.findIn K (.ref (He.ga K ("House" : Str))) "__class__" = some (some (.builtin "object.__class__"))
  is2 : PySem.W.specialIn K (.builtin "object.__class__") "__get__" = some (some (.builtin "getset_descriptor.__get__"))
  is3 : PySem.W.takesIn K (.builtin "object.__class__") = some true
  is4_House : PySem.W.mroIn K (He.ga K ("House" : Str)) (.type "object") = some true
  ki_House_House : PySem.W.kitOne K (.ref (He.ga K ("House" : Str))) (.ref (He.ga K ("House" : Str))) = some true
  xm_BadHouse_BadHouse : PySem.W.exmOne K (.ref (He.ga K ("BadHouse" : Str))) (.ref (He.ga K ("BadHouse" : Str))) = some true
  xc_BadHouse : exC K (He.ga K ("BadHouse" : Str)) = true
  isx1_BadHouse : PySem.W.kitAny K (.ref (He.ga K ("BadHouse" : Str))) [(.ref (He.ga K ("AlarmOver" : Str))), (.ref (He.ga K ("BadBook" : Str))), (.ref (He.ga K ("BadBounds" : Str))), (.ref (He.ga K ("BadClosing" : Str))), (.ref (He.ga K ("BadCourse" : Str))), (.ref (He.ga K ("BadCover" : Str))), (.ref (He.ga K ("BadCrowd" : Str))), (.ref (He.ga K ("BadCut" : Str))), (.ref (He.ga K ("BadDeed" : Str))), (.ref (He.ga K ("BadFire" : Str))), (.ref (He.ga K ("BadFloor" : Str))), (.ref (He.ga K ("BadHour" : Str))), (.ref (He.ga K ("BadLimit" : Str))), (.ref (He.ga K ("BadLinks" : Str))), (.ref (He.ga K ("BadMinutes" : Str))), (.ref (He.ga K ("BadMovement" : Str))), (.ref (He.ga K ("BadNeeds" : Str))), (.ref (He.ga K ("BadNet" : Str))), (.ref (He.ga K ("BadOffers" : Str))), (.ref (He.ga K ("BadReport" : Str))), (.ref (He.ga K ("BadSigns" : Str))), (.ref (He.ga K ("BadTable" : Str))), (.ref (He.ga K ("BadTeams" : Str))), (.ref (He.ga K ("BadText" : Str))), (.ref (He.ga K ("BadTroubles" : Str))), (.ref (He.ga K ("BadWalk" : Str))), (.ref (He.ga K ("NoFlow" : Str))), (.ref (He.ga K ("NoHistory" : Str))), (.ref (He.ga K ("NothingToRedo" : Str))), (.ref (He.ga K ("NothingToUndo" : Str))), (.ref (He.ga K ("ReportClash" : Str))), (.ref (He.ga K ("TooLarge" : Str))), (.ref (He.ga K ("UnknownName" : Str))), (.ref (He.ga K ("UnknownReport" : Str)))] = some false
  isx3_BadHouse : PySem.W.kitOne K (.ref (He.ga K ("BadHouse" : Str))) (.ref (He.ga K ("EverybodyError" : Str))) = some true
  isx5_BadHouse : PySem.W.kitOne K (.ref (He.ga K ("BadHouse" : Str))) (.type "ValueError") = some true
structure O_House where
  f_rooms : (Tup (T2 Str Int))
  f_exits : (Tup Str)
  f_ways : (Tup (T5 Str Str Str Int Int))
  f__room_at : (Dict Str Int)
  f__exit_at : (Dict Str Int)
  f__way_at : (Dict Str Int)
instance : Ob O_House where
  enc K o := .obj (He.ga K ("House" : Str)) [(("rooms" : Str), enc K o.f_rooms), (("exits" : Str), enc K o.f_exits), (("ways" : Str), enc K o.f_ways), (("_room_at" : Str), enc K o.f__room_at), (("_exit_at" : Str), enc K o.f__exit_at), (("_way_at" : Str), enc K o.f__way_at)]
  clo K m o := by
    simp only [clo, cloF]
    exact ⟨Ty.clo K m _, Ty.clo K m _, Ty.clo K m _, Ty.clo K m _, Ty.clo K m _, Ty.clo K m _, trivial⟩
  co K o := .obj (He.ga K ("House" : Str)) [(("rooms" : Str), enc K o.f_rooms), (("exits" : Str), enc K o.f_exits), (("ways" : Str), enc K o.f_ways), (("_room_at" : Str), enc K o.f__room_at), (("_exit_at" : Str), enc K o.f__exit_at), (("_way_at" : Str), enc K o.f__way_at)]
  pub K o := rfl
  cloC K m o := by
    simp only [cloC, cloF]
    exact ⟨Ty.clo K m _, Ty.clo K m _, Ty.clo K m _, Ty.clo K m _, Ty.clo K m _, Ty.clo K m _, trivial⟩
  cls := ("House" : Str)
  fl K o := [(("rooms" : Str), enc K o.f_rooms), (("exits" : Str), enc K o.f_exits), (("ways" : Str), enc K o.f_ways), (("_room_at" : Str), enc K o.f__room_at), (("_exit_at" : Str), enc K o.f__exit_at), (("_way_at" : Str), enc K o.f__way_at)]
  cof K o := rfl
/-! ### _law_same: a tuple whose items are not alike, by the readings -/
@[simp] theorem len_klst {xs : List P} {cs : Cells} : orC gLen gLenD [.klst xs] cs = .ok (.int xs.length) cs := by
  simp [orC, gLen, seqc]
theorem atI_nat {α : Type} {xs : List α} {i : Int} (h0 : 0 ≤ i) (h1 : i < xs.length) : ∃ d, atI xs i = some d ∧ xs[i.toNat]? = some d := by
  unfold atI ixN
  rw [if_pos h0, if_pos h1]
  have hl : i.toNat < xs.length := by omega
  exact ⟨xs[i.toNat], by simp [hl], by simp [hl]⟩
theorem g_ixL {x : P} {xs : List P} {i : Int} {d : P} {cs : Cells} (h : seqc cs x = some xs) (e : atI xs i = some d) : gIx x (.int i) cs = .ok d cs := by
  simp [gIx, orG, gIxL, h, e]
theorem exitP_rt' {cs : Cells} {d : P} (q : clo cs.length d) : exitP cs (.rt d cs) = .ok d cs := exitP_rt (List.prefix_refl _) q
theorem e_rng1 {fa : DAn} {env : DL.Env} {cs : Cells} {j : Int} (h : fa env cs = .ok [.int j] cs) (h1 : -(2 ^ 62) ≤ j) (h2 : j < 2 ^ 62) : dRng1 fa env cs = .ok (rangeP 0 j.toNat, yes) cs := by
  unfold dRng1
  rw [h]
  simp only [Rs.bind_ok]
  exact if_pos ⟨h1, h2⟩
@[simp] theorem len_tup {xs : List P} {cs : Cells} : orC gLen gLenD [.tup xs] cs = .ok (.int xs.length) cs := by
  simp [orC, gLen, seqc]
@[simp] theorem len_lst {xs : List P} {cs : Cells} : orC gLen gLenD [.lst xs] cs = .ok (.int xs.length) cs := by
  simp [orC, gLen, seqc]
theorem exitP_all {T : List Nat} {ok : Cells → Bool} {g : DGn} {body : DSn} {L : List P} {env : DL.Env} {cs : Cells} (p : P → Bool) (hk : ok cs = true)
    (h : ∀ x ∈ L, ∃ e, g x env cs = some e ∧ (p x = true → ∃ e', body e cs = .nx e' cs ∧ killAll e' T = env) ∧ (p x = false → body e cs = .rt (.bl false) cs)) {k : DSn} :
    exitP cs ((dForL T ok g body L env cs).seq k) = if L.all p = true then exitP cs (k env cs) else .ok (.bl false) cs := by
  rw [forL_all p hk h]
  cases q : L.all p with
  | true => rfl
  | false => exact exitP_rt' (by simp)
theorem kit_refl (K : PySem.W.Frag) (T : String) : PySem.W.kitOne K (.type T) (.type T) = some true := if_pos (beq_self_eq_true _)
theorem kit_int_bool (K : PySem.W.Frag) : PySem.W.kitOne K (.type "int") (.type "bool") = some false := by
  unfold PySem.W.kitOne
  rw [if_neg (by decide)]
  rfl
theorem kit_int_str (K : PySem.W.Frag) : PySem.W.kitOne K (.type "int") (.type "str") = some false := by
  unfold PySem.W.kitOne
  rw [if_neg (by decide)]
  rfl
theorem isi_str (K : PySem.W.Frag) (s : Str) (cs : Cells) : gIsi K [.str s, .raw (.ty "str")] cs = .ok (.bl true) cs := by
  simp [gIsi, tyP, clsP, kit_refl]
theorem isi_int (K : PySem.W.Frag) (s : Int) (cs : Cells) : gIsi K [.int s, .raw (.ty "int")] cs = .ok (.bl true) cs := by
  simp [gIsi, tyP, clsP, kit_refl]
theorem isi_intB (K : PySem.W.Frag) (s : Int) (cs : Cells) : gIsi K [.int s, .raw (.ty "bool")] cs = .ok (.bl false) cs := by
  simp [gIsi, tyP, clsP, kit_int_bool]
theorem isi_intS (K : PySem.W.Frag) (s : Int) (cs : Cells) : gIsi K [.int s, .raw (.ty "str")] cs = .ok (.bl false) cs := by
  simp [gIsi, tyP, clsP, kit_int_str]
theorem isi_tup (K : PySem.W.Frag) (xs : List P) (cs : Cells) : gIsi K [.tup xs, .raw (.ty "tuple")] cs = .ok (.bl true) cs := by
  simp [gIsi, tyP, clsP, kit_refl]
def Flt (x : P) : Prop := (∃ s, x = .str s) ∨ ∃ i, x = .int i
@[simp] theorem e_var0 {i : Nat} {env : DL.Env} {cs : Cells} {d : P} (h : env[i]? = some (some d)) : dVar i env cs = .ok d cs := e_var h
@[simp] theorem g_nestr {a b : Str} {cs : Cells} : gEq true (.str a) (.str b) cs = .ok (.bl (!decide (a = b))) cs := rfl
@[simp] theorem g_neint {a b : Int} {cs : Cells} : gEq true (.int a) (.int b) cs = .ok (.bl (!decide (a = b))) cs := rfl
theorem same_ok (K : PySem.W.Frag) (xs : List P) (d : P) (cs : Cells) (hd : DL.seqc cs d = some xs) (hl : orC gLen gLenD [d] cs = .ok (.int xs.length) cs) (hz : xs.length ≤ 1000) (hx : ∀ x ∈ xs, Flt x) : F__law_same K [.tup xs, d] cs = .ok (.bl true) cs := by
  unfold F__law_same fnP g__law_same
  simp [ent, isi_tup, hl, e_for]
  rw [e_rng1 (j := xs.length) (by simp [hl]) (by omega) (by omega)]
  simp only [Rs.toO_ok, killAll, List.set_cons_succ, List.set_cons_zero]
  rw [exitP_all (fun _ => true) rfl]
  · simp
    exact exitP_rt' (by simp)
  · intro x hm
    unfold rangeP at hm
    obtain ⟨n, hn, rfl⟩ := List.mem_map.mp hm
    have hn : n < xs.length := by simpa using hn
    obtain ⟨y, e1, e2⟩ := atI_nat (xs := xs) (i := (0 + (n : Int))) (by omega) (by omega)
    have i1 : ∀ cs, gIx (.tup xs) (.int (0 + (n : Int))) cs = .ok y cs := fun cs => g_ixL rfl e1
    have i2 : gIx d (.int (0 + (n : Int))) cs = .ok y cs := g_ixL hd e1
    have hy : Flt y := hx _ (List.mem_of_getElem? e2)
    refine ⟨_, rfl, fun _ => ?_, fun h => by cases h⟩
    rcases hy with ⟨s, rfl⟩ | ⟨j, rfl⟩
    · simp [Int.zero_add] at i1 i2
      simp [i1, i2, isi_str, killAll]
    · simp [Int.zero_add] at i1 i2
      simp [i1, i2, isi_int, isi_intB, isi_intS, killAll]

open Classical in
noncomputable def t__law_same (told : Tup Str) (due : List Str) : R Bool := if told.l = due ∧ due.length ≤ 1000 then .ok true else .stuck
open Classical in
noncomputable def t__law_same_2 (told due : T2 Str Int) : R Bool := if told = due then .ok true else .stuck
open Classical in
noncomputable def t__law_same_3 (told due : T5 Str Str Str Int Int) : R Bool := if told = due then .ok true else .stuck
theorem f__law_same {K : PySem.W.Frag} (k : Ks K) (a : Tup Str) (b : List Str) : FT K (F__law_same K) [.v (enc K a), .r (enc K b) (co K b)] (t__law_same a b) := fun cs ds hc ha => by
  obtain ⟨d, r, rfl, h1, d2, r2, rfl, h2, rfl⟩ := ha
  unfold t__law_same
  split
  · rename_i h
    obtain ⟨h, hz⟩ := h
    have h1 : d = enc K a := h1
    have h2 : qR K cs b d2 := h2
    subst h1
    refine ⟨_, ?_, rfl⟩
    have e : enc K a = .tup (b.map (enc K)) := by rw [← h]; rfl
    rw [e]
    exact same_ok K _ d2 cs h2.seqc (len_seq h2.seqc (fun z => by rcases h2.orI with ⟨xs, rfl⟩ | ⟨n, rfl⟩ <;> exact fun e => by cases e)) (by rw [List.length_map]; exact hz) (fun x hx => by
      obtain ⟨s, _, rfl⟩ := List.mem_map.mp hx
      exact .inl ⟨s, rfl⟩)
  · trivial
theorem f__law_same_2 {K : PySem.W.Frag} (k : Ks K) (a b : T2 Str Int) : FT K (F__law_same K) [.v (enc K a), .v (enc K b)] (t__law_same_2 a b) := fun cs ds hc ha => by
  obtain ⟨d, r, rfl, h1, d2, r2, rfl, h2, rfl⟩ := ha
  unfold t__law_same_2
  split
  · rename_i h
    subst h
    have h1 : d = enc K a := h1
    have h2 : d2 = enc K a := h2
    subst h1 h2
    refine ⟨_, same_ok K [.str a.a, .int a.b] _ cs rfl len_tup (by simp) (fun x hx => ?_), rfl⟩
    simp only [List.mem_cons, List.not_mem_nil, or_false] at hx
    rcases hx with rfl | rfl
    · exact .inl ⟨_, rfl⟩
    · exact .inr ⟨_, rfl⟩
  · trivial
theorem f__law_same_3 {K : PySem.W.Frag} (k : Ks K) (a b : T5 Str Str Str Int Int) : FT K (F__law_same K) [.v (enc K a), .v (enc K b)] (t__law_same_3 a b) := fun cs ds hc ha => by
  obtain ⟨d, r, rfl, h1, d2, r2, rfl, h2, rfl⟩ := ha
  unfold t__law_same_3
  split
  · rename_i h
    subst h
    have h1 : d = enc K a := h1
    have h2 : d2 = enc K a := h2
    subst h1 h2
    refine ⟨_, same_ok K [.str a.a, .str a.b, .str a.c, .int a.d, .int a.e] _ cs rfl len_tup (by simp) (fun x hx => ?_), rfl⟩
    simp only [List.mem_cons, List.not_mem_nil, or_false] at hx
    rcases hx with rfl | rfl | rfl | rfl | rfl
    · exact .inl ⟨_, rfl⟩
    · exact .inl ⟨_, rfl⟩
    · exact .inl ⟨_, rfl⟩
    · exact .inr ⟨_, rfl⟩
    · exact .inr ⟨_, rfl⟩
  · trivial

def sel_BadHouse : Str → Option Bool := selOf [(("BadHouse" : Str), true)]
def isx1 : Str → Option Bool := selOf [(("BadHouse" : Str), false)]
def isx3 : Str → Option Bool := selOf [(("BadHouse" : Str), true)]
def isx5 : Str → Option Bool := selOf [(("BadHouse" : Str), true)]
noncomputable def t__law_draw_b7 (y25 : Int) (s24 : Int) : R Int :=
((divR s24 (10000 : Int))).bind fun rest_27 =>
R.ok rest_27
noncomputable def t__law_draw (p_script : Scr) (p_k : Int) (p_size : Int) : R Int :=
let count_2 : Int := (min' (len p_script.l) (63 : Int))
let cell_3 : Int := (0 : Int)
R.bind (α := Int) ((if (decide ((0 : Int) < count_2)) = true then (
((((((modR p_k count_2)).bind fun x9 => (ixL p_script.l x9))).bind fun x10 => R.ok (abs' x10))).bind fun cell_8 =>
R.ok cell_8) else (
R.ok cell_3))) fun s7 =>
R.then (σ := Unit) ((iteR (((powR (10 : Int) (18 : Int))).bind fun x11 => R.ok (decide (x11 ≤ s7))) (
let rest_22 : Int := s7
(((((divR p_k count_2)).bind fun x23 => (rng1 x23))).bind fun x30 => (foldR t__law_draw_b7 x30 rest_22).bind fun s24 =>
(if (decide ((0 : Int) < s24)) = true then (
((((modR s24 (10000 : Int))).bind fun x28 => (modR x28 p_size))).bind fun v29 => R.ok (Lp.rt v29)) else (
R.ok (Lp.nx ()))))) (
R.ok (Lp.nx ())))) fun s21 =>
((((((((mulR (7919 : Int) p_k)).bind fun x32 => R.ok (s7 + x32))).bind fun x33 => R.ok (x33 + (13 : Int)))).bind fun x34 => (modR x34 (2147483647 : Int)))).bind fun mixed_31 =>
((((mulR mixed_31 (mixed_31 + (48271 : Int)))).bind fun x36 => (modR x36 (2147483629 : Int)))).bind fun mixed_35 =>
((((((mulR mixed_35 (mixed_35 + (69621 : Int)))).bind fun x38 => ((mulR (31 : Int) p_k)).bind fun x39 => R.ok (x38 + x39))).bind fun x40 => (modR x40 (2147483647 : Int)))).bind fun mixed_37 =>
((((divR mixed_37 (9 : Int))).bind fun x41 => (modR x41 p_size))).bind fun v42 => R.ok v42
noncomputable def t__law_name_b5 (p_script : Scr) (p_at : Int) (letters_103 : Str) (spot_104 : Int) (y138 : Int) (s137 : Str) : R Str :=
(if (eqC y138 spot_104) = true then (
((((((((((mulR p_at (7 : Int))).bind fun x179 => ((t__law_draw p_script (980 : Int) (36 : Int))).bind fun x180 => R.ok (x179 + x180))).bind fun x181 => (modR x181 (36 : Int)))).bind fun x182 => (ixS letters_103 x182))).bind fun x183 => (catS s137 x183))).bind fun word_169 =>
R.ok word_169) else (
((((((((((((mulR (12 : Int) p_at)).bind fun x185 => R.ok ((1000 : Int) + x185))).bind fun x186 => R.ok (x186 + y138))).bind fun x196 => (t__law_draw p_script x196 (36 : Int)))).bind fun x197 => (ixS letters_103 x197))).bind fun x198 => (catS s137 x198))).bind fun word_184 =>
R.ok word_184))
noncomputable def t__law_name (p_script : Scr) (p_at : Int) : R Str :=
let letters_103 : Str := ("abcdefghijklmnopqrstuvwxyz0123456789" : Str)
((((t__law_draw p_script (900 : Int) (4 : Int))).bind fun x114 => R.ok ((1 : Int) + x114))).bind fun spot_104 =>
((((t__law_draw p_script ((901 : Int) + p_at) ((12 : Int) - spot_104))).bind fun x125 => R.ok ((spot_104 + (1 : Int)) + x125))).bind fun size_115 =>
((((t__law_draw p_script ((940 : Int) + p_at) (26 : Int))).bind fun x136 => (ixS letters_103 x136))).bind fun word_126 =>
(((rng2 (1 : Int) size_115)).bind fun x200 => (foldR (t__law_name_b5 p_script p_at letters_103 spot_104) x200 word_126).bind fun s137 =>
R.ok s137)
noncomputable def t__law_lists_b8 (p_script : Scr) (p_many : Int) (p_gates : Int) (places_273 : (List Str)) (y278 : Int) (s277 : (List (T5 Str Str Str Int Int))) : R (List (T5 Str Str Str Int Int)) :=
(if ((decide ((0 : Int) < p_many)) && (decide ((1 : Int) < (len places_273)))) = true then (
((t__law_draw p_script ((20 : Int) + y278) p_many)).bind fun start_372 =>
((((((t__law_draw p_script ((50 : Int) + y278) ((len places_273) - (1 : Int)))).bind fun x392 => R.ok ((start_372 + (1 : Int)) + x392))).bind fun x393 => (modR x393 (len places_273)))).bind fun end_382 =>
((((((t__law_draw p_script ((80 : Int) + y278) (51 : Int))).bind fun x416 => R.ok ([(0 : Int), (1 : Int), (50 : Int), x416] : (List Int)))).bind fun x426 => ((t__law_draw p_script ((180 : Int) + y278) (4 : Int))).bind fun x427 => (ixL x426 x427))).bind fun width_394 =>
((((t__law_draw p_script ((110 : Int) + y278) (5 : Int))).bind fun x438 => R.ok ((1 : Int) + x438))).bind fun time_428 =>
((((t__law_name p_script ((p_many + p_gates) + y278))).bind fun x461 => ((ixL places_273 start_372)).bind fun x462 => ((ixL places_273 end_382)).bind fun x463 => R.ok (⟨x461, x462, x463, width_394, time_428⟩ : (T5 Str Str Str Int Int)))).bind fun x464 =>
(appR s277 x464).bind fun ways_439 =>
R.ok ways_439) else (
R.ok s277))
noncomputable def t__law_lists_b2 (p_script : Scr) (y67 : Int) (s66 : (List (T2 Str Int))) : R (List (T2 Str Int)) :=
((((((t__law_draw p_script ((10 : Int) + y67) (201 : Int))).bind fun x237 => R.ok ([(0 : Int), (1 : Int), (200 : Int), x237] : (List Int)))).bind fun x247 => ((t__law_draw p_script ((160 : Int) + y67) (4 : Int))).bind fun x248 => (ixL x247 x248))).bind fun hold_215 =>
((((t__law_name p_script y67)).bind fun x262 => R.ok (⟨x262, hold_215⟩ : (T2 Str Int)))).bind fun x263 =>
(appR s66 x263).bind fun rooms_249 =>
R.ok rooms_249
noncomputable def t__law_lists (p_script : Scr) (p_many : Int) (p_gates : Int) (p_count : Int) : R (T3 (List (T2 Str Int)) (List Str) (List (T5 Str Str Str Int Int))) :=
let rooms_65 : (List (T2 Str Int)) := ([] : (List (T2 Str Int)))
(((rng1 p_many)).bind fun x476 => (foldR (t__law_lists_b2 p_script) x476 rooms_65).bind fun s66 =>
((((rng1 p_gates)).bind fun x272 => (cmpR x272 fun y265 => (t__law_name p_script (p_many + y265))))).bind fun exits_264 =>
((((cmpR s66 fun y274 => (R.ok y274.a))).bind fun x275 => (catL x275 exits_264))).bind fun places_273 =>
let ways_276 : (List (T5 Str Str Str Int Int)) := ([] : (List (T5 Str Str Str Int Int)))
(((rng1 p_count)).bind fun x475 => (foldR (t__law_lists_b8 p_script p_many p_gates places_273) x475 ways_276).bind fun s277 =>
R.ok (⟨s66, exits_264, s277⟩ : (T3 (List (T2 Str Int)) (List Str) (List (T5 Str Str Str Int Int))))))
noncomputable def t_is_name_b3 (y540 : Str) (s539 : Unit) : R (Lp Unit Bool) :=
(if (!inS y540 ("abcdefghijklmnopqrstuvwxyz0123456789" : Str)) = true then (
R.ok (Lp.rt false)) else (
R.ok (Lp.nx ())))
noncomputable def t_is_name (p_text : Str) : R Bool :=
(iteR (orR (((lenS p_text)).bind fun x535 => R.ok (decide (x535 < (1 : Int)))) (orR (((lenS p_text)).bind fun x536 => R.ok (decide ((12 : Int) < x536))) (((ixS p_text (0 : Int))).bind fun x537 => R.ok (!inS x537 ("abcdefghijklmnopqrstuvwxyz" : Str))))) (
R.ok false) (
(forR t_is_name_b3 (sgn p_text) ()).then fun s539 =>
R.ok true))
noncomputable def t__check_rooms_b3 (y534 : (T2 Str Int)) (s533 : Unit) : R Unit :=
(iteR (((t_is_name y534.a)).bind fun x551 => R.ok (!x551)) (
R.ex ⟨("BadHouse" : Str), []⟩) (
(if ((decide (y534.b < (0 : Int))) || (decide ((200 : Int) < y534.b))) = true then (
((jnR [(R.ok ("the hold of " : Str)), (fmtS y534.a), (R.ok (" is not from 0 to " : Str)), (strI (200 : Int))] Str.empty)).bind fun _ => R.ex ⟨("BadHouse" : Str), []⟩) else (
R.ok ()))))
noncomputable def t__check_rooms (p_rooms : (Tup (T2 Str Int))) : R Unit :=
(if ((decide ((len p_rooms.l) < (1 : Int))) || (decide ((8 : Int) < (len p_rooms.l)))) = true then (
((jnR [(R.ok ("a house has 1 to " : Str)), (strI (8 : Int)), (R.ok (" rooms" : Str))] Str.empty)).bind fun _ => R.ex ⟨("BadHouse" : Str), []⟩) else (
(foldR t__check_rooms_b3 p_rooms.l ()).bind fun s533 =>
R.ok ()))
noncomputable def t__check_exits_b3 (y557 : Str) (s556 : Unit) : R Unit :=
(iteR (((t_is_name y557)).bind fun x565 => R.ok (!x565)) (
R.ex ⟨("BadHouse" : Str), []⟩) (
R.ok ()))
noncomputable def t__check_exits (p_exits : (Tup Str)) : R Unit :=
(if ((decide ((len p_exits.l) < (1 : Int))) || (decide ((4 : Int) < (len p_exits.l)))) = true then (
((jnR [(R.ok ("a house has 1 to " : Str)), (strI (4 : Int)), (R.ok (" exits" : Str))] Str.empty)).bind fun _ => R.ex ⟨("BadHouse" : Str), []⟩) else (
(foldR t__check_exits_b3 p_exits.l ()).bind fun s556 =>
R.ok ()))
noncomputable def t__check_ways_b3 (p_rooms : (List Str)) (p_exits : (List Str)) (y571 : (T5 Str Str Str Int Int)) (s570 : Unit) : R Unit :=
(iteR (((t_is_name y571.a)).bind fun x580 => R.ok (!x580)) (
R.ex ⟨("BadHouse" : Str), []⟩) (
(if (!inL y571.b p_rooms) = true then (
((jnR [(R.ok ("the start of " : Str)), (fmtS y571.a), (R.ok (" is no room" : Str))] Str.empty)).bind fun _ => R.ex ⟨("BadHouse" : Str), []⟩) else (
(iteR (if (eqC y571.c y571.b) = true then R.ok true else (((catL p_rooms p_exits)).bind fun x581 => R.ok (!inL y571.c x581))) (
((jnR [(R.ok ("the end of " : Str)), (fmtS y571.a), (R.ok (" is its start, or no place" : Str))] Str.empty)).bind fun _ => R.ex ⟨("BadHouse" : Str), []⟩) (
(if ((decide (y571.d < (0 : Int))) || (decide ((50 : Int) < y571.d))) = true then (
((jnR [(R.ok ("the width of " : Str)), (fmtS y571.a), (R.ok (" is not from 0 to " : Str)), (strI (50 : Int))] Str.empty)).bind fun _ => R.ex ⟨("BadHouse" : Str), []⟩) else (
(if ((decide (y571.e < (1 : Int))) || (decide ((5 : Int) < y571.e))) = true then (
((jnR [(R.ok ("the time of " : Str)), (fmtS y571.a), (R.ok (" is not from 1 to " : Str)), (strI (5 : Int))] Str.empty)).bind fun _ => R.ex ⟨("BadHouse" : Str), []⟩) else (
R.ok ()))))))))))
noncomputable def t__check_ways (p_ways : (Tup (T5 Str Str Str Int Int))) (p_rooms : (List Str)) (p_exits : (List Str)) : R Unit :=
(if (decide ((20 : Int) < (len p_ways.l))) = true then (
((jnR [(R.ok ("a house has at most " : Str)), (strI (20 : Int)), (R.ok (" ways" : Str))] Str.empty)).bind fun _ => R.ex ⟨("BadHouse" : Str), []⟩) else (
(foldR (t__check_ways_b3 p_rooms p_exits) p_ways.l ()).bind fun s570 =>
R.ok ()))
noncomputable def t_House___init__ (p_rooms : (List (T2 Str Int))) (p_exits : (List Str)) (p_ways : (List (T5 Str Str Str Int Int))) : R O_House :=
((((cmpR p_rooms fun y500 => (R.ok (⟨y500.a, y500.b⟩ : (T2 Str Int))))).bind fun x507 => R.ok (⟨x507⟩ : (Tup (T2 Str Int))))).bind fun rooms_508 =>
let exits_509 : (Tup Str) := (⟨p_exits⟩ : (Tup Str))
((((cmpR p_ways fun y510 => (R.ok (⟨y510.a, y510.b, y510.c, y510.d, y510.e⟩ : (T5 Str Str Str Int Int))))).bind fun x526 => R.ok (⟨x526⟩ : (Tup (T5 Str Str Str Int Int))))).bind fun ways_527 =>
((cmpR rooms_508.l fun y529 => (R.ok y529.a))).bind fun room_names_528 =>
let exit_names_530 : (List Str) := exits_509.l
((cmpR ways_527.l fun y532 => (R.ok y532.a))).bind fun way_names_531 =>
((t__check_rooms rooms_508)).bind fun u555 =>
((t__check_exits exits_509)).bind fun u569 =>
((t__check_ways ways_527 room_names_528 exit_names_530)).bind fun u591 =>
((((catL room_names_528 exit_names_530)).bind fun x593 => (catL x593 way_names_531))).bind fun names_592 =>
(iteR (((setLen names_592)).bind fun x594 => R.ok (decide (x594 < (len names_592)))) (
R.ex ⟨("BadHouse" : Str), []⟩) (
((cmdR (enumI 0 room_names_528) (fun y595 => (R.ok y595.b)) fun y595 => (R.ok y595.a))).bind fun _room_at_596 =>
((cmdR (enumI 0 exit_names_530) (fun y597 => (R.ok y597.b)) fun y597 => (R.ok y597.a))).bind fun _exit_at_598 =>
((cmdR (enumI 0 way_names_531) (fun y599 => (R.ok y599.b)) fun y599 => (R.ok y599.a))).bind fun _way_at_600 =>
R.ok (⟨rooms_508, exits_509, ways_527, _room_at_596, _exit_at_598, _way_at_600⟩ : O_House)))
noncomputable def t__law_kept_b8 (p_house : O_House) (p_ways : (List (T5 Str Str Str Int Int))) (y642 : Int) (s641 : Unit) : R (Lp Unit Bool) :=
(iteR (((((ixL p_house.f_ways.l y642)).bind fun x659 => ((ixL p_ways y642)).bind fun x660 => (t__law_same_3 x659 x660))).bind fun x661 => R.ok (!x661)) (
R.ok (Lp.rt false)) (
R.ok (Lp.nx ())))
noncomputable def t__law_kept_b5 (p_house : O_House) (p_rooms : (List (T2 Str Int))) (y620 : Int) (s619 : Unit) : R (Lp Unit Bool) :=
(iteR (((((ixL p_house.f_rooms.l y620)).bind fun x637 => ((ixL p_rooms y620)).bind fun x638 => (t__law_same_2 x637 x638))).bind fun x639 => R.ok (!x639)) (
R.ok (Lp.rt false)) (
R.ok (Lp.nx ())))
noncomputable def t__law_kept (p_house : O_House) (p_rooms : (List (T2 Str Int))) (p_exits : (List Str)) (p_ways : (List (T5 Str Str Str Int Int))) : R Bool :=
(if ((!true) || ((!true) || (!true))) = true then (
R.ok false) else (
(iteR (if (!eqC (len p_house.f_rooms.l) (len p_rooms)) = true then R.ok true else (if (!eqC (len p_house.f_ways.l) (len p_ways)) = true then R.ok true else (((t__law_same p_house.f_exits p_exits)).bind fun x617 => R.ok (!x617)))) (
R.ok false) (
(((rng1 (len p_rooms))).bind fun x665 => (forR (t__law_kept_b5 p_house p_rooms) x665 ()).then fun s619 =>
(((rng1 (len p_ways))).bind fun x664 => (forR (t__law_kept_b8 p_house p_ways) x664 ()).then fun s641 =>
R.ok true))))))
noncomputable def t__law_swap (p_word : Str) (p_old : Str) (p_new : Str) : R Str :=
(if (eqC p_word p_old) = true then (
R.ok p_new) else (
R.ok p_word))
noncomputable def t__law_renamed_b4 (p_old : Str) (p_new : Str) (y742 : (T5 Str Str Str Int Int)) (s741 : (List (T5 Str Str Str Int Int))) : R (List (T5 Str Str Str Int Int)) :=
((((t__law_swap y742.b p_old p_new)).bind fun x822 => ((t__law_swap y742.c p_old p_new)).bind fun x823 => R.ok (⟨x822, x823⟩ : (T2 Str Str)))).bind fun ends_797 =>
((((t__law_swap y742.a p_old p_new)).bind fun x849 => R.ok (⟨x849, ends_797.a, ends_797.b, y742.d, y742.e⟩ : (T5 Str Str Str Int Int)))).bind fun x850 =>
(appR s741 x850).bind fun ways_824 =>
R.ok ways_824
noncomputable def t__law_renamed (p_parts : (T3 (List (T2 Str Int)) (List Str) (List (T5 Str Str Str Int Int)))) (p_old : Str) (p_new : Str) : R (T3 (List (T2 Str Int)) (List Str) (List (T5 Str Str Str Int Int))) :=
((cmpR p_parts.a fun y710 => (((t__law_swap y710.a p_old p_new)).bind fun x728 => R.ok (⟨x728, y710.b⟩ : (T2 Str Int))))).bind fun rooms_709 =>
((cmpR p_parts.b fun y730 => (t__law_swap y730 p_old p_new))).bind fun exits_729 =>
let ways_740 : (List (T5 Str Str Str Int Int)) := ([] : (List (T5 Str Str Str Int Int)))
(foldR (t__law_renamed_b4 p_old p_new) p_parts.c ways_740).bind fun s741 =>
R.ok (⟨rooms_709, exits_729, s741⟩ : (T3 (List (T2 Str Int)) (List Str) (List (T5 Str Str Str Int Int))))
noncomputable def t__law_odd (p_script : Scr) (p_k : Int) (p_word : Str) : R Str :=
((t__law_draw p_script p_k (10 : Int))).bind fun kind_861 =>
((((lenS p_word)).bind fun x881 => (t__law_draw p_script (p_k + (1 : Int)) x881))).bind fun spot_871 =>
let marks_882 : Str := (" !\"#$&'()*+,-./:;<=>?\u0040[\\]^_`{|}~" : Str)
(if (eqC kind_861 (0 : Int)) = true then (
R.ok ("" : Str)) else (
(if (eqC kind_861 (1 : Int)) = true then (
((slS p_word none (some (1 : Int)))).bind fun v884 => R.ok v884) else (
(if (eqC kind_861 (2 : Int)) = true then (
((((catS p_word ("abcdefghij0" : Str))).bind fun x885 => (slS x885 none (some (12 : Int))))).bind fun v886 => R.ok v886) else (
(if (eqC kind_861 (3 : Int)) = true then (
((((catS p_word ("abcdefghijk0" : Str))).bind fun x887 => (slS x887 none (some (13 : Int))))).bind fun v888 => R.ok v888) else (
(if (eqC kind_861 (4 : Int)) = true then (
((((((slS p_word none (some spot_871))).bind fun x899 => ((((t__law_draw p_script (p_k + (2 : Int)) (26 : Int))).bind fun x898 => (ixS ("ABCDEFGHIJKLMNOPQRSTUVWXYZ" : Str) x898))).bind fun x900 => (catS x899 x900))).bind fun x901 => ((slS p_word (some (spot_871 + (1 : Int))) none)).bind fun x902 => (catS x901 x902))).bind fun v903 => R.ok v903) else (
(if (eqC kind_861 (5 : Int)) = true then (
((((((t__law_draw p_script (p_k + (2 : Int)) (10 : Int))).bind fun x913 => (ixS ("0123456789" : Str) x913))).bind fun x914 => ((slS p_word (some (1 : Int)) none)).bind fun x915 => (catS x914 x915))).bind fun v916 => R.ok v916) else (
(if (eqC kind_861 (6 : Int)) = true then (
((((slS p_word none (some (11 : Int)))).bind fun x917 => (catS x917 ("\n" : Str)))).bind fun v918 => R.ok v918) else (
(if (eqC kind_861 (7 : Int)) = true then (
((((slS p_word none (some (11 : Int)))).bind fun x919 => (catS x919 (" " : Str)))).bind fun v920 => R.ok v920) else (
(if (eqC kind_861 (8 : Int)) = true then (
((((slS p_word none (some (11 : Int)))).bind fun x921 => (catS (" " : Str) x921))).bind fun v922 => R.ok v922) else (
((((((slS p_word none (some spot_871))).bind fun x934 => ((((((lenS marks_882)).bind fun x932 => (t__law_draw p_script (p_k + (2 : Int)) x932))).bind fun x933 => (ixS marks_882 x933))).bind fun x935 => (catS x934 x935))).bind fun x936 => ((slS p_word (some (spot_871 + (1 : Int))) none)).bind fun x937 => (catS x936 x937))).bind fun v938 => R.ok v938))))))))))))))))))
noncomputable def t__law_way_changed (p_script : Scr) (p_k : Int) (p_parts : (T3 (List (T2 Str Int)) (List Str) (List (T5 Str Str Str Int Int)))) (p_kind : Int) : R (T3 (List (T2 Str Int)) (List Str) (List (T5 Str Str Str Int Int))) :=
((t__law_draw p_script p_k (len p_parts.c))).bind fun at_1057 =>
((ixL p_parts.c at_1057)).bind fun way_1067 =>
((t__law_draw p_script (p_k + (1 : Int)) (10000 : Int))).bind fun far_1068 =>
((t__law_draw p_script (p_k + (2 : Int)) (6 : Int))).bind fun choice_1078 =>
((((t__law_draw p_script (p_k + (1 : Int)) (len p_parts.b))).bind fun x1098 => (ixL p_parts.b x1098))).bind fun gate_1088 =>
R.bind (α := (T5 Str Str Str Int Int)) ((if (eqC p_kind (0 : Int)) = true then (
((((ixL ([(-(1 : Int)), (0 : Int), (50 : Int), (51 : Int), ((-(1 : Int)) - far_1068), ((51 : Int) + far_1068)] : (List Int)) choice_1078)).bind fun x1169 => R.ok (⟨way_1067.a, way_1067.b, way_1067.c, x1169, way_1067.e⟩ : (T5 Str Str Str Int Int)))).bind fun way_1135 =>
R.ok way_1135) else (
R.ok way_1067))) fun s1134 =>
R.bind (α := (T5 Str Str Str Int Int)) ((if (eqC p_kind (1 : Int)) = true then (
((((ixL ([(0 : Int), (1 : Int), (5 : Int), (6 : Int), ((-(1 : Int)) - far_1068), ((6 : Int) + far_1068)] : (List Int)) choice_1078)).bind fun x1240 => R.ok (⟨s1134.a, s1134.b, s1134.c, s1134.d, x1240⟩ : (T5 Str Str Str Int Int)))).bind fun way_1206 =>
R.ok way_1206) else (
R.ok s1134))) fun s1205 =>
R.bind (α := (T5 Str Str Str Int Int)) ((if (eqC p_kind (2 : Int)) = true then (
((((((((t__law_name p_script (35 : Int))).bind fun x1328 => R.ok ([gate_1088, gate_1088, x1328, s1205.a, gate_1088, ("" : Str)] : (List Str)))).bind fun x1329 => (ixL x1329 choice_1078))).bind fun x1345 => R.ok (⟨s1205.a, x1345, s1205.c, s1205.d, s1205.e⟩ : (T5 Str Str Str Int Int)))).bind fun way_1303 =>
(if (eqC way_1303.b way_1303.c) = true then (
((((((ixL p_parts.a (0 : Int))).bind fun x1347 => R.ok x1347.a)).bind fun x1363 => R.ok (⟨way_1303.a, way_1303.b, x1363, way_1303.d, way_1303.e⟩ : (T5 Str Str Str Int Int)))).bind fun way_1346 =>
R.ok way_1346) else (
R.ok way_1303))) else (
R.ok s1205))) fun s1302 =>
R.bind (α := (T5 Str Str Str Int Int)) ((if (eqC p_kind (3 : Int)) = true then (
((((((t__law_draw p_script (p_k + (1 : Int)) (len p_parts.c))).bind fun x1430 => (ixL p_parts.c x1430))).bind fun x1431 => R.ok x1431.a)).bind fun other_1420 =>
((((((((t__law_name p_script (35 : Int))).bind fun x1457 => R.ok ([s1302.b, s1302.b, x1457, s1302.a, other_1420, ("" : Str)] : (List Str)))).bind fun x1458 => (ixL x1458 choice_1078))).bind fun x1474 => R.ok (⟨s1302.a, s1302.b, x1474, s1302.d, s1302.e⟩ : (T5 Str Str Str Int Int)))).bind fun way_1432 =>
R.ok way_1432) else (
R.ok s1302))) fun s1419 =>
let ways_1475 : (List (T5 Str Str Str Int Int)) := p_parts.c
(putR ways_1475 at_1057 s1419).bind fun ways_1477 =>
R.ok (⟨p_parts.a, p_parts.b, ways_1477⟩ : (T3 (List (T2 Str Int)) (List Str) (List (T5 Str Str Str Int Int))))
noncomputable def t__law_changed (p_script : Scr) (p_k : Int) (p_parts : (T3 (List (T2 Str Int)) (List Str) (List (T5 Str Str Str Int Int)))) : R (T3 (List (T2 Str Int)) (List Str) (List (T5 Str Str Str Int Int))) :=
((t__law_draw p_script p_k (16 : Int))).bind fun kind_683 =>
((((((cmpR p_parts.a fun y694 => (R.ok y694.a))).bind fun x695 => (catL x695 p_parts.b))).bind fun x697 => ((cmpR p_parts.c fun y696 => (R.ok y696.a))).bind fun x698 => (catL x697 x698))).bind fun words_693 =>
((t__law_draw p_script (p_k + (1 : Int)) (len words_693))).bind fun at_699 =>
(if (decide (kind_683 < (4 : Int))) = true then (
((((ixL words_693 at_699)).bind fun x958 => ((((ixL words_693 at_699)).bind fun x948 => (t__law_odd p_script (p_k + (2 : Int)) x948))).bind fun x959 => (t__law_renamed p_parts x958 x959))).bind fun v960 => R.ok v960) else (
(if (decide (kind_683 < (6 : Int))) = true then (
((((((t__law_draw p_script (p_k + (2 : Int)) ((len words_693) - (1 : Int)))).bind fun x971 => R.ok ((at_699 + (1 : Int)) + x971))).bind fun x972 => (modR x972 (len words_693)))).bind fun other_961 =>
((((ixL words_693 at_699)).bind fun x982 => ((ixL words_693 other_961)).bind fun x983 => (t__law_renamed p_parts x982 x983))).bind fun v984 => R.ok v984) else (
(if (eqC kind_683 (6 : Int)) = true then (
((t__law_draw p_script (p_k + (2 : Int)) (10000 : Int))).bind fun far_985 =>
((t__law_draw p_script (p_k + (1 : Int)) (len p_parts.a))).bind fun at_995 =>
let rooms_1005 : (List (T2 Str Int)) := p_parts.a
((((((ixL rooms_1005 at_995)).bind fun x1006 => R.ok x1006.a)).bind fun x1041 => ((((t__law_draw p_script (p_k + (3 : Int)) (6 : Int))).bind fun x1034 => (ixL ([(-(1 : Int)), (0 : Int), (200 : Int), (201 : Int), ((-(1 : Int)) - far_985), ((201 : Int) + far_985)] : (List Int)) x1034))).bind fun x1042 => R.ok (⟨x1041, x1042⟩ : (T2 Str Int)))).bind fun x1055 =>
(putR rooms_1005 at_995 x1055).bind fun rooms_1044 =>
R.ok (⟨rooms_1044, p_parts.b, p_parts.c⟩ : (T3 (List (T2 Str Int)) (List Str) (List (T5 Str Str Str Int Int))))) else (
(if (decide (kind_683 < (13 : Int))) = true then (
(if (eqC (len p_parts.c) (0 : Int)) = true then (
R.ok p_parts) else (
((((ixL ([(0 : Int), (1 : Int), (2 : Int), (3 : Int), (3 : Int), (2 : Int)] : (List Int)) (kind_683 - (7 : Int)))).bind fun x1518 => (t__law_way_changed p_script (p_k + (1 : Int)) p_parts x1518))).bind fun v1519 => R.ok v1519))) else (
(if (eqC kind_683 (13 : Int)) = true then (
((((((t__law_draw p_script (p_k + (1 : Int)) (4 : Int))).bind fun x1541 => (ixL ([(0 : Int), (1 : Int), (8 : Int), (9 : Int)] : (List Int)) x1541))).bind fun x1554 => (t__law_lists p_script x1554 (len p_parts.b) (len p_parts.c)))).bind fun v1555 => R.ok v1555) else (
(if (eqC kind_683 (14 : Int)) = true then (
((((((t__law_draw p_script (p_k + (1 : Int)) (4 : Int))).bind fun x1577 => (ixL ([(0 : Int), (1 : Int), (4 : Int), (5 : Int)] : (List Int)) x1577))).bind fun x1590 => (t__law_lists p_script (len p_parts.a) x1590 (len p_parts.c)))).bind fun v1591 => R.ok v1591) else (
((((((t__law_draw p_script (p_k + (1 : Int)) (4 : Int))).bind fun x1613 => (ixL ([(0 : Int), (20 : Int), (21 : Int), (21 : Int)] : (List Int)) x1613))).bind fun x1626 => (t__law_lists p_script (len p_parts.a) (len p_parts.b) x1626))).bind fun v1627 => R.ok v1627))))))))))))
noncomputable def t__law_is_word_b3 (y1654 : Str) (s1653 : Unit) : R (Lp Unit Bool) :=
(if (!inS y1654 ("abcdefghijklmnopqrstuvwxyz0123456789" : Str)) = true then (
R.ok (Lp.rt false)) else (
R.ok (Lp.nx ())))
noncomputable def t__law_is_word (p_word : Str) : R Bool :=
(iteR (orR (((lenS p_word)).bind fun x1649 => R.ok (decide (x1649 < (1 : Int)))) (orR (((lenS p_word)).bind fun x1650 => R.ok (decide ((12 : Int) < x1650))) (((ixS p_word (0 : Int))).bind fun x1651 => R.ok (!inS x1651 ("abcdefghijklmnopqrstuvwxyz" : Str))))) (
R.ok false) (
(forR t__law_is_word_b3 (sgn p_word) ()).then fun s1653 =>
R.ok true))
noncomputable def t__law_is_house_b11 (p_exits : (List Str)) (starts_1672 : (List Str)) (y1679 : (T5 Str Str Str Int Int)) (s1678 : Unit) : R (Lp Unit Bool) :=
(iteR (if (!inL y1679.b starts_1672) = true then R.ok true else (orR (((catL starts_1672 p_exits)).bind fun x1683 => R.ok (!inL y1679.c x1683)) (R.ok (eqC y1679.b y1679.c)))) (
R.ok (Lp.rt false)) (
(if ((decide (y1679.d < (0 : Int))) || ((decide ((50 : Int) < y1679.d)) || ((decide (y1679.e < (1 : Int))) || (decide ((5 : Int) < y1679.e))))) = true then (
R.ok (Lp.rt false)) else (
R.ok (Lp.nx ())))))
noncomputable def t__law_is_house_b8 (y1675 : (T2 Str Int)) (s1674 : Unit) : R (Lp Unit Bool) :=
(if ((decide (y1675.b < (0 : Int))) || (decide ((200 : Int) < y1675.b))) = true then (
R.ok (Lp.rt false)) else (
R.ok (Lp.nx ())))
noncomputable def t__law_is_house_b4 (words_1641 : (List Str)) (y1648 : Int) (s1647 : Unit) : R (Lp Unit Bool) :=
(iteR (orR (((((ixL words_1641 y1648)).bind fun x1668 => (t__law_is_word x1668))).bind fun x1669 => R.ok (!x1669)) (((ixL words_1641 y1648)).bind fun x1670 => R.ok (inL x1670 (cutP words_1641 none (some y1648))))) (
R.ok (Lp.rt false)) (
R.ok (Lp.nx ())))
noncomputable def t__law_is_house (p_rooms : (List (T2 Str Int))) (p_exits : (List Str)) (p_ways : (List (T5 Str Str Str Int Int))) : R Bool :=
(if ((decide ((len p_rooms) < (1 : Int))) || ((decide ((8 : Int) < (len p_rooms))) || ((decide ((len p_exits) < (1 : Int))) || ((decide ((4 : Int) < (len p_exits))) || (decide ((20 : Int) < (len p_ways))))))) = true then (
R.ok false) else (
((((((cmpR p_rooms fun y1642 => (R.ok y1642.a))).bind fun x1643 => (catL x1643 p_exits))).bind fun x1645 => ((cmpR p_ways fun y1644 => (R.ok y1644.a))).bind fun x1646 => (catL x1645 x1646))).bind fun words_1641 =>
(((rng1 (len words_1641))).bind fun x1687 => (forR (t__law_is_house_b4 words_1641) x1687 ()).then fun s1647 =>
((cmpR p_rooms fun y1673 => (R.ok y1673.a))).bind fun starts_1672 =>
(forR t__law_is_house_b8 p_rooms ()).then fun s1674 =>
(forR (t__law_is_house_b11 p_exits starts_1672) p_ways ()).then fun s1678 =>
R.ok true)))
noncomputable def t__law_made (p_rooms : (List (T2 Str Int))) (p_exits : (List Str)) (p_ways : (List (T5 Str Str Str Int Int))) : R Bool :=
((t__law_is_house p_rooms p_exits p_ways)).bind fun due_1639 =>
let first_1697 : (List (T2 Str Int)) := p_rooms
let second_1698 : (List Str) := p_exits
let third_1699 : (List (T5 Str Str Str Int Int)) := p_ways
R.then (σ := O_House) (tryR (
((t_House___init__ first_1697 second_1698 third_1699)).bind fun house_1714 =>
R.ok (Lp.nx house_1714)) sel_BadHouse fun x1700 => (
(((isxR isx1 x1700)).nox).bind fun other_1724 =>
(((if (!due_1639) = true then (if (!other_1724) = true then (andR (isxR isx3 x1700) (isxR isx5 x1700)) else R.ok false) else R.ok false)).nox).bind fun v1725 => R.ok (Lp.rt v1725))) fun s1713 =>
(iteR (if (!due_1639) = true then R.ok true else (orR (neR first_1697 p_rooms) (orR (neR second_1698 p_exits) (neR third_1699 p_ways)))) (
R.ok false) (
(putR first_1697 (0 : Int) (⟨("zz" : Str), (7 : Int)⟩ : (T2 Str Int))).bind fun first_1734 =>
(appR first_1734 (⟨("zzz" : Str), (8 : Int)⟩ : (T2 Str Int))).bind fun first_1735 =>
(putR second_1698 (0 : Int) ("zzzz" : Str)).bind fun second_1743 =>
(appR second_1743 ("z" : Str)).bind fun second_1744 =>
(appR third_1699 (⟨("y" : Str), ("zz" : Str), ("z" : Str), (1 : Int), (1 : Int)⟩ : (T5 Str Str Str Int Int))).bind fun third_1745 =>
let third_1761 : (List (T5 Str Str Str Int Int)) := third_1745.reverse
((t__law_kept s1713 p_rooms p_exits p_ways)).bind fun v1774 => R.ok v1774))
noncomputable def t_law_b7 (p_script : Scr) (parts_64 : (T3 (List (T2 Str Int)) (List Str) (List (T5 Str Str Str Int Int)))) (y681 : Int) (s680 : Unit) : R (Lp Unit Bool) :=
((((((mulR (10 : Int) y681)).bind fun x1787 => R.ok ((210 : Int) + x1787))).bind fun x1797 => (t__law_changed p_script x1797 parts_64))).bind fun changed_1786 =>
(iteR (((t__law_made changed_1786.a changed_1786.b changed_1786.c)).bind fun x1807 => R.ok (!x1807)) (
R.ok (Lp.rt false)) (
R.ok (Lp.nx ())))
noncomputable def t_law (p_script : Scr) : R Bool :=
((((t__law_draw p_script (0 : Int) (8 : Int))).bind fun x52 => R.ok ((1 : Int) + x52))).bind fun many_1 =>
((((t__law_draw p_script (1 : Int) (4 : Int))).bind fun x63 => R.ok ((1 : Int) + x63))).bind fun gates_53 =>
((((t__law_draw p_script (3 : Int) (21 : Int))).bind fun x498 => (t__law_lists p_script many_1 gates_53 x498))).bind fun parts_64 =>
((t_House___init__ parts_64.a parts_64.b parts_64.c)).bind fun house_499 =>
(iteR (((t__law_kept house_499 parts_64.a parts_64.b parts_64.c)).bind fun x678 => R.ok (!x678)) (
R.ok false) (
(((rng1 (6 : Int))).bind fun x1833 => (forR (t_law_b7 p_script parts_64) x1833 ()).then fun s680 =>
(iteR (((t__law_made parts_64.a parts_64.b parts_64.c)).bind fun x1818 => R.ok (!x1818)) (
R.ok false) (
((t__law_kept house_499 parts_64.a parts_64.b parts_64.c)).bind fun v1832 => R.ok v1832)))))
section
variable {K : PySem.W.Frag}
theorem isi_House (k : Ks K) : IsiC K (He.ga K ("House" : Str)) := ⟨k.fo_House_rooms.1, k.is1_House, k.is2, k.is3, k.is4_House⟩
theorem p_sel_BadHouse (k : Ks K) : Sel K sel_BadHouse (.ref (He.ga K ("BadHouse" : Str))) := sel_of ⟨k.xm_BadHouse_BadHouse, trivial⟩
theorem p_isx1 (k : Ks K) : IsX K isx1 (.tup [(.raw (.ref (He.ga K ("AlarmOver" : Str)))), (.raw (.ref (He.ga K ("BadBook" : Str)))), (.raw (.ref (He.ga K ("BadBounds" : Str)))), (.raw (.ref (He.ga K ("BadClosing" : Str)))), (.raw (.ref (He.ga K ("BadCourse" : Str)))), (.raw (.ref (He.ga K ("BadCover" : Str)))), (.raw (.ref (He.ga K ("BadCrowd" : Str)))), (.raw (.ref (He.ga K ("BadCut" : Str)))), (.raw (.ref (He.ga K ("BadDeed" : Str)))), (.raw (.ref (He.ga K ("BadFire" : Str)))), (.raw (.ref (He.ga K ("BadFloor" : Str)))), (.raw (.ref (He.ga K ("BadHour" : Str)))), (.raw (.ref (He.ga K ("BadLimit" : Str)))), (.raw (.ref (He.ga K ("BadLinks" : Str)))), (.raw (.ref (He.ga K ("BadMinutes" : Str)))), (.raw (.ref (He.ga K ("BadMovement" : Str)))), (.raw (.ref (He.ga K ("BadNeeds" : Str)))), (.raw (.ref (He.ga K ("BadNet" : Str)))), (.raw (.ref (He.ga K ("BadOffers" : Str)))), (.raw (.ref (He.ga K ("BadReport" : Str)))), (.raw (.ref (He.ga K ("BadSigns" : Str)))), (.raw (.ref (He.ga K ("BadTable" : Str)))), (.raw (.ref (He.ga K ("BadTeams" : Str)))), (.raw (.ref (He.ga K ("BadText" : Str)))), (.raw (.ref (He.ga K ("BadTroubles" : Str)))), (.raw (.ref (He.ga K ("BadWalk" : Str)))), (.raw (.ref (He.ga K ("NoFlow" : Str)))), (.raw (.ref (He.ga K ("NoHistory" : Str)))), (.raw (.ref (He.ga K ("NothingToRedo" : Str)))), (.raw (.ref (He.ga K ("NothingToUndo" : Str)))), (.raw (.ref (He.ga K ("ReportClash" : Str)))), (.raw (.ref (He.ga K ("TooLarge" : Str)))), (.raw (.ref (He.ga K ("UnknownName" : Str)))), (.raw (.ref (He.ga K ("UnknownReport" : Str))))]) := isx_of ⟨⟨k.xc_BadHouse, k.isx1_BadHouse⟩, trivial⟩
theorem p_isx3 (k : Ks K) : IsX K isx3 (.raw (.ref (He.ga K ("EverybodyError" : Str)))) := isx_of ⟨⟨k.xc_BadHouse, k.isx3_BadHouse⟩, trivial⟩
theorem p_isx5 (k : Ks K) : IsX K isx5 (.raw (.ty "ValueError")) := isx_of ⟨⟨k.xc_BadHouse, k.isx5_BadHouse⟩, trivial⟩
set_option maxHeartbeats 4000000 in
theorem f__law_draw (k : Ks K) (p_script : Scr) (p_k : Int) (p_size : Int) : FT K (F__law_draw K) [.v (enc K p_script), .v (enc K p_k), .v (enc K p_size)] (t__law_draw p_script p_k p_size) := by
  refine ft_P (show 3 ≤ 8 by decide) fun base => ?_
  have h : TB K base 8 (entA 0 [.v (enc K p_script), .v (enc K p_k), .v (enc K p_size)]) (g__law_draw K) (Post.fn K base) _ :=
    (tb_setP (by decide) (cE (R.ok (min' (len p_script.l) (63 : Int))) (te_cb2 c_min (cE (R.ok (len p_script.l)) (te_cb1 c_lenScr (te_var 0 p_script rfl)) (R.bind_ok _ _)) (te_int (63 : Int))) ((R.bind_ok _ _).trans (R.bind_ok _ _))) (fun count_2 => (tb_setP (by decide) (te_int (0 : Int)) (fun cell_3 => (tb_join (Γj := (fun (s7 : Int) => [(4, .v (enc K s7)), (1, .v (enc K p_k)), (2, .v (enc K p_size)), (3, .v (enc K count_2))])) (tb_ifP (tt_tst (cE (R.ok (decide ((0 : Int) < count_2))) (te_bin o_gt (te_var 3 count_2 rfl) (te_int (0 : Int))) ((R.bind_ok _ _).trans (R.bind_ok _ _))))
 (tb_last (tb_set (by decide) (te_cb1 c_abs (cE ((((modR p_k count_2)).bind fun x9 => (ixL p_script.l x9))) (te_bin o_ixScr (te_var 0 p_script rfl) (cE ((modR p_k count_2)) (te_bin o_mod (te_var 1 p_k rfl) (te_var 3 count_2 rfl)) ((R.bind_ok _ _).trans (R.bind_ok _ _)))) (R.bind_ok _ _))) (fun _ _ _ h => h.pre) (fun cell_8 => (tb_next (t := R.ok cell_8) fun e c h => ⟨_, rfl, h.sub (Sub.cons rfl (Sub.cons rfl (Sub.cons rfl (Sub.cons rfl Sub.nil))))⟩))))
 (tb_next (t := R.ok cell_3) fun e c h => ⟨_, rfl, h.sub (Sub.cons rfl (Sub.cons rfl (Sub.cons rfl (Sub.cons rfl Sub.nil))))⟩)) (fun s7 => (tb_joinE (Γj := (fun (s21 : Unit) => [(4, .v (enc K s7)), (1, .v (enc K p_k)), (2, .v (enc K p_size))])) (tb_if (tt_tst (cE ((((powR (10 : Int) (18 : Int))).bind fun x11 => R.ok (decide (x11 ≤ s7)))) (te_bin o_ge (te_var 4 s7 rfl) (cE ((powR (10 : Int) (18 : Int))) (te_bin o_pow (te_int (10 : Int)) (te_int (18 : Int))) ((R.bind_ok _ _).trans (R.bind_ok _ _)))) (R.bind_ok _ _))) (fun _ _ _ h => h.pre)
 (tb_setP (by decide) (te_var 4 s7 rfl) (fun rest_22 => (tb_fold (b := t__law_draw_b7) (fun (s24 : Int) => [(5, .v (enc K s24)), (4, .v (enc K s7)), (1, .v (enc K p_k)), (2, .v (enc K p_size))]) rest_22 (ti_rng1 (cE ((divR p_k count_2)) (te_bin o_div (te_var 1 p_k rfl) (te_var 3 count_2 rfl)) ((R.bind_ok _ _).trans (R.bind_ok _ _)))) (fun _ _ _ h => h.pre) (Sub.cons rfl (Sub.cons rfl (Sub.cons rfl (Sub.cons rfl Sub.nil)))) (fun _ => rfl) (fun y25 s24 => ⟨_, (tg_nm (by decide)), (cB (t__law_draw_b7 y25 s24) (tb_last (tb_set (by decide) (cE ((divR s24 (10000 : Int))) (te_bin o_div (te_var 5 s24 rfl) (te_int (10000 : Int))) ((R.bind_ok _ _).trans (R.bind_ok _ _))) (fun _ _ _ h => h.pre) (fun rest_27 => (tb_next (t := R.ok rest_27) fun e c h => ⟨_, rfl, h.sub (Sub.cons rfl (Sub.cons rfl (Sub.cons rfl (Sub.cons rfl Sub.nil))))⟩)))) rfl)⟩) (fun s24 => (tb_ifP (tt_tst (cE (R.ok (decide ((0 : Int) < s24))) (te_bin o_gt (te_var 5 s24 rfl) (te_int (0 : Int))) ((R.bind_ok _ _).trans (R.bind_ok _ _))))
 (tb_last (tb_ret (l := fun v29 => R.ok (Lp.rt v29)) (cE ((((modR s24 (10000 : Int))).bind fun x28 => (modR x28 p_size))) (te_bin o_mod (cE ((modR s24 (10000 : Int))) (te_bin o_mod (te_intI (te_var 5 s24 rfl)) (te_int (10000 : Int))) ((R.bind_ok _ _).trans (R.bind_ok _ _))) (te_var 2 p_size rfl)) (congrArg (R.bind _) (funext fun _ => (R.bind_ok _ _)))) (fun _ _ _ h => h.pre) (fun v29 c p hp hq => ⟨_, rfl, ⟨hp, _, rfl, hq⟩⟩)))
 (tb_next (t := R.ok (Lp.nx ())) fun e c h => ⟨_, rfl, h.sub (Sub.cons rfl (Sub.cons rfl (Sub.cons rfl Sub.nil)))⟩))))))
 (tb_next (t := R.ok (Lp.nx ())) fun e c h => ⟨_, rfl, h.sub (Sub.cons rfl (Sub.cons rfl (Sub.cons rfl Sub.nil)))⟩)) (fun s21 => (tb_set (by decide) (cE ((((((((mulR (7919 : Int) p_k)).bind fun x32 => R.ok (s7 + x32))).bind fun x33 => R.ok (x33 + (13 : Int)))).bind fun x34 => (modR x34 (2147483647 : Int)))) (te_bin o_mod (te_intI (cE ((((((mulR (7919 : Int) p_k)).bind fun x32 => R.ok (s7 + x32))).bind fun x33 => R.ok (x33 + (13 : Int)))) (te_bin o_add (cE ((((mulR (7919 : Int) p_k)).bind fun x32 => R.ok (s7 + x32))) (te_bin o_add (te_var 4 s7 rfl) (cE ((mulR (7919 : Int) p_k)) (te_bin o_mul (te_int (7919 : Int)) (te_var 1 p_k rfl)) ((R.bind_ok _ _).trans (R.bind_ok _ _)))) (R.bind_ok _ _)) (te_int (13 : Int))) (congrArg (R.bind _) (funext fun _ => (R.bind_ok _ _))))) (te_int (2147483647 : Int))) (congrArg (R.bind _) (funext fun _ => (R.bind_ok _ _)))) (fun _ _ _ h => h.pre) (fun mixed_31 => (tb_set (by decide) (cE ((((mulR mixed_31 (mixed_31 + (48271 : Int)))).bind fun x36 => (modR x36 (2147483629 : Int)))) (te_bin o_mod (te_intI (cE ((mulR mixed_31 (mixed_31 + (48271 : Int)))) (te_bin o_mul (te_var 7 mixed_31 rfl) (cE (R.ok (mixed_31 + (48271 : Int))) (te_bin o_add (te_var 7 mixed_31 rfl) (te_int (48271 : Int))) ((R.bind_ok _ _).trans (R.bind_ok _ _)))) ((R.bind_ok _ _).trans (R.bind_ok _ _)))) (te_int (2147483629 : Int))) (congrArg (R.bind _) (funext fun _ => (R.bind_ok _ _)))) (fun _ _ _ h => h.pre) (fun mixed_35 => (tb_set (by decide) (cE ((((((mulR mixed_35 (mixed_35 + (69621 : Int)))).bind fun x38 => ((mulR (31 : Int) p_k)).bind fun x39 => R.ok (x38 + x39))).bind fun x40 => (modR x40 (2147483647 : Int)))) (te_bin o_mod (te_intI (te_bin o_add (cE ((mulR mixed_35 (mixed_35 + (69621 : Int)))) (te_bin o_mul (te_var 7 mixed_35 rfl) (cE (R.ok (mixed_35 + (69621 : Int))) (te_bin o_add (te_var 7 mixed_35 rfl) (te_int (69621 : Int))) ((R.bind_ok _ _).trans (R.bind_ok _ _)))) ((R.bind_ok _ _).trans (R.bind_ok _ _))) (cE ((mulR (31 : Int) p_k)) (te_bin o_mul (te_int (31 : Int)) (te_var 1 p_k rfl)) ((R.bind_ok _ _).trans (R.bind_ok _ _))))) (te_int (2147483647 : Int))) (congrArg (R.bind _) (funext fun _ => (R.bind_ok _ _)))) (fun _ _ _ h => h.pre) (fun mixed_37 => (tb_last (tb_ret (l := fun v42 => R.ok v42) (cE ((((divR mixed_37 (9 : Int))).bind fun x41 => (modR x41 p_size))) (te_bin o_mod (te_intI (cE ((divR mixed_37 (9 : Int))) (te_bin o_div (te_var 7 mixed_37 rfl) (te_int (9 : Int))) ((R.bind_ok _ _).trans (R.bind_ok _ _)))) (te_var 2 p_size rfl)) (congrArg (R.bind _) (funext fun _ => (R.bind_ok _ _)))) (fun _ _ _ h => h.pre) (fun v42 c p hp hq => ⟨hp, _, rfl, hq⟩)))))))))))))))))
  exact h
set_option maxHeartbeats 4000000 in
theorem f__law_name (k : Ks K) (p_script : Scr) (p_at : Int) : FT K (F__law_name K) [.v (enc K p_script), .v (enc K p_at)] (t__law_name p_script p_at) := by
  refine ft_P (show 2 ≤ 7 by decide) fun base => ?_
  have h : TB K base 7 (entA 0 [.v (enc K p_script), .v (enc K p_at)]) (g__law_name K) (Post.fn K base) _ :=
    (tb_setP (by decide) (te_str ("abcdefghijklmnopqrstuvwxyz0123456789" : Str)) (fun letters_103 => (tb_set (by decide) (cE ((((t__law_draw p_script (900 : Int) (4 : Int))).bind fun x114 => R.ok ((1 : Int) + x114))) (te_bin o_add (te_int (1 : Int)) (cE ((t__law_draw p_script (900 : Int) (4 : Int))) (te_call (ta_cons (te_var 0 p_script rfl) fun x111 => (ta_cons (te_int (900 : Int)) fun x112 => (ta_cons (te_int (4 : Int)) fun x113 => (ta_nil fun cs hc d107 h110 d106 h109 d105 h108 => f__law_draw k x111 x112 x113 cs [d105, d106, d107] hc ⟨d105, [d106, d107], rfl, h108, ⟨d106, [d107], rfl, h109, ⟨d107, [], rfl, h110, rfl⟩⟩⟩))))) ((R.bind_ok _ _).trans ((R.bind_ok _ _).trans (R.bind_ok _ _))))) (R.bind_ok _ _)) (fun _ _ _ h => h.pre) (fun spot_104 => (tb_set (by decide) (cE ((((t__law_draw p_script ((901 : Int) + p_at) ((12 : Int) - spot_104))).bind fun x125 => R.ok ((spot_104 + (1 : Int)) + x125))) (te_bin o_add (cE (R.ok (spot_104 + (1 : Int))) (te_bin o_add (te_var 3 spot_104 rfl) (te_int (1 : Int))) ((R.bind_ok _ _).trans (R.bind_ok _ _))) (cE ((t__law_draw p_script ((901 : Int) + p_at) ((12 : Int) - spot_104))) (te_call (ta_cons (te_var 0 p_script rfl) fun x122 => (ta_cons (cE (R.ok ((901 : Int) + p_at)) (te_bin o_add (te_int (901 : Int)) (te_var 1 p_at rfl)) ((R.bind_ok _ _).trans (R.bind_ok _ _))) fun x123 => (ta_cons (cE (R.ok ((12 : Int) - spot_104)) (te_bin o_sub (te_int (12 : Int)) (te_var 3 spot_104 rfl)) ((R.bind_ok _ _).trans (R.bind_ok _ _))) fun x124 => (ta_nil fun cs hc d118 h121 d117 h120 d116 h119 => f__law_draw k x122 x123 x124 cs [d116, d117, d118] hc ⟨d116, [d117, d118], rfl, h119, ⟨d117, [d118], rfl, h120, ⟨d118, [], rfl, h121, rfl⟩⟩⟩))))) ((R.bind_ok _ _).trans ((R.bind_ok _ _).trans (R.bind_ok _ _))))) (R.bind_ok _ _)) (fun _ _ _ h => h.pre) (fun size_115 => (tb_set (by decide) (cE ((((t__law_draw p_script ((940 : Int) + p_at) (26 : Int))).bind fun x136 => (ixS letters_103 x136))) (te_bin o_ixS (te_var 2 letters_103 rfl) (cE ((t__law_draw p_script ((940 : Int) + p_at) (26 : Int))) (te_call (ta_cons (te_var 0 p_script rfl) fun x133 => (ta_cons (cE (R.ok ((940 : Int) + p_at)) (te_bin o_add (te_int (940 : Int)) (te_var 1 p_at rfl)) ((R.bind_ok _ _).trans (R.bind_ok _ _))) fun x134 => (ta_cons (te_int (26 : Int)) fun x135 => (ta_nil fun cs hc d129 h132 d128 h131 d127 h130 => f__law_draw k x133 x134 x135 cs [d127, d128, d129] hc ⟨d127, [d128, d129], rfl, h130, ⟨d128, [d129], rfl, h131, ⟨d129, [], rfl, h132, rfl⟩⟩⟩))))) ((R.bind_ok _ _).trans ((R.bind_ok _ _).trans (R.bind_ok _ _))))) (R.bind_ok _ _)) (fun _ _ _ h => h.pre) (fun word_126 => (tb_fold (b := (t__law_name_b5 p_script p_at letters_103 spot_104)) (fun (s137 : Str) => [(5, .v (enc K s137)), (0, .v (enc K p_script)), (1, .v (enc K p_at)), (2, .v (enc K letters_103)), (3, .v (enc K spot_104))]) word_126 (cE ((rng2 (1 : Int) size_115)) (ti_rng2 (te_int (1 : Int)) (te_var 4 size_115 rfl)) ((R.bind_ok _ _).trans (R.bind_ok _ _))) (fun _ _ _ h => h.pre) (Sub.cons rfl (Sub.cons rfl (Sub.cons rfl (Sub.cons rfl (Sub.cons rfl Sub.nil))))) (fun _ => rfl) (fun y138 s137 => ⟨_, (tg_nm (by decide)), (cB ((t__law_name_b5 p_script p_at letters_103 spot_104) y138 s137) (tb_ifP (tt_tst (cE (R.ok (eqC y138 spot_104)) (te_bin o_eqS (te_var 6 y138 rfl) (te_var 3 spot_104 rfl)) ((R.bind_ok _ _).trans (R.bind_ok _ _))))
 (tb_last (tb_set (by decide) (cE ((((((((((mulR p_at (7 : Int))).bind fun x179 => ((t__law_draw p_script (980 : Int) (36 : Int))).bind fun x180 => R.ok (x179 + x180))).bind fun x181 => (modR x181 (36 : Int)))).bind fun x182 => (ixS letters_103 x182))).bind fun x183 => (catS s137 x183))) (te_bin o_catS (te_var 5 s137 rfl) (cE ((((((((mulR p_at (7 : Int))).bind fun x179 => ((t__law_draw p_script (980 : Int) (36 : Int))).bind fun x180 => R.ok (x179 + x180))).bind fun x181 => (modR x181 (36 : Int)))).bind fun x182 => (ixS letters_103 x182))) (te_bin o_ixS (te_var 2 letters_103 rfl) (cE ((((((mulR p_at (7 : Int))).bind fun x179 => ((t__law_draw p_script (980 : Int) (36 : Int))).bind fun x180 => R.ok (x179 + x180))).bind fun x181 => (modR x181 (36 : Int)))) (te_bin o_mod (te_intI (te_bin o_add (cE ((mulR p_at (7 : Int))) (te_bin o_mul (te_var 1 p_at rfl) (te_int (7 : Int))) ((R.bind_ok _ _).trans (R.bind_ok _ _))) (cE ((t__law_draw p_script (980 : Int) (36 : Int))) (te_call (ta_cons (te_var 0 p_script rfl) fun x176 => (ta_cons (te_int (980 : Int)) fun x177 => (ta_cons (te_int (36 : Int)) fun x178 => (ta_nil fun cs hc d172 h175 d171 h174 d170 h173 => f__law_draw k x176 x177 x178 cs [d170, d171, d172] hc ⟨d170, [d171, d172], rfl, h173, ⟨d171, [d172], rfl, h174, ⟨d172, [], rfl, h175, rfl⟩⟩⟩))))) ((R.bind_ok _ _).trans ((R.bind_ok _ _).trans (R.bind_ok _ _)))))) (te_int (36 : Int))) (congrArg (R.bind _) (funext fun _ => (R.bind_ok _ _))))) (R.bind_ok _ _))) (R.bind_ok _ _)) (fun _ _ _ h => h.pre) (fun word_169 => (tb_next (t := R.ok word_169) fun e c h => ⟨_, rfl, h.sub (Sub.cons rfl (Sub.cons rfl (Sub.cons rfl (Sub.cons rfl (Sub.cons rfl Sub.nil)))))⟩))))
 (tb_last (tb_set (by decide) (cE ((((((((((((mulR (12 : Int) p_at)).bind fun x185 => R.ok ((1000 : Int) + x185))).bind fun x186 => R.ok (x186 + y138))).bind fun x196 => (t__law_draw p_script x196 (36 : Int)))).bind fun x197 => (ixS letters_103 x197))).bind fun x198 => (catS s137 x198))) (te_bin o_catS (te_var 5 s137 rfl) (cE ((((((((((mulR (12 : Int) p_at)).bind fun x185 => R.ok ((1000 : Int) + x185))).bind fun x186 => R.ok (x186 + y138))).bind fun x196 => (t__law_draw p_script x196 (36 : Int)))).bind fun x197 => (ixS letters_103 x197))) (te_bin o_ixS (te_var 2 letters_103 rfl) (cE ((((((((mulR (12 : Int) p_at)).bind fun x185 => R.ok ((1000 : Int) + x185))).bind fun x186 => R.ok (x186 + y138))).bind fun x196 => (t__law_draw p_script x196 (36 : Int)))) (te_call (ta_cons (te_var 0 p_script rfl) fun x193 => (ta_cons (cE ((((((mulR (12 : Int) p_at)).bind fun x185 => R.ok ((1000 : Int) + x185))).bind fun x186 => R.ok (x186 + y138))) (te_bin o_add (cE ((((mulR (12 : Int) p_at)).bind fun x185 => R.ok ((1000 : Int) + x185))) (te_bin o_add (te_int (1000 : Int)) (cE ((mulR (12 : Int) p_at)) (te_bin o_mul (te_int (12 : Int)) (te_var 1 p_at rfl)) ((R.bind_ok _ _).trans (R.bind_ok _ _)))) (R.bind_ok _ _)) (te_var 6 y138 rfl)) (congrArg (R.bind _) (funext fun _ => (R.bind_ok _ _)))) fun x194 => (ta_cons (te_int (36 : Int)) fun x195 => (ta_nil fun cs hc d189 h192 d188 h191 d187 h190 => f__law_draw k x193 x194 x195 cs [d187, d188, d189] hc ⟨d187, [d188, d189], rfl, h190, ⟨d188, [d189], rfl, h191, ⟨d189, [], rfl, h192, rfl⟩⟩⟩))))) ((R.bind_ok _ _).trans (congrArg (R.bind _) (funext fun _ => (R.bind_ok _ _)))))) (R.bind_ok _ _))) (R.bind_ok _ _)) (fun _ _ _ h => h.pre) (fun word_184 => (tb_next (t := R.ok word_184) fun e c h => ⟨_, rfl, h.sub (Sub.cons rfl (Sub.cons rfl (Sub.cons rfl (Sub.cons rfl (Sub.cons rfl Sub.nil)))))⟩))))) rfl)⟩) (fun s137 => (tb_last (tb_retP (t := R.ok s137) (te_var 5 s137 rfl) (fun c p hp hq => ⟨hp, _, rfl, hq⟩)))))))))))))
  exact h
set_option maxHeartbeats 4000000 in
theorem f__law_lists (k : Ks K) (p_script : Scr) (p_many : Int) (p_gates : Int) (p_count : Int) : FT K (F__law_lists K) [.v (enc K p_script), .v (enc K p_many), .v (enc K p_gates), .v (enc K p_count)] (t__law_lists p_script p_many p_gates p_count) := by
  refine ft_P (show 4 ≤ 15 by decide) fun base => ?_
  have h : TB K base 15 (entA 0 [.v (enc K p_script), .v (enc K p_many), .v (enc K p_gates), .v (enc K p_count)]) (g__law_lists K) (Post.fn K base) _ :=
    (tb_ownP (by decide) (te_lstA (ta_nil fun cs hc => ⟨([] : (List (T2 Str Int))), rfl, rfl, small_le (by decide)⟩)) (fun rooms_65 => (tb_fold (b := (t__law_lists_b2 p_script)) (fun (s66 : (List (T2 Str Int))) => [(4, .o none (co K s66)), (0, .v (enc K p_script)), (1, .v (enc K p_many)), (2, .v (enc K p_gates)), (3, .v (enc K p_count))]) rooms_65 (cE ((rng1 p_many)) (ti_rng1 (te_var 1 p_many rfl)) (R.bind_ok _ _)) (fun _ _ _ h => h.pre) (Sub.cons rfl (Sub.cons rfl (Sub.cons rfl (Sub.cons rfl (Sub.cons rfl Sub.nil))))) (fun _ => rfl) (fun y67 s66 => ⟨_, (tg_nm (by decide)), (cB ((t__law_lists_b2 p_script) y67 s66) (tb_set (by decide) (te_bin o_ixL (te_up (te_pub (cE ((((t__law_draw p_script ((10 : Int) + y67) (201 : Int))).bind fun x237 => R.ok ([(0 : Int), (1 : Int), (200 : Int), x237] : (List Int)))) (te_lstA (ta_cons (te_int (0 : Int)) fun x233 => (ta_cons (te_int (1 : Int)) fun x234 => (ta_cons (te_int (200 : Int)) fun x235 => (ta_cons (cE ((t__law_draw p_script ((10 : Int) + y67) (201 : Int))) (te_call (ta_cons (te_var 0 p_script rfl) fun x222 => (ta_cons (cE (R.ok ((10 : Int) + y67)) (te_bin o_add (te_int (10 : Int)) (te_var 5 y67 rfl)) ((R.bind_ok _ _).trans (R.bind_ok _ _))) fun x223 => (ta_cons (te_int (201 : Int)) fun x224 => (ta_nil fun cs hc d218 h221 d217 h220 d216 h219 => f__law_draw k x222 x223 x224 cs [d216, d217, d218] hc ⟨d216, [d217, d218], rfl, h219, ⟨d217, [d218], rfl, h220, ⟨d218, [], rfl, h221, rfl⟩⟩⟩))))) ((R.bind_ok _ _).trans ((R.bind_ok _ _).trans (R.bind_ok _ _)))) fun x236 => (ta_nil fun cs hc d228 h232 d227 h231 d226 h230 d225 h229 => ⟨[x233, x234, x235, x236], rfl, (by rw [h229, h230, h231, h232]; rfl), small_le (show 4 ≤ 1000000 by decide)⟩)))))) ((R.bind_ok _ _).trans ((R.bind_ok _ _).trans (R.bind_ok _ _)))))) (cE ((t__law_draw p_script ((160 : Int) + y67) (4 : Int))) (te_call (ta_cons (te_var 0 p_script rfl) fun x244 => (ta_cons (cE (R.ok ((160 : Int) + y67)) (te_bin o_add (te_int (160 : Int)) (te_var 5 y67 rfl)) ((R.bind_ok _ _).trans (R.bind_ok _ _))) fun x245 => (ta_cons (te_int (4 : Int)) fun x246 => (ta_nil fun cs hc d240 h243 d239 h242 d238 h241 => f__law_draw k x244 x245 x246 cs [d238, d239, d240] hc ⟨d238, [d239, d240], rfl, h241, ⟨d239, [d240], rfl, h242, ⟨d240, [], rfl, h243, rfl⟩⟩⟩))))) ((R.bind_ok _ _).trans ((R.bind_ok _ _).trans (R.bind_ok _ _))))) (fun _ _ _ h => h.pre) (fun hold_215 => (tb_last (tb_mth1 of_list m_append s66 rfl (cE ((((t__law_name p_script y67)).bind fun x262 => R.ok (⟨x262, hold_215⟩ : (T2 Str Int)))) (te_tupA (ta_cons (cE ((t__law_name p_script y67)) (te_call (ta_cons (te_var 0 p_script rfl) fun x254 => (ta_cons (te_var 5 y67 rfl) fun x255 => (ta_nil fun cs hc d251 h253 d250 h252 => f__law_name k x254 x255 cs [d250, d251] hc ⟨d250, [d251], rfl, h252, ⟨d251, [], rfl, h253, rfl⟩⟩)))) ((R.bind_ok _ _).trans (R.bind_ok _ _))) fun x260 => (ta_cons (te_var 6 hold_215 rfl) fun x261 => (ta_nil fun cs hc d257 h259 d256 h258 => ⟨(⟨x260, x261⟩ : (T2 Str Int)), rfl, (by rw [h258, h259]; rfl), small_le (show 2 ≤ 1000000 by decide)⟩)))) (congrArg (R.bind _) (funext fun _ => (R.bind_ok _ _)))) (fun _ _ _ h => h.pre) (fun rooms_249 => (tb_next (t := R.ok rooms_249) fun e c h => ⟨_, rfl, h.sub (Sub.cons rfl (Sub.cons rfl (Sub.cons rfl (Sub.cons rfl (Sub.cons rfl Sub.nil)))))⟩)))))) rfl)⟩) (fun s66 => (tb_set (by decide) (te_pub (te_lcx (tc (cE ((rng1 p_gates)) (ti_rng1 (te_var 2 p_gates rfl)) (R.bind_ok _ _))) (fun y265 => ⟨_, (tg_nm (by decide)), (cE ((t__law_name p_script (p_many + y265))) (te_call (ta_cons (te_var 0 p_script rfl) fun x270 => (ta_cons (cE (R.ok (p_many + y265)) (te_bin o_add (te_var 1 p_many rfl) (te_var 5 y265 rfl)) ((R.bind_ok _ _).trans (R.bind_ok _ _))) fun x271 => (ta_nil fun cs hc d267 h269 d266 h268 => f__law_name k x270 x271 cs [d266, d267] hc ⟨d266, [d267], rfl, h268, ⟨d267, [], rfl, h269, rfl⟩⟩)))) ((R.bind_ok _ _).trans (R.bind_ok _ _)))⟩))) (fun _ _ _ h => h.pre) (fun exits_264 => (tb_set (by decide) (cE ((((cmpR s66 fun y274 => (R.ok y274.a))).bind fun x275 => (catL x275 exits_264))) (te_bin o_catL (te_up (te_pub (cE ((cmpR s66 fun y274 => (R.ok y274.a))) (te_lcx (tc_own 4 s66 rfl) (fun y274 => ⟨_, (tg_nm (by decide)), (cE (R.ok y274.a) (te_prj (k := 0) (fun (x : (T2 Str Int)) => x.a) (fun _ => ⟨_, rfl, rfl⟩) (te_var 14 y274 rfl)) (R.bind_ok _ _))⟩)) (R.bind_ok _ _)))) (te_up (te_var 7 exits_264 rfl))) (congrArg (R.bind _) (funext fun _ => (R.bind_ok _ _)))) (fun _ _ _ h => h.pre) (fun places_273 => (tb_ownP (by decide) (te_lstA (ta_nil fun cs hc => ⟨([] : (List (T5 Str Str Str Int Int))), rfl, rfl, small_le (by decide)⟩)) (fun ways_276 => (tb_fold (b := (t__law_lists_b8 p_script p_many p_gates places_273)) (fun (s277 : (List (T5 Str Str Str Int Int))) => [(9, .o none (co K s277)), (4, .o none (co K s66)), (0, .v (enc K p_script)), (1, .v (enc K p_many)), (2, .v (enc K p_gates)), (7, .v (enc K exits_264)), (8, .v (enc K places_273))]) ways_276 (cE ((rng1 p_count)) (ti_rng1 (te_var 3 p_count rfl)) (R.bind_ok _ _)) (fun _ _ _ h => h.pre) (Sub.cons rfl (Sub.cons rfl (Sub.cons rfl (Sub.cons rfl (Sub.cons rfl (Sub.cons rfl (Sub.cons rfl Sub.nil))))))) (fun _ => rfl) (fun y278 s277 => ⟨_, (tg_nm (by decide)), (cB ((t__law_lists_b8 p_script p_many p_gates places_273) y278 s277) (tb_ifP (tt_andP (tt_tst (cE (R.ok (decide ((0 : Int) < p_many))) (te_bin o_gt (te_var 1 p_many rfl) (te_int (0 : Int))) ((R.bind_ok _ _).trans (R.bind_ok _ _)))) (tt_tst (cE (R.ok (decide ((1 : Int) < (len places_273)))) (te_bin o_gt (cE (R.ok (len places_273)) (te_cb1 c_lenL (te_up (te_var 8 places_273 rfl))) (R.bind_ok _ _)) (te_int (1 : Int))) ((R.bind_ok _ _).trans (R.bind_ok _ _)))))
 (tb_set (by decide) (cE ((t__law_draw p_script ((20 : Int) + y278) p_many)) (te_call (ta_cons (te_var 0 p_script rfl) fun x379 => (ta_cons (cE (R.ok ((20 : Int) + y278)) (te_bin o_add (te_int (20 : Int)) (te_var 5 y278 rfl)) ((R.bind_ok _ _).trans (R.bind_ok _ _))) fun x380 => (ta_cons (te_var 1 p_many rfl) fun x381 => (ta_nil fun cs hc d375 h378 d374 h377 d373 h376 => f__law_draw k x379 x380 x381 cs [d373, d374, d375] hc ⟨d373, [d374, d375], rfl, h376, ⟨d374, [d375], rfl, h377, ⟨d375, [], rfl, h378, rfl⟩⟩⟩))))) ((R.bind_ok _ _).trans ((R.bind_ok _ _).trans (R.bind_ok _ _)))) (fun _ _ _ h => h.pre) (fun start_372 => (tb_set (by decide) (cE ((((((t__law_draw p_script ((50 : Int) + y278) ((len places_273) - (1 : Int)))).bind fun x392 => R.ok ((start_372 + (1 : Int)) + x392))).bind fun x393 => (modR x393 (len places_273)))) (te_bin o_mod (te_intI (cE ((((t__law_draw p_script ((50 : Int) + y278) ((len places_273) - (1 : Int)))).bind fun x392 => R.ok ((start_372 + (1 : Int)) + x392))) (te_bin o_add (cE (R.ok (start_372 + (1 : Int))) (te_bin o_add (te_var 10 start_372 rfl) (te_int (1 : Int))) ((R.bind_ok _ _).trans (R.bind_ok _ _))) (cE ((t__law_draw p_script ((50 : Int) + y278) ((len places_273) - (1 : Int)))) (te_call (ta_cons (te_var 0 p_script rfl) fun x389 => (ta_cons (cE (R.ok ((50 : Int) + y278)) (te_bin o_add (te_int (50 : Int)) (te_var 5 y278 rfl)) ((R.bind_ok _ _).trans (R.bind_ok _ _))) fun x390 => (ta_cons (cE (R.ok ((len places_273) - (1 : Int))) (te_bin o_sub (cE (R.ok (len places_273)) (te_cb1 c_lenL (te_up (te_var 8 places_273 rfl))) (R.bind_ok _ _)) (te_int (1 : Int))) ((R.bind_ok _ _).trans (R.bind_ok _ _))) fun x391 => (ta_nil fun cs hc d385 h388 d384 h387 d383 h386 => f__law_draw k x389 x390 x391 cs [d383, d384, d385] hc ⟨d383, [d384, d385], rfl, h386, ⟨d384, [d385], rfl, h387, ⟨d385, [], rfl, h388, rfl⟩⟩⟩))))) ((R.bind_ok _ _).trans ((R.bind_ok _ _).trans (R.bind_ok _ _))))) (R.bind_ok _ _))) (cE (R.ok (len places_273)) (te_cb1 c_lenL (te_up (te_var 8 places_273 rfl))) (R.bind_ok _ _))) (congrArg (R.bind _) (funext fun _ => (R.bind_ok _ _)))) (fun _ _ _ h => h.pre) (fun end_382 => (tb_set (by decide) (te_bin o_ixL (te_up (te_pub (cE ((((t__law_draw p_script ((80 : Int) + y278) (51 : Int))).bind fun x416 => R.ok ([(0 : Int), (1 : Int), (50 : Int), x416] : (List Int)))) (te_lstA (ta_cons (te_int (0 : Int)) fun x412 => (ta_cons (te_int (1 : Int)) fun x413 => (ta_cons (te_int (50 : Int)) fun x414 => (ta_cons (cE ((t__law_draw p_script ((80 : Int) + y278) (51 : Int))) (te_call (ta_cons (te_var 0 p_script rfl) fun x401 => (ta_cons (cE (R.ok ((80 : Int) + y278)) (te_bin o_add (te_int (80 : Int)) (te_var 5 y278 rfl)) ((R.bind_ok _ _).trans (R.bind_ok _ _))) fun x402 => (ta_cons (te_int (51 : Int)) fun x403 => (ta_nil fun cs hc d397 h400 d396 h399 d395 h398 => f__law_draw k x401 x402 x403 cs [d395, d396, d397] hc ⟨d395, [d396, d397], rfl, h398, ⟨d396, [d397], rfl, h399, ⟨d397, [], rfl, h400, rfl⟩⟩⟩))))) ((R.bind_ok _ _).trans ((R.bind_ok _ _).trans (R.bind_ok _ _)))) fun x415 => (ta_nil fun cs hc d407 h411 d406 h410 d405 h409 d404 h408 => ⟨[x412, x413, x414, x415], rfl, (by rw [h408, h409, h410, h411]; rfl), small_le (show 4 ≤ 1000000 by decide)⟩)))))) ((R.bind_ok _ _).trans ((R.bind_ok _ _).trans (R.bind_ok _ _)))))) (cE ((t__law_draw p_script ((180 : Int) + y278) (4 : Int))) (te_call (ta_cons (te_var 0 p_script rfl) fun x423 => (ta_cons (cE (R.ok ((180 : Int) + y278)) (te_bin o_add (te_int (180 : Int)) (te_var 5 y278 rfl)) ((R.bind_ok _ _).trans (R.bind_ok _ _))) fun x424 => (ta_cons (te_int (4 : Int)) fun x425 => (ta_nil fun cs hc d419 h422 d418 h421 d417 h420 => f__law_draw k x423 x424 x425 cs [d417, d418, d419] hc ⟨d417, [d418, d419], rfl, h420, ⟨d418, [d419], rfl, h421, ⟨d419, [], rfl, h422, rfl⟩⟩⟩))))) ((R.bind_ok _ _).trans ((R.bind_ok _ _).trans (R.bind_ok _ _))))) (fun _ _ _ h => h.pre) (fun width_394 => (tb_set (by decide) (cE ((((t__law_draw p_script ((110 : Int) + y278) (5 : Int))).bind fun x438 => R.ok ((1 : Int) + x438))) (te_bin o_add (te_int (1 : Int)) (cE ((t__law_draw p_script ((110 : Int) + y278) (5 : Int))) (te_call (ta_cons (te_var 0 p_script rfl) fun x435 => (ta_cons (cE (R.ok ((110 : Int) + y278)) (te_bin o_add (te_int (110 : Int)) (te_var 5 y278 rfl)) ((R.bind_ok _ _).trans (R.bind_ok _ _))) fun x436 => (ta_cons (te_int (5 : Int)) fun x437 => (ta_nil fun cs hc d431 h434 d430 h433 d429 h432 => f__law_draw k x435 x436 x437 cs [d429, d430, d431] hc ⟨d429, [d430, d431], rfl, h432, ⟨d430, [d431], rfl, h433, ⟨d431, [], rfl, h434, rfl⟩⟩⟩))))) ((R.bind_ok _ _).trans ((R.bind_ok _ _).trans (R.bind_ok _ _))))) (R.bind_ok _ _)) (fun _ _ _ h => h.pre) (fun time_428 => (tb_last (tb_mth1 of_list m_append s277 rfl (cE ((((t__law_name p_script ((p_many + p_gates) + y278))).bind fun x461 => ((ixL places_273 start_372)).bind fun x462 => ((ixL places_273 end_382)).bind fun x463 => R.ok (⟨x461, x462, x463, width_394, time_428⟩ : (T5 Str Str Str Int Int)))) (te_tupA (ta_cons (cE ((t__law_name p_script ((p_many + p_gates) + y278))) (te_call (ta_cons (te_var 0 p_script rfl) fun x444 => (ta_cons (cE (R.ok ((p_many + p_gates) + y278)) (te_bin o_add (cE (R.ok (p_many + p_gates)) (te_bin o_add (te_var 1 p_many rfl) (te_var 2 p_gates rfl)) ((R.bind_ok _ _).trans (R.bind_ok _ _))) (te_var 5 y278 rfl)) ((R.bind_ok _ _).trans (R.bind_ok _ _))) fun x445 => (ta_nil fun cs hc d441 h443 d440 h442 => f__law_name k x444 x445 cs [d440, d441] hc ⟨d440, [d441], rfl, h442, ⟨d441, [], rfl, h443, rfl⟩⟩)))) ((R.bind_ok _ _).trans (R.bind_ok _ _))) fun x456 => (ta_cons (cE ((ixL places_273 start_372)) (te_bin o_ixL (te_up (te_var 8 places_273 rfl)) (te_var 10 start_372 rfl)) ((R.bind_ok _ _).trans (R.bind_ok _ _))) fun x457 => (ta_cons (cE ((ixL places_273 end_382)) (te_bin o_ixL (te_up (te_var 8 places_273 rfl)) (te_var 11 end_382 rfl)) ((R.bind_ok _ _).trans (R.bind_ok _ _))) fun x458 => (ta_cons (te_var 12 width_394 rfl) fun x459 => (ta_cons (te_var 13 time_428 rfl) fun x460 => (ta_nil fun cs hc d450 h455 d449 h454 d448 h453 d447 h452 d446 h451 => ⟨(⟨x456, x457, x458, x459, x460⟩ : (T5 Str Str Str Int Int)), rfl, (by rw [h451, h452, h453, h454, h455]; rfl), small_le (show 5 ≤ 1000000 by decide)⟩))))))) (congrArg (R.bind _) (funext fun _ => (congrArg (R.bind _) (funext fun _ => (congrArg (R.bind _) (funext fun _ => ((R.bind_ok _ _).trans (R.bind_ok _ _))))))))) (fun _ _ _ h => h.pre) (fun ways_439 => (tb_next (t := R.ok ways_439) fun e c h => ⟨_, rfl, h.sub (Sub.cons rfl (Sub.cons rfl (Sub.cons rfl (Sub.cons rfl (Sub.cons rfl (Sub.cons rfl (Sub.cons rfl Sub.nil)))))))⟩))))))))))))
 (tb_next (t := R.ok s277) fun e c h => ⟨_, rfl, h.sub (Sub.cons rfl (Sub.cons rfl (Sub.cons rfl (Sub.cons rfl (Sub.cons rfl (Sub.cons rfl (Sub.cons rfl Sub.nil)))))))⟩)) rfl)⟩) (fun s277 => (tb_last (tb_fzs (tb_fz s277 (by decide) rfl (tb_fzs (tb_fz s66 (by decide) rfl (tb_retP (t := R.ok (⟨s66, exits_264, s277⟩ : (T3 (List (T2 Str Int)) (List Str) (List (T5 Str Str Str Int Int))))) (cE (R.ok (⟨s66, exits_264, s277⟩ : (T3 (List (T2 Str Int)) (List Str) (List (T5 Str Str Str Int Int))))) (te_tupA (ta_cons (te_var 4 s66 rfl) fun x471 => (ta_cons (te_var 7 exits_264 rfl) fun x472 => (ta_cons (te_var 9 s277 rfl) fun x473 => (ta_nil fun cs hc d467 h470 d466 h469 d465 h468 => ⟨(⟨x471, x472, x473⟩ : (T3 (List (T2 Str Int)) (List Str) (List (T5 Str Str Str Int Int)))), rfl, (by rw [h468, h469, h470]; rfl), small_le (show 3 ≤ 1000000 by decide)⟩))))) ((R.bind_ok _ _).trans ((R.bind_ok _ _).trans (R.bind_ok _ _)))) (fun c p hp hq => ⟨hp, _, rfl, hq⟩)))))))))))))))))))
  exact h
set_option maxHeartbeats 4000000 in
theorem f_is_name (k : Ks K) (p_text : Str) : FT K (F_is_name K) [.v (enc K p_text)] (t_is_name p_text) := by
  refine ft_P (show 1 ≤ 2 by decide) fun base => ?_
  have h : TB K base 2 (entA 0 [.v (enc K p_text)]) (g_is_name K) (Post.fn K base) _ :=
    (tb_seq (tb_if (tt_or (tt_tst (cE ((((lenS p_text)).bind fun x535 => R.ok (decide (x535 < (1 : Int))))) (te_bin o_lt (cE ((lenS p_text)) (te_cb1 c_lenS (te_var 0 p_text rfl)) (R.bind_ok _ _)) (te_int (1 : Int))) (congrArg (R.bind _) (funext fun _ => (R.bind_ok _ _))))) (tt_or (tt_tst (cE ((((lenS p_text)).bind fun x536 => R.ok (decide ((12 : Int) < x536)))) (te_bin o_gt (cE ((lenS p_text)) (te_cb1 c_lenS (te_var 0 p_text rfl)) (R.bind_ok _ _)) (te_int (12 : Int))) (congrArg (R.bind _) (funext fun _ => (R.bind_ok _ _))))) (tt_tst (cE ((((ixS p_text (0 : Int))).bind fun x537 => R.ok (!inS x537 ("abcdefghijklmnopqrstuvwxyz" : Str)))) (te_bin o_niS (cE ((ixS p_text (0 : Int))) (te_bin o_ixS (te_var 0 p_text rfl) (te_int (0 : Int))) ((R.bind_ok _ _).trans (R.bind_ok _ _))) (te_str ("abcdefghijklmnopqrstuvwxyz" : Str))) (congrArg (R.bind _) (funext fun _ => (R.bind_ok _ _))))))) (fun _ _ _ h => h.pre)
 (tb_last (tb_retP (t := R.ok false) (te_bl false) (fun c p hp hq => ⟨hp, _, rfl, hq⟩)))
 (tb_nxseq (tb_forP (fun (s539 : Unit) => []) () t_is_name_b3 (cE (R.ok (sgn p_text)) (ti_str (te_var 0 p_text rfl)) (R.bind_ok _ _)) Sub.nil (fun _ => rfl) (fun y540 s539 => ⟨_, (tg_nm (by decide)), (cB (t_is_name_b3 y540 s539) (tb_ifP (tt_tst (cE (R.ok (!inS y540 ("abcdefghijklmnopqrstuvwxyz0123456789" : Str))) (te_bin o_niS (te_var 1 y540 rfl) (te_str ("abcdefghijklmnopqrstuvwxyz0123456789" : Str))) ((R.bind_ok _ _).trans (R.bind_ok _ _))))
 (tb_last (tb_retP (t := R.ok (Lp.rt false)) (te_bl false) (fun c p hp hq => ⟨_, rfl, ⟨hp, _, rfl, hq⟩⟩)))
 (tb_next (t := R.ok (Lp.nx ())) fun e c h => ⟨_, rfl, h.sub Sub.nil⟩)) rfl)⟩) (fun s539 => (tb_last (tb_retP (t := R.ok true) (te_bl true) (fun c p hp hq => ⟨hp, _, rfl, hq⟩))))))))
  exact h
set_option maxHeartbeats 4000000 in
theorem f__check_rooms (k : Ks K) (p_rooms : (Tup (T2 Str Int))) : FT K (F__check_rooms K) [.v (enc K p_rooms)] (t__check_rooms p_rooms) := by
  refine ft_U (show 1 ≤ 3 by decide) fun base => ?_
  have h : TB K base 3 (entA 0 [.v (enc K p_rooms)]) (g__check_rooms K) (Post.fnU K base) _ :=
    (tb_seq (tb_ifP (tt_orP (tt_tst (cE (R.ok (decide ((len p_rooms.l) < (1 : Int)))) (te_bin o_lt (cE (R.ok (len p_rooms.l)) (te_cb1 c_lenT (te_var 0 p_rooms rfl)) (R.bind_ok _ _)) (te_int (1 : Int))) ((R.bind_ok _ _).trans (R.bind_ok _ _)))) (tt_tst (cE (R.ok (decide ((8 : Int) < (len p_rooms.l)))) (te_bin o_gt (cE (R.ok (len p_rooms.l)) (te_cb1 c_lenT (te_var 0 p_rooms rfl)) (R.bind_ok _ _)) (te_int (8 : Int))) ((R.bind_ok _ _).trans (R.bind_ok _ _)))))
 (tb_last (tb_raise (x := ("BadHouse" : Str)) ((tj_cons (te_str ("a house has 1 to " : Str)) (tj_cons (cE ((strI (8 : Int))) (te_fmtI (te_int (8 : Int))) (R.bind_ok _ _)) (tj_cons (te_str (" rooms" : Str)) tj_nil))) Str.empty) (fun _ _ _ h => h.pre) (fun _ _ h => h.pre)))
 (tb_nxseq (tb_last (tb_foldP (fun (s533 : Unit) => []) () t__check_rooms_b3 (cE (R.ok p_rooms.l) (ti_tup (te_var 0 p_rooms rfl)) (R.bind_ok _ _)) Sub.nil (fun _ => rfl) (fun y534 s533 => ⟨_, (tg_tp (tgs_cons (tg_nm (by decide)) (tgs_cons (tg_nm (by decide)) tgs_nil))), (cB (t__check_rooms_b3 y534 s533) (tb_seq (tb_if (tt_not (tt_tst (cE ((t_is_name y534.a)) (te_call (ta_cons (te_var 1 y534.a rfl) fun x550 => (ta_nil fun cs hc d548 h549 => f_is_name k x550 cs [d548] hc ⟨d548, [], rfl, h549, rfl⟩))) (R.bind_ok _ _)))) (fun _ _ _ h => h.pre)
 (tb_last (tb_raiseP (x := ("BadHouse" : Str)) (te_str ("the name of a room is not valid" : Str)) (fun _ _ h => h.pre)))
 (tb_nxseq (tb_ifP (tt_orP (tt_tst (cE (R.ok (decide (y534.b < (0 : Int)))) (te_bin o_lt (te_var 2 y534.b rfl) (te_int (0 : Int))) ((R.bind_ok _ _).trans (R.bind_ok _ _)))) (tt_tst (cE (R.ok (decide ((200 : Int) < y534.b))) (te_bin o_gt (te_var 2 y534.b rfl) (te_int (200 : Int))) ((R.bind_ok _ _).trans (R.bind_ok _ _)))))
 (tb_last (tb_raise (x := ("BadHouse" : Str)) ((tj_cons (te_str ("the hold of " : Str)) (tj_cons (cE ((fmtS y534.a)) (te_fmtS (te_var 1 y534.a rfl)) (R.bind_ok _ _)) (tj_cons (te_str (" is not from 0 to " : Str)) (tj_cons (cE ((strI (200 : Int))) (te_fmtI (te_int (200 : Int))) (R.bind_ok _ _)) tj_nil)))) Str.empty) (fun _ _ _ h => h.pre) (fun _ _ h => h.pre)))
 (tb_next (t := R.ok ()) fun e c h => ⟨_, rfl, h.sub Sub.nil⟩))))) rfl)⟩) (fun s533 => (tb_next (t := R.ok ()) fun e c h => ⟨h.pre, rfl⟩)))))))
  exact h
set_option maxHeartbeats 4000000 in
theorem f__check_exits (k : Ks K) (p_exits : (Tup Str)) : FT K (F__check_exits K) [.v (enc K p_exits)] (t__check_exits p_exits) := by
  refine ft_U (show 1 ≤ 2 by decide) fun base => ?_
  have h : TB K base 2 (entA 0 [.v (enc K p_exits)]) (g__check_exits K) (Post.fnU K base) _ :=
    (tb_seq (tb_ifP (tt_orP (tt_tst (cE (R.ok (decide ((len p_exits.l) < (1 : Int)))) (te_bin o_lt (cE (R.ok (len p_exits.l)) (te_cb1 c_lenT (te_var 0 p_exits rfl)) (R.bind_ok _ _)) (te_int (1 : Int))) ((R.bind_ok _ _).trans (R.bind_ok _ _)))) (tt_tst (cE (R.ok (decide ((4 : Int) < (len p_exits.l)))) (te_bin o_gt (cE (R.ok (len p_exits.l)) (te_cb1 c_lenT (te_var 0 p_exits rfl)) (R.bind_ok _ _)) (te_int (4 : Int))) ((R.bind_ok _ _).trans (R.bind_ok _ _)))))
 (tb_last (tb_raise (x := ("BadHouse" : Str)) ((tj_cons (te_str ("a house has 1 to " : Str)) (tj_cons (cE ((strI (4 : Int))) (te_fmtI (te_int (4 : Int))) (R.bind_ok _ _)) (tj_cons (te_str (" exits" : Str)) tj_nil))) Str.empty) (fun _ _ _ h => h.pre) (fun _ _ h => h.pre)))
 (tb_nxseq (tb_last (tb_foldP (fun (s556 : Unit) => []) () t__check_exits_b3 (cE (R.ok p_exits.l) (ti_tup (te_var 0 p_exits rfl)) (R.bind_ok _ _)) Sub.nil (fun _ => rfl) (fun y557 s556 => ⟨_, (tg_nm (by decide)), (cB (t__check_exits_b3 y557 s556) (tb_if (tt_not (tt_tst (cE ((t_is_name y557)) (te_call (ta_cons (te_var 1 y557 rfl) fun x564 => (ta_nil fun cs hc d562 h563 => f_is_name k x564 cs [d562] hc ⟨d562, [], rfl, h563, rfl⟩))) (R.bind_ok _ _)))) (fun _ _ _ h => h.pre)
 (tb_last (tb_raiseP (x := ("BadHouse" : Str)) (te_str ("the name of an exit is not valid" : Str)) (fun _ _ h => h.pre)))
 (tb_next (t := R.ok ()) fun e c h => ⟨_, rfl, h.sub Sub.nil⟩)) rfl)⟩) (fun s556 => (tb_next (t := R.ok ()) fun e c h => ⟨h.pre, rfl⟩)))))))
  exact h
set_option maxHeartbeats 4000000 in
theorem f__check_ways (k : Ks K) (p_ways : (Tup (T5 Str Str Str Int Int))) (p_rooms : (List Str)) (p_exits : (List Str)) : FT K (F__check_ways K) [.v (enc K p_ways), .r (enc K p_rooms) (co K p_rooms), .r (enc K p_exits) (co K p_exits)] (t__check_ways p_ways p_rooms p_exits) := by
  refine ft_U (show 3 ≤ 8 by decide) fun base => ?_
  have h : TB K base 8 (entA 0 [.v (enc K p_ways), .r (enc K p_rooms) (co K p_rooms), .r (enc K p_exits) (co K p_exits)]) (g__check_ways K) (Post.fnU K base) _ :=
    (tb_seq (tb_ifP (tt_tst (cE (R.ok (decide ((20 : Int) < (len p_ways.l)))) (te_bin o_gt (cE (R.ok (len p_ways.l)) (te_cb1 c_lenT (te_var 0 p_ways rfl)) (R.bind_ok _ _)) (te_int (20 : Int))) ((R.bind_ok _ _).trans (R.bind_ok _ _))))
 (tb_last (tb_raise (x := ("BadHouse" : Str)) ((tj_cons (te_str ("a house has at most " : Str)) (tj_cons (cE ((strI (20 : Int))) (te_fmtI (te_int (20 : Int))) (R.bind_ok _ _)) (tj_cons (te_str (" ways" : Str)) tj_nil))) Str.empty) (fun _ _ _ h => h.pre) (fun _ _ h => h.pre)))
 (tb_nxseq (tb_last (tb_foldP (fun (s570 : Unit) => [(1, .r (enc K p_rooms) (co K p_rooms)), (2, .r (enc K p_exits) (co K p_exits))]) () (t__check_ways_b3 p_rooms p_exits) (cE (R.ok p_ways.l) (ti_tup (te_var 0 p_ways rfl)) (R.bind_ok _ _)) (Sub.cons rfl (Sub.cons rfl Sub.nil)) (fun _ => rfl) (fun y571 s570 => ⟨_, (tg_tp (tgs_cons (tg_nm (by decide)) (tgs_cons (tg_nm (by decide)) (tgs_cons (tg_nm (by decide)) (tgs_cons (tg_nm (by decide)) (tgs_cons (tg_nm (by decide)) tgs_nil)))))), (cB ((t__check_ways_b3 p_rooms p_exits) y571 s570) (tb_seq (tb_if (tt_not (tt_tst (cE ((t_is_name y571.a)) (te_call (ta_cons (te_var 3 y571.a rfl) fun x579 => (ta_nil fun cs hc d577 h578 => f_is_name k x579 cs [d577] hc ⟨d577, [], rfl, h578, rfl⟩))) (R.bind_ok _ _)))) (fun _ _ _ h => h.pre)
 (tb_last (tb_raiseP (x := ("BadHouse" : Str)) (te_str ("the name of a way is not valid" : Str)) (fun _ _ h => h.pre)))
 (tb_nxseq (tb_seq (tb_ifP (tt_tst (cE (R.ok (!inL y571.b p_rooms)) (te_bin o_niL (te_var 4 y571.b rfl) (te_rd 1 p_rooms rfl)) ((R.bind_ok _ _).trans (R.bind_ok _ _))))
 (tb_last (tb_raise (x := ("BadHouse" : Str)) ((tj_cons (te_str ("the start of " : Str)) (tj_cons (cE ((fmtS y571.a)) (te_fmtS (te_var 3 y571.a rfl)) (R.bind_ok _ _)) (tj_cons (te_str (" is no room" : Str)) tj_nil))) Str.empty) (fun _ _ _ h => h.pre) (fun _ _ h => h.pre)))
 (tb_nxseq (tb_seq (tb_if (cE (if (eqC y571.c y571.b) = true then R.ok true else (((catL p_rooms p_exits)).bind fun x581 => R.ok (!inL y571.c x581))) (tt_or (tt_tst (cE (R.ok (eqC y571.c y571.b)) (te_bin o_eqS (te_var 5 y571.c rfl) (te_var 4 y571.b rfl)) ((R.bind_ok _ _).trans (R.bind_ok _ _)))) (tt_tst (cE ((((catL p_rooms p_exits)).bind fun x581 => R.ok (!inL y571.c x581))) (te_bin o_niL (te_var 5 y571.c rfl) (te_up (cE ((catL p_rooms p_exits)) (te_bin o_catL (te_rd 1 p_rooms rfl) (te_rd 2 p_exits rfl)) ((R.bind_ok _ _).trans (R.bind_ok _ _))))) (R.bind_ok _ _)))) orR_ok) (fun _ _ _ h => h.pre)
 (tb_last (tb_raise (x := ("BadHouse" : Str)) ((tj_cons (te_str ("the end of " : Str)) (tj_cons (cE ((fmtS y571.a)) (te_fmtS (te_var 3 y571.a rfl)) (R.bind_ok _ _)) (tj_cons (te_str (" is its start, or no place" : Str)) tj_nil))) Str.empty) (fun _ _ _ h => h.pre) (fun _ _ h => h.pre)))
 (tb_nxseq (tb_seq (tb_ifP (tt_orP (tt_tst (cE (R.ok (decide (y571.d < (0 : Int)))) (te_bin o_lt (te_var 6 y571.d rfl) (te_int (0 : Int))) ((R.bind_ok _ _).trans (R.bind_ok _ _)))) (tt_tst (cE (R.ok (decide ((50 : Int) < y571.d))) (te_bin o_gt (te_var 6 y571.d rfl) (te_int (50 : Int))) ((R.bind_ok _ _).trans (R.bind_ok _ _)))))
 (tb_last (tb_raise (x := ("BadHouse" : Str)) ((tj_cons (te_str ("the width of " : Str)) (tj_cons (cE ((fmtS y571.a)) (te_fmtS (te_var 3 y571.a rfl)) (R.bind_ok _ _)) (tj_cons (te_str (" is not from 0 to " : Str)) (tj_cons (cE ((strI (50 : Int))) (te_fmtI (te_int (50 : Int))) (R.bind_ok _ _)) tj_nil)))) Str.empty) (fun _ _ _ h => h.pre) (fun _ _ h => h.pre)))
 (tb_nxseq (tb_ifP (tt_orP (tt_tst (cE (R.ok (decide (y571.e < (1 : Int)))) (te_bin o_lt (te_var 7 y571.e rfl) (te_int (1 : Int))) ((R.bind_ok _ _).trans (R.bind_ok _ _)))) (tt_tst (cE (R.ok (decide ((5 : Int) < y571.e))) (te_bin o_gt (te_var 7 y571.e rfl) (te_int (5 : Int))) ((R.bind_ok _ _).trans (R.bind_ok _ _)))))
 (tb_last (tb_raise (x := ("BadHouse" : Str)) ((tj_cons (te_str ("the time of " : Str)) (tj_cons (cE ((fmtS y571.a)) (te_fmtS (te_var 3 y571.a rfl)) (R.bind_ok _ _)) (tj_cons (te_str (" is not from 1 to " : Str)) (tj_cons (cE ((strI (5 : Int))) (te_fmtI (te_int (5 : Int))) (R.bind_ok _ _)) tj_nil)))) Str.empty) (fun _ _ _ h => h.pre) (fun _ _ h => h.pre)))
 (tb_next (t := R.ok ()) fun e c h => ⟨_, rfl, h.sub (Sub.cons rfl (Sub.cons rfl Sub.nil))⟩)))))))))))))) rfl)⟩) (fun s570 => (tb_next (t := R.ok ()) fun e c h => ⟨h.pre, rfl⟩)))))))
  exact h
set_option maxHeartbeats 4000000 in
theorem f_House___init__ (k : Ks K) (p_rooms : (List (T2 Str Int))) (p_exits : (List Str)) (p_ways : (List (T5 Str Str Str Int Int))) : FI K (F_House___init__ K) [.r (enc K p_rooms) (co K p_rooms), .r (enc K p_exits) (co K p_exits), .r (enc K p_ways) (co K p_ways)] (t_House___init__ p_rooms p_exits p_ways) := by
  refine ft_ini (show 3 + 1 ≤ 17 by decide) fun base => ?_
  have h : TB K base 17 ((0, .o (some base.length) (.obj (He.ga K (Ob.cls O_House)) [])) :: entA 1 [.r (enc K p_rooms) (co K p_rooms), .r (enc K p_exits) (co K p_exits), .r (enc K p_ways) (co K p_ways)]) (g_House___init__ K) (Post.ini K base (α := O_House)) _ :=
    (tb_fld (i := 0) rfl k.fo_House_rooms (show 0 < 1000 by decide) (fun m => by simp only [cloF]) (fun v => putFP_new rfl) (te_cb1 c_tupL (te_up (te_pub (cE ((cmpR p_rooms fun y500 => (R.ok (⟨y500.a, y500.b⟩ : (T2 Str Int))))) (te_lcx (tc (ti_rd 1 p_rooms rfl)) (fun y500 => ⟨_, (tg_tp (tgs_cons (tg_nm (by decide)) (tgs_cons (tg_nm (by decide)) tgs_nil))), (cE (R.ok (⟨y500.a, y500.b⟩ : (T2 Str Int))) (te_tupA (ta_cons (te_var 8 y500.a rfl) fun x505 => (ta_cons (te_var 9 y500.b rfl) fun x506 => (ta_nil fun cs hc d502 h504 d501 h503 => ⟨(⟨x505, x506⟩ : (T2 Str Int)), rfl, (by rw [h503, h504]; rfl), small_le (show 2 ≤ 1000000 by decide)⟩)))) ((R.bind_ok _ _).trans (R.bind_ok _ _)))⟩)) (R.bind_ok _ _))))) (fun _ => ini_ex (K := K) (α := O_House) (i := 0) rfl) (fun rooms_508 => (tb_fldP (i := 0) rfl k.fo_House_exits (show 1 < 1000 by decide) (fun m => by simp only [cloF, List.nil_append, List.cons_append]; exact ⟨Ty.clo K m _, trivial⟩) (fun v => putFP_new rfl) (cE (R.ok (⟨p_exits⟩ : (Tup Str))) (te_cb1 c_tupL (te_rd 2 p_exits rfl)) (R.bind_ok _ _)) (fun exits_509 => (tb_fld (i := 0) rfl k.fo_House_ways (show 2 < 1000 by decide) (fun m => by simp only [cloF, List.nil_append, List.cons_append]; exact ⟨Ty.clo K m _, Ty.clo K m _, trivial⟩) (fun v => putFP_new rfl) (te_cb1 c_tupL (te_up (te_pub (cE ((cmpR p_ways fun y510 => (R.ok (⟨y510.a, y510.b, y510.c, y510.d, y510.e⟩ : (T5 Str Str Str Int Int))))) (te_lcx (tc (ti_rd 3 p_ways rfl)) (fun y510 => ⟨_, (tg_tp (tgs_cons (tg_nm (by decide)) (tgs_cons (tg_nm (by decide)) (tgs_cons (tg_nm (by decide)) (tgs_cons (tg_nm (by decide)) (tgs_cons (tg_nm (by decide)) tgs_nil)))))), (cE (R.ok (⟨y510.a, y510.b, y510.c, y510.d, y510.e⟩ : (T5 Str Str Str Int Int))) (te_tupA (ta_cons (te_var 8 y510.a rfl) fun x521 => (ta_cons (te_var 10 y510.b rfl) fun x522 => (ta_cons (te_var 11 y510.c rfl) fun x523 => (ta_cons (te_var 12 y510.d rfl) fun x524 => (ta_cons (te_var 13 y510.e rfl) fun x525 => (ta_nil fun cs hc d515 h520 d514 h519 d513 h518 d512 h517 d511 h516 => ⟨(⟨x521, x522, x523, x524, x525⟩ : (T5 Str Str Str Int Int)), rfl, (by rw [h516, h517, h518, h519, h520]; rfl), small_le (show 5 ≤ 1000000 by decide)⟩))))))) ((R.bind_ok _ _).trans ((R.bind_ok _ _).trans ((R.bind_ok _ _).trans ((R.bind_ok _ _).trans (R.bind_ok _ _))))))⟩)) (R.bind_ok _ _))))) (fun _ => ini_ex (K := K) (α := O_House) (i := 0) rfl) (fun ways_527 => (tb_set (by decide) (te_pub (cE ((cmpR rooms_508.l fun y529 => (R.ok y529.a))) (te_lcx (tc (cE (R.ok rooms_508.l) (ti_tup (te_fldO (i := 0) rfl rooms_508 k.fo_House_rooms rfl)) (R.bind_ok _ _))) (fun y529 => ⟨_, (tg_nm (by decide)), (cE (R.ok y529.a) (te_prj (k := 0) (fun (x : (T2 Str Int)) => x.a) (fun _ => ⟨_, rfl, rfl⟩) (te_var 14 y529 rfl)) (R.bind_ok _ _))⟩)) (R.bind_ok _ _))) (fun _ => ini_ex (K := K) (α := O_House) (i := 0) rfl) (fun room_names_528 => (tb_setP (by decide) (te_pub (cE (R.ok exits_509.l) (te_cf1 f_listT (te_fldO (i := 0) rfl exits_509 k.fo_House_exits rfl)) (R.bind_ok _ _))) (fun exit_names_530 => (tb_set (by decide) (te_pub (cE ((cmpR ways_527.l fun y532 => (R.ok y532.a))) (te_lcx (tc (cE (R.ok ways_527.l) (ti_tup (te_fldO (i := 0) rfl ways_527 k.fo_House_ways rfl)) (R.bind_ok _ _))) (fun y532 => ⟨_, (tg_nm (by decide)), (cE (R.ok y532.a) (te_prj (k := 0) (fun (x : (T5 Str Str Str Int Int)) => x.a) (fun _ => ⟨_, rfl, rfl⟩) (te_var 15 y532 rfl)) (R.bind_ok _ _))⟩)) (R.bind_ok _ _))) (fun _ => ini_ex (K := K) (α := O_House) (i := 0) rfl) (fun way_names_531 => (tb_drop (cE ((t__check_rooms rooms_508)) (te_call (ta_cons (te_fldO (i := 0) rfl rooms_508 k.fo_House_rooms rfl) fun x554 => (ta_nil fun cs hc d552 h553 => f__check_rooms k x554 cs [d552] hc ⟨d552, [], rfl, h553, rfl⟩))) (R.bind_ok _ _)) (fun _ => ini_ex (K := K) (α := O_House) (i := 0) rfl) (fun u555 => (tb_drop (cE ((t__check_exits exits_509)) (te_call (ta_cons (te_fldO (i := 0) rfl exits_509 k.fo_House_exits rfl) fun x568 => (ta_nil fun cs hc d566 h567 => f__check_exits k x568 cs [d566] hc ⟨d566, [], rfl, h567, rfl⟩))) (R.bind_ok _ _)) (fun _ => ini_ex (K := K) (α := O_House) (i := 0) rfl) (fun u569 => (tb_drop (cE ((t__check_ways ways_527 room_names_528 exit_names_530)) (te_call (ta_cons (te_fldO (i := 0) rfl ways_527 k.fo_House_ways rfl) fun x588 => (ta_cons (te_up (te_var 4 room_names_528 rfl)) fun x589 => (ta_cons (te_up (te_var 5 exit_names_530 rfl)) fun x590 => (ta_nil fun cs hc d584 h587 d583 h586 d582 h585 => f__check_ways k x588 x589 x590 cs [d582, d583, d584] hc ⟨d582, [d583, d584], rfl, h585, ⟨d583, [d584], rfl, h586, ⟨d584, [], rfl, h587, rfl⟩⟩⟩))))) ((R.bind_ok _ _).trans ((R.bind_ok _ _).trans (R.bind_ok _ _)))) (fun _ => ini_ex (K := K) (α := O_House) (i := 0) rfl) (fun u591 => (tb_set (by decide) (cE ((((catL room_names_528 exit_names_530)).bind fun x593 => (catL x593 way_names_531))) (te_bin o_catL (te_up (cE ((catL room_names_528 exit_names_530)) (te_bin o_catL (te_up (te_var 4 room_names_528 rfl)) (te_up (te_var 5 exit_names_530 rfl))) ((R.bind_ok _ _).trans (R.bind_ok _ _)))) (te_up (te_var 6 way_names_531 rfl))) (congrArg (R.bind _) (funext fun _ => (R.bind_ok _ _)))) (fun _ => ini_ex (K := K) (α := O_House) (i := 0) rfl) (fun names_592 => (tb_seq (tb_if (tt_tst (cE ((((setLen names_592)).bind fun x594 => R.ok (decide (x594 < (len names_592))))) (te_bin o_lt (cE ((setLen names_592)) (te_lenTx (te_up (te_var 7 names_592 rfl))) (R.bind_ok _ _)) (cE (R.ok (len names_592)) (te_cb1 c_lenL (te_up (te_var 7 names_592 rfl))) (R.bind_ok _ _))) (congrArg (R.bind _) (funext fun _ => (R.bind_ok _ _))))) (fun _ => ini_ex (K := K) (α := O_House) (i := 0) rfl)
 (tb_last (tb_raiseP (x := ("BadHouse" : Str)) (te_str ("a name stands twice" : Str)) (ini_ex (K := K) (α := O_House) (i := 0) rfl)))
 (tb_nxseq (tb_fld (i := 0) rfl k.fo_House__room_at (show 3 < 1000 by decide) (fun m => by simp only [cloF, List.nil_append, List.cons_append]; exact ⟨Ty.clo K m _, Ty.clo K m _, Ty.clo K m _, trivial⟩) (fun v => putFP_new rfl) (te_pub (cE ((cmdR (enumI 0 room_names_528) (fun y595 => (R.ok y595.b)) fun y595 => (R.ok y595.a))) (te_dcx (tc (cE (R.ok (enumI 0 room_names_528)) (ti_enum (tl_p (te_var 4 room_names_528 rfl))) (R.bind_ok _ _))) (fun y595 => ⟨_, (tg_tp (tgs_cons (tg_nm (by decide)) (tgs_cons (tg_nm (by decide)) tgs_nil))), (te_var 8 y595.b rfl), (te_var 16 y595.a rfl)⟩)) (R.bind_ok _ _))) (fun _ => ini_ex (K := K) (α := O_House) (i := 0) rfl) (fun _room_at_596 => (tb_fld (i := 0) rfl k.fo_House__exit_at (show 4 < 1000 by decide) (fun m => by simp only [cloF, List.nil_append, List.cons_append]; exact ⟨Ty.clo K m _, Ty.clo K m _, Ty.clo K m _, Ty.clo K m _, trivial⟩) (fun v => putFP_new rfl) (te_pub (cE ((cmdR (enumI 0 exit_names_530) (fun y597 => (R.ok y597.b)) fun y597 => (R.ok y597.a))) (te_dcx (tc (cE (R.ok (enumI 0 exit_names_530)) (ti_enum (tl_p (te_var 5 exit_names_530 rfl))) (R.bind_ok _ _))) (fun y597 => ⟨_, (tg_tp (tgs_cons (tg_nm (by decide)) (tgs_cons (tg_nm (by decide)) tgs_nil))), (te_var 8 y597.b rfl), (te_var 16 y597.a rfl)⟩)) (R.bind_ok _ _))) (fun _ => ini_ex (K := K) (α := O_House) (i := 0) rfl) (fun _exit_at_598 => (tb_last (tb_fld (i := 0) rfl k.fo_House__way_at (show 5 < 1000 by decide) (fun m => by simp only [cloF, List.nil_append, List.cons_append]; exact ⟨Ty.clo K m _, Ty.clo K m _, Ty.clo K m _, Ty.clo K m _, Ty.clo K m _, trivial⟩) (fun v => putFP_new rfl) (te_pub (cE ((cmdR (enumI 0 way_names_531) (fun y599 => (R.ok y599.b)) fun y599 => (R.ok y599.a))) (te_dcx (tc (cE (R.ok (enumI 0 way_names_531)) (ti_enum (tl_p (te_var 6 way_names_531 rfl))) (R.bind_ok _ _))) (fun y599 => ⟨_, (tg_tp (tgs_cons (tg_nm (by decide)) (tgs_cons (tg_nm (by decide)) tgs_nil))), (te_var 8 y599.b rfl), (te_var 16 y599.a rfl)⟩)) (R.bind_ok _ _))) (fun _ => ini_ex (K := K) (α := O_House) (i := 0) rfl) (fun _way_at_600 => (tb_next (t := R.ok (⟨rooms_508, exits_509, ways_527, _room_at_596, _exit_at_598, _way_at_600⟩ : O_House)) (ini_nx (i := 0) (⟨rooms_508, exits_509, ways_527, _room_at_596, _exit_at_598, _way_at_600⟩ : O_House) rfl rfl))))))))))))))))))))))))))))))))
  exact h
set_option maxHeartbeats 4000000 in
theorem f__law_kept (k : Ks K) (p_house : O_House) (p_rooms : (List (T2 Str Int))) (p_exits : (List Str)) (p_ways : (List (T5 Str Str Str Int Int))) : FT K (F__law_kept K) [.v (enc K p_house), .r (enc K p_rooms) (co K p_rooms), .r (enc K p_exits) (co K p_exits), .r (enc K p_ways) (co K p_ways)] (t__law_kept p_house p_rooms p_exits p_ways) := by
  refine ft_P (show 4 ≤ 5 by decide) fun base => ?_
  have h : TB K base 5 (entA 0 [.v (enc K p_house), .r (enc K p_rooms) (co K p_rooms), .r (enc K p_exits) (co K p_exits), .r (enc K p_ways) (co K p_ways)]) (g__law_kept K) (Post.fn K base) _ :=
    (tb_seq (tb_ifP (tt_orP (cE (R.ok (!true)) (tt_not (tt_tst (cE (R.ok true) (te_isO (C := ("House" : Str)) (D := ("House" : Str)) rfl (isi_House k) k.ki_House_House (te_var 0 p_house rfl)) (R.bind_ok _ _)))) (R.bind_ok _ _)) (tt_orP (cE (R.ok (!true)) (tt_not (tt_tst (cE (R.ok true) (te_isT kd_tup (kk_same "tuple") (cE (R.ok p_house.f_rooms) (te_fld (C := ("House" : Str)) rfl (fun (x : O_House) => x.f_rooms) k.fo_House_rooms (fun _ => rfl) (te_var 0 p_house rfl)) (R.bind_ok _ _))) (R.bind_ok _ _)))) (R.bind_ok _ _)) (cE (R.ok (!true)) (tt_not (tt_tst (cE (R.ok true) (te_isT kd_tup (kk_same "tuple") (cE (R.ok p_house.f_ways) (te_fld (C := ("House" : Str)) rfl (fun (x : O_House) => x.f_ways) k.fo_House_ways (fun _ => rfl) (te_var 0 p_house rfl)) (R.bind_ok _ _))) (R.bind_ok _ _)))) (R.bind_ok _ _))))
 (tb_last (tb_retP (t := R.ok false) (te_bl false) (fun c p hp hq => ⟨hp, _, rfl, hq⟩)))
 (tb_nxseq (tb_seq (tb_if (cE (if (!eqC (len p_house.f_rooms.l) (len p_rooms)) = true then R.ok true else (if (!eqC (len p_house.f_ways.l) (len p_ways)) = true then R.ok true else (((t__law_same p_house.f_exits p_exits)).bind fun x617 => R.ok (!x617)))) (tt_or (tt_tst (cE (R.ok (!eqC (len p_house.f_rooms.l) (len p_rooms))) (te_bin o_neS (cE (R.ok (len p_house.f_rooms.l)) (te_cb1 c_lenT (cE (R.ok p_house.f_rooms) (te_fld (C := ("House" : Str)) rfl (fun (x : O_House) => x.f_rooms) k.fo_House_rooms (fun _ => rfl) (te_var 0 p_house rfl)) (R.bind_ok _ _))) (R.bind_ok _ _)) (cE (R.ok (len p_rooms)) (te_cb1 c_lenL (te_rd 1 p_rooms rfl)) (R.bind_ok _ _))) ((R.bind_ok _ _).trans (R.bind_ok _ _)))) (cE (if (!eqC (len p_house.f_ways.l) (len p_ways)) = true then R.ok true else (((t__law_same p_house.f_exits p_exits)).bind fun x617 => R.ok (!x617))) (tt_or (tt_tst (cE (R.ok (!eqC (len p_house.f_ways.l) (len p_ways))) (te_bin o_neS (cE (R.ok (len p_house.f_ways.l)) (te_cb1 c_lenT (cE (R.ok p_house.f_ways) (te_fld (C := ("House" : Str)) rfl (fun (x : O_House) => x.f_ways) k.fo_House_ways (fun _ => rfl) (te_var 0 p_house rfl)) (R.bind_ok _ _))) (R.bind_ok _ _)) (cE (R.ok (len p_ways)) (te_cb1 c_lenL (te_rd 3 p_ways rfl)) (R.bind_ok _ _))) ((R.bind_ok _ _).trans (R.bind_ok _ _)))) (tt_not (tt_tst (cE ((t__law_same p_house.f_exits p_exits)) (te_call (ta_cons (cE (R.ok p_house.f_exits) (te_fld (C := ("House" : Str)) rfl (fun (x : O_House) => x.f_exits) k.fo_House_exits (fun _ => rfl) (te_var 0 p_house rfl)) (R.bind_ok _ _)) fun x615 => (ta_cons (te_rd 2 p_exits rfl) fun x616 => (ta_nil fun cs hc d612 h614 d611 h613 => f__law_same k x615 x616 cs [d611, d612] hc ⟨d611, [d612], rfl, h613, ⟨d612, [], rfl, h614, rfl⟩⟩)))) ((R.bind_ok _ _).trans (R.bind_ok _ _)))))) orR_ok)) orR_ok) (fun _ _ _ h => h.pre)
 (tb_last (tb_retP (t := R.ok false) (te_bl false) (fun c p hp hq => ⟨hp, _, rfl, hq⟩)))
 (tb_nxseq (tb_for (b := (t__law_kept_b5 p_house p_rooms)) (fun (s619 : Unit) => [(0, .v (enc K p_house)), (1, .r (enc K p_rooms) (co K p_rooms)), (3, .r (enc K p_ways) (co K p_ways))]) () (cE ((rng1 (len p_rooms))) (ti_rng1 (cE (R.ok (len p_rooms)) (te_cb1 c_lenL (te_rd 1 p_rooms rfl)) (R.bind_ok _ _))) (R.bind_ok _ _)) (fun _ _ _ h => h.pre) (Sub.cons rfl (Sub.cons rfl (Sub.cons rfl Sub.nil))) (fun _ => rfl) (fun y620 s619 => ⟨_, (tg_nm (by decide)), (cB ((t__law_kept_b5 p_house p_rooms) y620 s619) (tb_if (tt_not (tt_tst (te_call (ta_cons (cE ((ixL p_house.f_rooms.l y620)) (te_bin o_ixT (cE (R.ok p_house.f_rooms) (te_fld (C := ("House" : Str)) rfl (fun (x : O_House) => x.f_rooms) k.fo_House_rooms (fun _ => rfl) (te_var 0 p_house rfl)) (R.bind_ok _ _)) (te_var 4 y620 rfl)) ((R.bind_ok _ _).trans (R.bind_ok _ _))) fun x635 => (ta_cons (cE ((ixL p_rooms y620)) (te_bin o_ixL (te_rd 1 p_rooms rfl) (te_var 4 y620 rfl)) ((R.bind_ok _ _).trans (R.bind_ok _ _))) fun x636 => (ta_nil fun cs hc d632 h634 d631 h633 => f__law_same_2 k x635 x636 cs [d631, d632] hc ⟨d631, [d632], rfl, h633, ⟨d632, [], rfl, h634, rfl⟩⟩)))))) (fun _ _ _ h => h.pre)
 (tb_last (tb_retP (t := R.ok (Lp.rt false)) (te_bl false) (fun c p hp hq => ⟨_, rfl, ⟨hp, _, rfl, hq⟩⟩)))
 (tb_next (t := R.ok (Lp.nx ())) fun e c h => ⟨_, rfl, h.sub (Sub.cons rfl (Sub.cons rfl (Sub.cons rfl Sub.nil)))⟩)) rfl)⟩) (fun s619 => (tb_for (b := (t__law_kept_b8 p_house p_ways)) (fun (s641 : Unit) => [(0, .v (enc K p_house)), (3, .r (enc K p_ways) (co K p_ways))]) () (cE ((rng1 (len p_ways))) (ti_rng1 (cE (R.ok (len p_ways)) (te_cb1 c_lenL (te_rd 3 p_ways rfl)) (R.bind_ok _ _))) (R.bind_ok _ _)) (fun _ _ _ h => h.pre) (Sub.cons rfl (Sub.cons rfl Sub.nil)) (fun _ => rfl) (fun y642 s641 => ⟨_, (tg_nm (by decide)), (cB ((t__law_kept_b8 p_house p_ways) y642 s641) (tb_if (tt_not (tt_tst (te_call (ta_cons (cE ((ixL p_house.f_ways.l y642)) (te_bin o_ixT (cE (R.ok p_house.f_ways) (te_fld (C := ("House" : Str)) rfl (fun (x : O_House) => x.f_ways) k.fo_House_ways (fun _ => rfl) (te_var 0 p_house rfl)) (R.bind_ok _ _)) (te_var 4 y642 rfl)) ((R.bind_ok _ _).trans (R.bind_ok _ _))) fun x657 => (ta_cons (cE ((ixL p_ways y642)) (te_bin o_ixL (te_rd 3 p_ways rfl) (te_var 4 y642 rfl)) ((R.bind_ok _ _).trans (R.bind_ok _ _))) fun x658 => (ta_nil fun cs hc d654 h656 d653 h655 => f__law_same_3 k x657 x658 cs [d653, d654] hc ⟨d653, [d654], rfl, h655, ⟨d654, [], rfl, h656, rfl⟩⟩)))))) (fun _ _ _ h => h.pre)
 (tb_last (tb_retP (t := R.ok (Lp.rt false)) (te_bl false) (fun c p hp hq => ⟨_, rfl, ⟨hp, _, rfl, hq⟩⟩)))
 (tb_next (t := R.ok (Lp.nx ())) fun e c h => ⟨_, rfl, h.sub (Sub.cons rfl (Sub.cons rfl Sub.nil))⟩)) rfl)⟩) (fun s641 => (tb_last (tb_retP (t := R.ok true) (te_bl true) (fun c p hp hq => ⟨hp, _, rfl, hq⟩)))))))))))))
  exact h
set_option maxHeartbeats 4000000 in
theorem f__law_swap (k : Ks K) (p_word : Str) (p_old : Str) (p_new : Str) : FT K (F__law_swap K) [.v (enc K p_word), .v (enc K p_old), .v (enc K p_new)] (t__law_swap p_word p_old p_new) := by
  refine ft_P (show 3 ≤ 3 by decide) fun base => ?_
  have h : TB K base 3 (entA 0 [.v (enc K p_word), .v (enc K p_old), .v (enc K p_new)]) (g__law_swap K) (Post.fn K base) _ :=
    (tb_seq (tb_ifP (tt_tst (cE (R.ok (eqC p_word p_old)) (te_bin o_eqS (te_var 0 p_word rfl) (te_var 1 p_old rfl)) ((R.bind_ok _ _).trans (R.bind_ok _ _))))
 (tb_last (tb_retP (t := R.ok p_new) (te_var 2 p_new rfl) (fun c p hp hq => ⟨hp, _, rfl, hq⟩)))
 (tb_nxseq (tb_last (tb_retP (t := R.ok p_word) (te_var 0 p_word rfl) (fun c p hp hq => ⟨hp, _, rfl, hq⟩))))))
  exact h
set_option maxHeartbeats 4000000 in
theorem f__law_renamed (k : Ks K) (p_parts : (T3 (List (T2 Str Int)) (List Str) (List (T5 Str Str Str Int Int)))) (p_old : Str) (p_new : Str) : FT K (F__law_renamed K) [.v (enc K p_parts), .v (enc K p_old), .v (enc K p_new)] (t__law_renamed p_parts p_old p_new) := by
  refine ft_P (show 3 ≤ 10 by decide) fun base => ?_
  have h : TB K base 10 (entA 0 [.v (enc K p_parts), .v (enc K p_old), .v (enc K p_new)]) (g__law_renamed K) (Post.fn K base) _ :=
    (tb_set (by decide) (te_pub (cE ((cmpR p_parts.a fun y710 => (((t__law_swap y710.a p_old p_new)).bind fun x728 => R.ok (⟨x728, y710.b⟩ : (T2 Str Int))))) (te_lcx (tc (ti_lstI (cE (R.ok p_parts.a) (te_prj (k := 0) (fun (x : (T3 (List (T2 Str Int)) (List Str) (List (T5 Str Str Str Int Int)))) => x.a) (fun _ => ⟨_, rfl, rfl⟩) (te_var 0 p_parts rfl)) (R.bind_ok _ _)))) (fun y710 => ⟨_, (tg_nm (by decide)), (cE ((((t__law_swap y710.a p_old p_new)).bind fun x728 => R.ok (⟨x728, y710.b⟩ : (T2 Str Int)))) (te_tupA (ta_cons (cE ((t__law_swap y710.a p_old p_new)) (te_call (ta_cons (cE (R.ok y710.a) (te_prj (k := 0) (fun (x : (T2 Str Int)) => x.a) (fun _ => ⟨_, rfl, rfl⟩) (te_var 8 y710 rfl)) (R.bind_ok _ _)) fun x719 => (ta_cons (te_var 1 p_old rfl) fun x720 => (ta_cons (te_var 2 p_new rfl) fun x721 => (ta_nil fun cs hc d715 h718 d714 h717 d713 h716 => f__law_swap k x719 x720 x721 cs [d713, d714, d715] hc ⟨d713, [d714, d715], rfl, h716, ⟨d714, [d715], rfl, h717, ⟨d715, [], rfl, h718, rfl⟩⟩⟩))))) ((R.bind_ok _ _).trans ((R.bind_ok _ _).trans (R.bind_ok _ _)))) fun x726 => (ta_cons (cE (R.ok y710.b) (te_prj (k := 1) (fun (x : (T2 Str Int)) => x.b) (fun _ => ⟨_, rfl, rfl⟩) (te_var 8 y710 rfl)) (R.bind_ok _ _)) fun x727 => (ta_nil fun cs hc d723 h725 d722 h724 => ⟨(⟨x726, x727⟩ : (T2 Str Int)), rfl, (by rw [h724, h725]; rfl), small_le (show 2 ≤ 1000000 by decide)⟩)))) (congrArg (R.bind _) (funext fun _ => (R.bind_ok _ _))))⟩)) (R.bind_ok _ _))) (fun _ _ _ h => h.pre) (fun rooms_709 => (tb_set (by decide) (te_pub (cE ((cmpR p_parts.b fun y730 => (t__law_swap y730 p_old p_new))) (te_lcx (tc (ti_lstI (cE (R.ok p_parts.b) (te_prj (k := 1) (fun (x : (T3 (List (T2 Str Int)) (List Str) (List (T5 Str Str Str Int Int)))) => x.b) (fun _ => ⟨_, rfl, rfl⟩) (te_var 0 p_parts rfl)) (R.bind_ok _ _)))) (fun y730 => ⟨_, (tg_nm (by decide)), (cE ((t__law_swap y730 p_old p_new)) (te_call (ta_cons (te_var 9 y730 rfl) fun x737 => (ta_cons (te_var 1 p_old rfl) fun x738 => (ta_cons (te_var 2 p_new rfl) fun x739 => (ta_nil fun cs hc d733 h736 d732 h735 d731 h734 => f__law_swap k x737 x738 x739 cs [d731, d732, d733] hc ⟨d731, [d732, d733], rfl, h734, ⟨d732, [d733], rfl, h735, ⟨d733, [], rfl, h736, rfl⟩⟩⟩))))) ((R.bind_ok _ _).trans ((R.bind_ok _ _).trans (R.bind_ok _ _))))⟩)) (R.bind_ok _ _))) (fun _ _ _ h => h.pre) (fun exits_729 => (tb_ownP (by decide) (te_lstA (ta_nil fun cs hc => ⟨([] : (List (T5 Str Str Str Int Int))), rfl, rfl, small_le (by decide)⟩)) (fun ways_740 => (tb_foldP (fun (s741 : (List (T5 Str Str Str Int Int))) => [(5, .o none (co K s741)), (1, .v (enc K p_old)), (2, .v (enc K p_new)), (3, .v (enc K rooms_709)), (4, .v (enc K exits_729))]) ways_740 (t__law_renamed_b4 p_old p_new) (ti_lstI (cE (R.ok p_parts.c) (te_prj (k := 2) (fun (x : (T3 (List (T2 Str Int)) (List Str) (List (T5 Str Str Str Int Int)))) => x.c) (fun _ => ⟨_, rfl, rfl⟩) (te_var 0 p_parts rfl)) (R.bind_ok _ _))) (Sub.cons rfl (Sub.cons rfl (Sub.cons rfl (Sub.cons rfl (Sub.cons rfl Sub.nil))))) (fun _ => rfl) (fun y742 s741 => ⟨_, (tg_nm (by decide)), (cB ((t__law_renamed_b4 p_old p_new) y742 s741) (tb_set (by decide) (te_tupA (ta_cons (cE ((t__law_swap y742.b p_old p_new)) (te_call (ta_cons (cE (R.ok y742.b) (te_prj (k := 1) (fun (x : (T5 Str Str Str Int Int)) => x.b) (fun _ => ⟨_, rfl, rfl⟩) (te_var 6 y742 rfl)) (R.bind_ok _ _)) fun x804 => (ta_cons (te_var 1 p_old rfl) fun x805 => (ta_cons (te_var 2 p_new rfl) fun x806 => (ta_nil fun cs hc d800 h803 d799 h802 d798 h801 => f__law_swap k x804 x805 x806 cs [d798, d799, d800] hc ⟨d798, [d799, d800], rfl, h801, ⟨d799, [d800], rfl, h802, ⟨d800, [], rfl, h803, rfl⟩⟩⟩))))) ((R.bind_ok _ _).trans ((R.bind_ok _ _).trans (R.bind_ok _ _)))) fun x820 => (ta_cons (cE ((t__law_swap y742.c p_old p_new)) (te_call (ta_cons (cE (R.ok y742.c) (te_prj (k := 2) (fun (x : (T5 Str Str Str Int Int)) => x.c) (fun _ => ⟨_, rfl, rfl⟩) (te_var 6 y742 rfl)) (R.bind_ok _ _)) fun x813 => (ta_cons (te_var 1 p_old rfl) fun x814 => (ta_cons (te_var 2 p_new rfl) fun x815 => (ta_nil fun cs hc d809 h812 d808 h811 d807 h810 => f__law_swap k x813 x814 x815 cs [d807, d808, d809] hc ⟨d807, [d808, d809], rfl, h810, ⟨d808, [d809], rfl, h811, ⟨d809, [], rfl, h812, rfl⟩⟩⟩))))) ((R.bind_ok _ _).trans ((R.bind_ok _ _).trans (R.bind_ok _ _)))) fun x821 => (ta_nil fun cs hc d817 h819 d816 h818 => ⟨(⟨x820, x821⟩ : (T2 Str Str)), rfl, (by rw [h818, h819]; rfl), small_le (show 2 ≤ 1000000 by decide)⟩)))) (fun _ _ _ h => h.pre) (fun ends_797 => (tb_last (tb_mth1 of_list m_append s741 rfl (cE ((((t__law_swap y742.a p_old p_new)).bind fun x849 => R.ok (⟨x849, ends_797.a, ends_797.b, y742.d, y742.e⟩ : (T5 Str Str Str Int Int)))) (te_tupA (ta_cons (cE ((t__law_swap y742.a p_old p_new)) (te_call (ta_cons (cE (R.ok y742.a) (te_prj (k := 0) (fun (x : (T5 Str Str Str Int Int)) => x.a) (fun _ => ⟨_, rfl, rfl⟩) (te_var 6 y742 rfl)) (R.bind_ok _ _)) fun x831 => (ta_cons (te_var 1 p_old rfl) fun x832 => (ta_cons (te_var 2 p_new rfl) fun x833 => (ta_nil fun cs hc d827 h830 d826 h829 d825 h828 => f__law_swap k x831 x832 x833 cs [d825, d826, d827] hc ⟨d825, [d826, d827], rfl, h828, ⟨d826, [d827], rfl, h829, ⟨d827, [], rfl, h830, rfl⟩⟩⟩))))) ((R.bind_ok _ _).trans ((R.bind_ok _ _).trans (R.bind_ok _ _)))) fun x844 => (ta_cons (cE (R.ok ends_797.a) (te_prj (k := 0) (fun (x : (T2 Str Str)) => x.a) (fun _ => ⟨_, rfl, rfl⟩) (te_var 7 ends_797 rfl)) (R.bind_ok _ _)) fun x845 => (ta_cons (cE (R.ok ends_797.b) (te_prj (k := 1) (fun (x : (T2 Str Str)) => x.b) (fun _ => ⟨_, rfl, rfl⟩) (te_var 7 ends_797 rfl)) (R.bind_ok _ _)) fun x846 => (ta_cons (cE (R.ok y742.d) (te_prj (k := 3) (fun (x : (T5 Str Str Str Int Int)) => x.d) (fun _ => ⟨_, rfl, rfl⟩) (te_var 6 y742 rfl)) (R.bind_ok _ _)) fun x847 => (ta_cons (cE (R.ok y742.e) (te_prj (k := 4) (fun (x : (T5 Str Str Str Int Int)) => x.e) (fun _ => ⟨_, rfl, rfl⟩) (te_var 6 y742 rfl)) (R.bind_ok _ _)) fun x848 => (ta_nil fun cs hc d838 h843 d837 h842 d836 h841 d835 h840 d834 h839 => ⟨(⟨x844, x845, x846, x847, x848⟩ : (T5 Str Str Str Int Int)), rfl, (by rw [h839, h840, h841, h842, h843]; rfl), small_le (show 5 ≤ 1000000 by decide)⟩))))))) (congrArg (R.bind _) (funext fun _ => ((R.bind_ok _ _).trans ((R.bind_ok _ _).trans ((R.bind_ok _ _).trans (R.bind_ok _ _))))))) (fun _ _ _ h => h.pre) (fun ways_824 => (tb_next (t := R.ok ways_824) fun e c h => ⟨_, rfl, h.sub (Sub.cons rfl (Sub.cons rfl (Sub.cons rfl (Sub.cons rfl (Sub.cons rfl Sub.nil)))))⟩)))))) rfl)⟩) (fun s741 => (tb_last (tb_fzs (tb_fz s741 (by decide) rfl (tb_retP (t := R.ok (⟨rooms_709, exits_729, s741⟩ : (T3 (List (T2 Str Int)) (List Str) (List (T5 Str Str Str Int Int))))) (cE (R.ok (⟨rooms_709, exits_729, s741⟩ : (T3 (List (T2 Str Int)) (List Str) (List (T5 Str Str Str Int Int))))) (te_tupA (ta_cons (te_var 3 rooms_709 rfl) fun x857 => (ta_cons (te_var 4 exits_729 rfl) fun x858 => (ta_cons (te_var 5 s741 rfl) fun x859 => (ta_nil fun cs hc d853 h856 d852 h855 d851 h854 => ⟨(⟨x857, x858, x859⟩ : (T3 (List (T2 Str Int)) (List Str) (List (T5 Str Str Str Int Int)))), rfl, (by rw [h854, h855, h856]; rfl), small_le (show 3 ≤ 1000000 by decide)⟩))))) ((R.bind_ok _ _).trans ((R.bind_ok _ _).trans (R.bind_ok _ _)))) (fun c p hp hq => ⟨hp, _, rfl, hq⟩)))))))))))))
  exact h
set_option maxHeartbeats 4000000 in
theorem f__law_odd (k : Ks K) (p_script : Scr) (p_k : Int) (p_word : Str) : FT K (F__law_odd K) [.v (enc K p_script), .v (enc K p_k), .v (enc K p_word)] (t__law_odd p_script p_k p_word) := by
  refine ft_P (show 3 ≤ 6 by decide) fun base => ?_
  have h : TB K base 6 (entA 0 [.v (enc K p_script), .v (enc K p_k), .v (enc K p_word)]) (g__law_odd K) (Post.fn K base) _ :=
    (tb_set (by decide) (cE ((t__law_draw p_script p_k (10 : Int))) (te_call (ta_cons (te_var 0 p_script rfl) fun x868 => (ta_cons (te_var 1 p_k rfl) fun x869 => (ta_cons (te_int (10 : Int)) fun x870 => (ta_nil fun cs hc d864 h867 d863 h866 d862 h865 => f__law_draw k x868 x869 x870 cs [d862, d863, d864] hc ⟨d862, [d863, d864], rfl, h865, ⟨d863, [d864], rfl, h866, ⟨d864, [], rfl, h867, rfl⟩⟩⟩))))) ((R.bind_ok _ _).trans ((R.bind_ok _ _).trans (R.bind_ok _ _)))) (fun _ _ _ h => h.pre) (fun kind_861 => (tb_set (by decide) (cE ((((lenS p_word)).bind fun x881 => (t__law_draw p_script (p_k + (1 : Int)) x881))) (te_call (ta_cons (te_var 0 p_script rfl) fun x878 => (ta_cons (cE (R.ok (p_k + (1 : Int))) (te_bin o_add (te_var 1 p_k rfl) (te_int (1 : Int))) ((R.bind_ok _ _).trans (R.bind_ok _ _))) fun x879 => (ta_cons (cE ((lenS p_word)) (te_cb1 c_lenS (te_var 2 p_word rfl)) (R.bind_ok _ _)) fun x880 => (ta_nil fun cs hc d874 h877 d873 h876 d872 h875 => f__law_draw k x878 x879 x880 cs [d872, d873, d874] hc ⟨d872, [d873, d874], rfl, h875, ⟨d873, [d874], rfl, h876, ⟨d874, [], rfl, h877, rfl⟩⟩⟩))))) ((R.bind_ok _ _).trans (R.bind_ok _ _))) (fun _ _ _ h => h.pre) (fun spot_871 => (tb_setP (by decide) (te_str (" !\"#$&'()*+,-./:;<=>?\u0040[\\]^_`{|}~" : Str)) (fun marks_882 => (tb_seq (tb_ifP (tt_tst (cE (R.ok (eqC kind_861 (0 : Int))) (te_bin o_eqS (te_var 3 kind_861 rfl) (te_int (0 : Int))) ((R.bind_ok _ _).trans (R.bind_ok _ _))))
 (tb_last (tb_retP (t := R.ok ("" : Str)) (te_str ("" : Str)) (fun c p hp hq => ⟨hp, _, rfl, hq⟩)))
 (tb_nxseq (tb_seq (tb_ifP (tt_tst (cE (R.ok (eqC kind_861 (1 : Int))) (te_bin o_eqS (te_var 3 kind_861 rfl) (te_int (1 : Int))) ((R.bind_ok _ _).trans (R.bind_ok _ _))))
 (tb_last (tb_ret (l := fun v884 => R.ok v884) (cE ((slS p_word none (some (1 : Int)))) (te_sl sl_s (te_var 2 p_word rfl) to_none (cE (R.ok (some (1 : Int))) (to_some (te_int (1 : Int))) (R.bind_ok _ _))) ((R.bind_ok _ _).trans ((R.bind_ok _ _).trans (R.bind_ok _ _)))) (fun _ _ _ h => h.pre) (fun v884 c p hp hq => ⟨hp, _, rfl, hq⟩)))
 (tb_nxseq (tb_seq (tb_ifP (tt_tst (cE (R.ok (eqC kind_861 (2 : Int))) (te_bin o_eqS (te_var 3 kind_861 rfl) (te_int (2 : Int))) ((R.bind_ok _ _).trans (R.bind_ok _ _))))
 (tb_last (tb_ret (l := fun v886 => R.ok v886) (cE ((((catS p_word ("abcdefghij0" : Str))).bind fun x885 => (slS x885 none (some (12 : Int))))) (te_sl sl_s (cE ((catS p_word ("abcdefghij0" : Str))) (te_bin o_catS (te_var 2 p_word rfl) (te_str ("abcdefghij0" : Str))) ((R.bind_ok _ _).trans (R.bind_ok _ _))) to_none (cE (R.ok (some (12 : Int))) (to_some (te_int (12 : Int))) (R.bind_ok _ _))) (congrArg (R.bind _) (funext fun _ => ((R.bind_ok _ _).trans (R.bind_ok _ _))))) (fun _ _ _ h => h.pre) (fun v886 c p hp hq => ⟨hp, _, rfl, hq⟩)))
 (tb_nxseq (tb_seq (tb_ifP (tt_tst (cE (R.ok (eqC kind_861 (3 : Int))) (te_bin o_eqS (te_var 3 kind_861 rfl) (te_int (3 : Int))) ((R.bind_ok _ _).trans (R.bind_ok _ _))))
 (tb_last (tb_ret (l := fun v888 => R.ok v888) (cE ((((catS p_word ("abcdefghijk0" : Str))).bind fun x887 => (slS x887 none (some (13 : Int))))) (te_sl sl_s (cE ((catS p_word ("abcdefghijk0" : Str))) (te_bin o_catS (te_var 2 p_word rfl) (te_str ("abcdefghijk0" : Str))) ((R.bind_ok _ _).trans (R.bind_ok _ _))) to_none (cE (R.ok (some (13 : Int))) (to_some (te_int (13 : Int))) (R.bind_ok _ _))) (congrArg (R.bind _) (funext fun _ => ((R.bind_ok _ _).trans (R.bind_ok _ _))))) (fun _ _ _ h => h.pre) (fun v888 c p hp hq => ⟨hp, _, rfl, hq⟩)))
 (tb_nxseq (tb_seq (tb_ifP (tt_tst (cE (R.ok (eqC kind_861 (4 : Int))) (te_bin o_eqS (te_var 3 kind_861 rfl) (te_int (4 : Int))) ((R.bind_ok _ _).trans (R.bind_ok _ _))))
 (tb_last (tb_ret (l := fun v903 => R.ok v903) (te_bin o_catS (te_bin o_catS (cE ((slS p_word none (some spot_871))) (te_sl sl_s (te_var 2 p_word rfl) to_none (cE (R.ok (some spot_871)) (to_some (te_var 4 spot_871 rfl)) (R.bind_ok _ _))) ((R.bind_ok _ _).trans ((R.bind_ok _ _).trans (R.bind_ok _ _)))) (cE ((((t__law_draw p_script (p_k + (2 : Int)) (26 : Int))).bind fun x898 => (ixS ("ABCDEFGHIJKLMNOPQRSTUVWXYZ" : Str) x898))) (te_bin o_ixS (te_str ("ABCDEFGHIJKLMNOPQRSTUVWXYZ" : Str)) (cE ((t__law_draw p_script (p_k + (2 : Int)) (26 : Int))) (te_call (ta_cons (te_var 0 p_script rfl) fun x895 => (ta_cons (cE (R.ok (p_k + (2 : Int))) (te_bin o_add (te_var 1 p_k rfl) (te_int (2 : Int))) ((R.bind_ok _ _).trans (R.bind_ok _ _))) fun x896 => (ta_cons (te_int (26 : Int)) fun x897 => (ta_nil fun cs hc d891 h894 d890 h893 d889 h892 => f__law_draw k x895 x896 x897 cs [d889, d890, d891] hc ⟨d889, [d890, d891], rfl, h892, ⟨d890, [d891], rfl, h893, ⟨d891, [], rfl, h894, rfl⟩⟩⟩))))) ((R.bind_ok _ _).trans ((R.bind_ok _ _).trans (R.bind_ok _ _))))) (R.bind_ok _ _))) (cE ((slS p_word (some (spot_871 + (1 : Int))) none)) (te_sl sl_s (te_var 2 p_word rfl) (cE (R.ok (some (spot_871 + (1 : Int)))) (to_some (cE (R.ok (spot_871 + (1 : Int))) (te_bin o_add (te_var 4 spot_871 rfl) (te_int (1 : Int))) ((R.bind_ok _ _).trans (R.bind_ok _ _)))) (R.bind_ok _ _)) to_none) ((R.bind_ok _ _).trans ((R.bind_ok _ _).trans (R.bind_ok _ _))))) (fun _ _ _ h => h.pre) (fun v903 c p hp hq => ⟨hp, _, rfl, hq⟩)))
 (tb_nxseq (tb_seq (tb_ifP (tt_tst (cE (R.ok (eqC kind_861 (5 : Int))) (te_bin o_eqS (te_var 3 kind_861 rfl) (te_int (5 : Int))) ((R.bind_ok _ _).trans (R.bind_ok _ _))))
 (tb_last (tb_ret (l := fun v916 => R.ok v916) (te_bin o_catS (cE ((((t__law_draw p_script (p_k + (2 : Int)) (10 : Int))).bind fun x913 => (ixS ("0123456789" : Str) x913))) (te_bin o_ixS (te_str ("0123456789" : Str)) (cE ((t__law_draw p_script (p_k + (2 : Int)) (10 : Int))) (te_call (ta_cons (te_var 0 p_script rfl) fun x910 => (ta_cons (cE (R.ok (p_k + (2 : Int))) (te_bin o_add (te_var 1 p_k rfl) (te_int (2 : Int))) ((R.bind_ok _ _).trans (R.bind_ok _ _))) fun x911 => (ta_cons (te_int (10 : Int)) fun x912 => (ta_nil fun cs hc d906 h909 d905 h908 d904 h907 => f__law_draw k x910 x911 x912 cs [d904, d905, d906] hc ⟨d904, [d905, d906], rfl, h907, ⟨d905, [d906], rfl, h908, ⟨d906, [], rfl, h909, rfl⟩⟩⟩))))) ((R.bind_ok _ _).trans ((R.bind_ok _ _).trans (R.bind_ok _ _))))) (R.bind_ok _ _)) (cE ((slS p_word (some (1 : Int)) none)) (te_sl sl_s (te_var 2 p_word rfl) (cE (R.ok (some (1 : Int))) (to_some (te_int (1 : Int))) (R.bind_ok _ _)) to_none) ((R.bind_ok _ _).trans ((R.bind_ok _ _).trans (R.bind_ok _ _))))) (fun _ _ _ h => h.pre) (fun v916 c p hp hq => ⟨hp, _, rfl, hq⟩)))
 (tb_nxseq (tb_seq (tb_ifP (tt_tst (cE (R.ok (eqC kind_861 (6 : Int))) (te_bin o_eqS (te_var 3 kind_861 rfl) (te_int (6 : Int))) ((R.bind_ok _ _).trans (R.bind_ok _ _))))
 (tb_last (tb_ret (l := fun v918 => R.ok v918) (cE ((((slS p_word none (some (11 : Int)))).bind fun x917 => (catS x917 ("\n" : Str)))) (te_bin o_catS (cE ((slS p_word none (some (11 : Int)))) (te_sl sl_s (te_var 2 p_word rfl) to_none (cE (R.ok (some (11 : Int))) (to_some (te_int (11 : Int))) (R.bind_ok _ _))) ((R.bind_ok _ _).trans ((R.bind_ok _ _).trans (R.bind_ok _ _)))) (te_str ("\n" : Str))) (congrArg (R.bind _) (funext fun _ => (R.bind_ok _ _)))) (fun _ _ _ h => h.pre) (fun v918 c p hp hq => ⟨hp, _, rfl, hq⟩)))
 (tb_nxseq (tb_seq (tb_ifP (tt_tst (cE (R.ok (eqC kind_861 (7 : Int))) (te_bin o_eqS (te_var 3 kind_861 rfl) (te_int (7 : Int))) ((R.bind_ok _ _).trans (R.bind_ok _ _))))
 (tb_last (tb_ret (l := fun v920 => R.ok v920) (cE ((((slS p_word none (some (11 : Int)))).bind fun x919 => (catS x919 (" " : Str)))) (te_bin o_catS (cE ((slS p_word none (some (11 : Int)))) (te_sl sl_s (te_var 2 p_word rfl) to_none (cE (R.ok (some (11 : Int))) (to_some (te_int (11 : Int))) (R.bind_ok _ _))) ((R.bind_ok _ _).trans ((R.bind_ok _ _).trans (R.bind_ok _ _)))) (te_str (" " : Str))) (congrArg (R.bind _) (funext fun _ => (R.bind_ok _ _)))) (fun _ _ _ h => h.pre) (fun v920 c p hp hq => ⟨hp, _, rfl, hq⟩)))
 (tb_nxseq (tb_seq (tb_ifP (tt_tst (cE (R.ok (eqC kind_861 (8 : Int))) (te_bin o_eqS (te_var 3 kind_861 rfl) (te_int (8 : Int))) ((R.bind_ok _ _).trans (R.bind_ok _ _))))
 (tb_last (tb_ret (l := fun v922 => R.ok v922) (cE ((((slS p_word none (some (11 : Int)))).bind fun x921 => (catS (" " : Str) x921))) (te_bin o_catS (te_str (" " : Str)) (cE ((slS p_word none (some (11 : Int)))) (te_sl sl_s (te_var 2 p_word rfl) to_none (cE (R.ok (some (11 : Int))) (to_some (te_int (11 : Int))) (R.bind_ok _ _))) ((R.bind_ok _ _).trans ((R.bind_ok _ _).trans (R.bind_ok _ _))))) (R.bind_ok _ _)) (fun _ _ _ h => h.pre) (fun v922 c p hp hq => ⟨hp, _, rfl, hq⟩)))
 (tb_nxseq (tb_last (tb_ret (l := fun v938 => R.ok v938) (te_bin o_catS (te_bin o_catS (cE ((slS p_word none (some spot_871))) (te_sl sl_s (te_var 2 p_word rfl) to_none (cE (R.ok (some spot_871)) (to_some (te_var 4 spot_871 rfl)) (R.bind_ok _ _))) ((R.bind_ok _ _).trans ((R.bind_ok _ _).trans (R.bind_ok _ _)))) (cE ((((((lenS marks_882)).bind fun x932 => (t__law_draw p_script (p_k + (2 : Int)) x932))).bind fun x933 => (ixS marks_882 x933))) (te_bin o_ixS (te_var 5 marks_882 rfl) (cE ((((lenS marks_882)).bind fun x932 => (t__law_draw p_script (p_k + (2 : Int)) x932))) (te_call (ta_cons (te_var 0 p_script rfl) fun x929 => (ta_cons (cE (R.ok (p_k + (2 : Int))) (te_bin o_add (te_var 1 p_k rfl) (te_int (2 : Int))) ((R.bind_ok _ _).trans (R.bind_ok _ _))) fun x930 => (ta_cons (cE ((lenS marks_882)) (te_cb1 c_lenS (te_var 5 marks_882 rfl)) (R.bind_ok _ _)) fun x931 => (ta_nil fun cs hc d925 h928 d924 h927 d923 h926 => f__law_draw k x929 x930 x931 cs [d923, d924, d925] hc ⟨d923, [d924, d925], rfl, h926, ⟨d924, [d925], rfl, h927, ⟨d925, [], rfl, h928, rfl⟩⟩⟩))))) ((R.bind_ok _ _).trans (R.bind_ok _ _)))) (R.bind_ok _ _))) (cE ((slS p_word (some (spot_871 + (1 : Int))) none)) (te_sl sl_s (te_var 2 p_word rfl) (cE (R.ok (some (spot_871 + (1 : Int)))) (to_some (cE (R.ok (spot_871 + (1 : Int))) (te_bin o_add (te_var 4 spot_871 rfl) (te_int (1 : Int))) ((R.bind_ok _ _).trans (R.bind_ok _ _)))) (R.bind_ok _ _)) to_none) ((R.bind_ok _ _).trans ((R.bind_ok _ _).trans (R.bind_ok _ _))))) (fun _ _ _ h => h.pre) (fun v938 c p hp hq => ⟨hp, _, rfl, hq⟩))))))))))))))))))))))))))))))))))))
  exact h
set_option maxHeartbeats 4000000 in
theorem f__law_way_changed (k : Ks K) (p_script : Scr) (p_k : Int) (p_parts : (T3 (List (T2 Str Int)) (List Str) (List (T5 Str Str Str Int Int)))) (p_kind : Int) : FT K (F__law_way_changed K) [.v (enc K p_script), .v (enc K p_k), .v (enc K p_parts), .v (enc K p_kind)] (t__law_way_changed p_script p_k p_parts p_kind) := by
  refine ft_P (show 4 ≤ 11 by decide) fun base => ?_
  have h : TB K base 11 (entA 0 [.v (enc K p_script), .v (enc K p_k), .v (enc K p_parts), .v (enc K p_kind)]) (g__law_way_changed K) (Post.fn K base) _ :=
    (tb_set (by decide) (cE ((t__law_draw p_script p_k (len p_parts.c))) (te_call (ta_cons (te_var 0 p_script rfl) fun x1064 => (ta_cons (te_var 1 p_k rfl) fun x1065 => (ta_cons (cE (R.ok (len p_parts.c)) (te_cb1 c_lenL (te_up (cE (R.ok p_parts.c) (te_prj (k := 2) (fun (x : (T3 (List (T2 Str Int)) (List Str) (List (T5 Str Str Str Int Int)))) => x.c) (fun _ => ⟨_, rfl, rfl⟩) (te_var 2 p_parts rfl)) (R.bind_ok _ _)))) (R.bind_ok _ _)) fun x1066 => (ta_nil fun cs hc d1060 h1063 d1059 h1062 d1058 h1061 => f__law_draw k x1064 x1065 x1066 cs [d1058, d1059, d1060] hc ⟨d1058, [d1059, d1060], rfl, h1061, ⟨d1059, [d1060], rfl, h1062, ⟨d1060, [], rfl, h1063, rfl⟩⟩⟩))))) ((R.bind_ok _ _).trans ((R.bind_ok _ _).trans (R.bind_ok _ _)))) (fun _ _ _ h => h.pre) (fun at_1057 => (tb_set (by decide) (cE ((ixL p_parts.c at_1057)) (te_bin o_ixL (te_up (cE (R.ok p_parts.c) (te_prj (k := 2) (fun (x : (T3 (List (T2 Str Int)) (List Str) (List (T5 Str Str Str Int Int)))) => x.c) (fun _ => ⟨_, rfl, rfl⟩) (te_var 2 p_parts rfl)) (R.bind_ok _ _))) (te_var 4 at_1057 rfl)) ((R.bind_ok _ _).trans (R.bind_ok _ _))) (fun _ _ _ h => h.pre) (fun way_1067 => (tb_set (by decide) (cE ((t__law_draw p_script (p_k + (1 : Int)) (10000 : Int))) (te_call (ta_cons (te_var 0 p_script rfl) fun x1075 => (ta_cons (cE (R.ok (p_k + (1 : Int))) (te_bin o_add (te_var 1 p_k rfl) (te_int (1 : Int))) ((R.bind_ok _ _).trans (R.bind_ok _ _))) fun x1076 => (ta_cons (te_int (10000 : Int)) fun x1077 => (ta_nil fun cs hc d1071 h1074 d1070 h1073 d1069 h1072 => f__law_draw k x1075 x1076 x1077 cs [d1069, d1070, d1071] hc ⟨d1069, [d1070, d1071], rfl, h1072, ⟨d1070, [d1071], rfl, h1073, ⟨d1071, [], rfl, h1074, rfl⟩⟩⟩))))) ((R.bind_ok _ _).trans ((R.bind_ok _ _).trans (R.bind_ok _ _)))) (fun _ _ _ h => h.pre) (fun far_1068 => (tb_set (by decide) (cE ((t__law_draw p_script (p_k + (2 : Int)) (6 : Int))) (te_call (ta_cons (te_var 0 p_script rfl) fun x1085 => (ta_cons (cE (R.ok (p_k + (2 : Int))) (te_bin o_add (te_var 1 p_k rfl) (te_int (2 : Int))) ((R.bind_ok _ _).trans (R.bind_ok _ _))) fun x1086 => (ta_cons (te_int (6 : Int)) fun x1087 => (ta_nil fun cs hc d1081 h1084 d1080 h1083 d1079 h1082 => f__law_draw k x1085 x1086 x1087 cs [d1079, d1080, d1081] hc ⟨d1079, [d1080, d1081], rfl, h1082, ⟨d1080, [d1081], rfl, h1083, ⟨d1081, [], rfl, h1084, rfl⟩⟩⟩))))) ((R.bind_ok _ _).trans ((R.bind_ok _ _).trans (R.bind_ok _ _)))) (fun _ _ _ h => h.pre) (fun choice_1078 => (tb_set (by decide) (cE ((((t__law_draw p_script (p_k + (1 : Int)) (len p_parts.b))).bind fun x1098 => (ixL p_parts.b x1098))) (te_bin o_ixL (te_up (cE (R.ok p_parts.b) (te_prj (k := 1) (fun (x : (T3 (List (T2 Str Int)) (List Str) (List (T5 Str Str Str Int Int)))) => x.b) (fun _ => ⟨_, rfl, rfl⟩) (te_var 2 p_parts rfl)) (R.bind_ok _ _))) (cE ((t__law_draw p_script (p_k + (1 : Int)) (len p_parts.b))) (te_call (ta_cons (te_var 0 p_script rfl) fun x1095 => (ta_cons (cE (R.ok (p_k + (1 : Int))) (te_bin o_add (te_var 1 p_k rfl) (te_int (1 : Int))) ((R.bind_ok _ _).trans (R.bind_ok _ _))) fun x1096 => (ta_cons (cE (R.ok (len p_parts.b)) (te_cb1 c_lenL (te_up (cE (R.ok p_parts.b) (te_prj (k := 1) (fun (x : (T3 (List (T2 Str Int)) (List Str) (List (T5 Str Str Str Int Int)))) => x.b) (fun _ => ⟨_, rfl, rfl⟩) (te_var 2 p_parts rfl)) (R.bind_ok _ _)))) (R.bind_ok _ _)) fun x1097 => (ta_nil fun cs hc d1091 h1094 d1090 h1093 d1089 h1092 => f__law_draw k x1095 x1096 x1097 cs [d1089, d1090, d1091] hc ⟨d1089, [d1090, d1091], rfl, h1092, ⟨d1090, [d1091], rfl, h1093, ⟨d1091, [], rfl, h1094, rfl⟩⟩⟩))))) ((R.bind_ok _ _).trans ((R.bind_ok _ _).trans (R.bind_ok _ _))))) (R.bind_ok _ _)) (fun _ _ _ h => h.pre) (fun gate_1088 => (tb_join (Γj := (fun (s1134 : (T5 Str Str Str Int Int)) => [(5, .v (enc K s1134)), (0, .v (enc K p_script)), (1, .v (enc K p_k)), (2, .v (enc K p_parts)), (3, .v (enc K p_kind)), (4, .v (enc K at_1057)), (6, .v (enc K far_1068)), (7, .v (enc K choice_1078)), (8, .v (enc K gate_1088))])) (tb_ifP (tt_tst (cE (R.ok (eqC p_kind (0 : Int))) (te_bin o_eqS (te_var 3 p_kind rfl) (te_int (0 : Int))) ((R.bind_ok _ _).trans (R.bind_ok _ _))))
 (tb_last (tb_set (by decide) (cE ((((ixL ([(-(1 : Int)), (0 : Int), (50 : Int), (51 : Int), ((-(1 : Int)) - far_1068), ((51 : Int) + far_1068)] : (List Int)) choice_1078)).bind fun x1169 => R.ok (⟨way_1067.a, way_1067.b, way_1067.c, x1169, way_1067.e⟩ : (T5 Str Str Str Int Int)))) (te_tupA (ta_cons (cE (R.ok way_1067.a) (te_prj (k := 0) (fun (x : (T5 Str Str Str Int Int)) => x.a) (fun _ => ⟨_, rfl, rfl⟩) (te_var 5 way_1067 rfl)) (R.bind_ok _ _)) fun x1164 => (ta_cons (cE (R.ok way_1067.b) (te_prj (k := 1) (fun (x : (T5 Str Str Str Int Int)) => x.b) (fun _ => ⟨_, rfl, rfl⟩) (te_var 5 way_1067 rfl)) (R.bind_ok _ _)) fun x1165 => (ta_cons (cE (R.ok way_1067.c) (te_prj (k := 2) (fun (x : (T5 Str Str Str Int Int)) => x.c) (fun _ => ⟨_, rfl, rfl⟩) (te_var 5 way_1067 rfl)) (R.bind_ok _ _)) fun x1166 => (ta_cons (cE ((ixL ([(-(1 : Int)), (0 : Int), (50 : Int), (51 : Int), ((-(1 : Int)) - far_1068), ((51 : Int) + far_1068)] : (List Int)) choice_1078)) (te_bin o_ixL (te_up (te_pub (cE (R.ok ([(-(1 : Int)), (0 : Int), (50 : Int), (51 : Int), ((-(1 : Int)) - far_1068), ((51 : Int) + far_1068)] : (List Int))) (te_lstA (ta_cons (cE (R.ok (-(1 : Int))) (te_neg (te_int (1 : Int))) (R.bind_ok _ _)) fun x1148 => (ta_cons (te_int (0 : Int)) fun x1149 => (ta_cons (te_int (50 : Int)) fun x1150 => (ta_cons (te_int (51 : Int)) fun x1151 => (ta_cons (cE (R.ok ((-(1 : Int)) - far_1068)) (te_bin o_sub (cE (R.ok (-(1 : Int))) (te_neg (te_int (1 : Int))) (R.bind_ok _ _)) (te_var 6 far_1068 rfl)) ((R.bind_ok _ _).trans (R.bind_ok _ _))) fun x1152 => (ta_cons (cE (R.ok ((51 : Int) + far_1068)) (te_bin o_add (te_int (51 : Int)) (te_var 6 far_1068 rfl)) ((R.bind_ok _ _).trans (R.bind_ok _ _))) fun x1153 => (ta_nil fun cs hc d1141 h1147 d1140 h1146 d1139 h1145 d1138 h1144 d1137 h1143 d1136 h1142 => ⟨[x1148, x1149, x1150, x1151, x1152, x1153], rfl, (by rw [h1142, h1143, h1144, h1145, h1146, h1147]; rfl), small_le (show 6 ≤ 1000000 by decide)⟩)))))))) ((R.bind_ok _ _).trans ((R.bind_ok _ _).trans ((R.bind_ok _ _).trans ((R.bind_ok _ _).trans ((R.bind_ok _ _).trans (R.bind_ok _ _))))))))) (te_var 7 choice_1078 rfl)) ((R.bind_ok _ _).trans (R.bind_ok _ _))) fun x1167 => (ta_cons (cE (R.ok way_1067.e) (te_prj (k := 4) (fun (x : (T5 Str Str Str Int Int)) => x.e) (fun _ => ⟨_, rfl, rfl⟩) (te_var 5 way_1067 rfl)) (R.bind_ok _ _)) fun x1168 => (ta_nil fun cs hc d1158 h1163 d1157 h1162 d1156 h1161 d1155 h1160 d1154 h1159 => ⟨(⟨x1164, x1165, x1166, x1167, x1168⟩ : (T5 Str Str Str Int Int)), rfl, (by rw [h1159, h1160, h1161, h1162, h1163]; rfl), small_le (show 5 ≤ 1000000 by decide)⟩))))))) ((R.bind_ok _ _).trans ((R.bind_ok _ _).trans ((R.bind_ok _ _).trans (congrArg (R.bind _) (funext fun _ => (R.bind_ok _ _))))))) (fun _ _ _ h => h.pre) (fun way_1135 => (tb_next (t := R.ok way_1135) fun e c h => ⟨_, rfl, h.sub (Sub.cons rfl (Sub.cons rfl (Sub.cons rfl (Sub.cons rfl (Sub.cons rfl (Sub.cons rfl (Sub.cons rfl (Sub.cons rfl (Sub.cons rfl Sub.nil)))))))))⟩))))
 (tb_next (t := R.ok way_1067) fun e c h => ⟨_, rfl, h.sub (Sub.cons rfl (Sub.cons rfl (Sub.cons rfl (Sub.cons rfl (Sub.cons rfl (Sub.cons rfl (Sub.cons rfl (Sub.cons rfl (Sub.cons rfl Sub.nil)))))))))⟩)) (fun s1134 => (tb_join (Γj := (fun (s1205 : (T5 Str Str Str Int Int)) => [(5, .v (enc K s1205)), (0, .v (enc K p_script)), (1, .v (enc K p_k)), (2, .v (enc K p_parts)), (3, .v (enc K p_kind)), (4, .v (enc K at_1057)), (7, .v (enc K choice_1078)), (8, .v (enc K gate_1088))])) (tb_ifP (tt_tst (cE (R.ok (eqC p_kind (1 : Int))) (te_bin o_eqS (te_var 3 p_kind rfl) (te_int (1 : Int))) ((R.bind_ok _ _).trans (R.bind_ok _ _))))
 (tb_last (tb_set (by decide) (cE ((((ixL ([(0 : Int), (1 : Int), (5 : Int), (6 : Int), ((-(1 : Int)) - far_1068), ((6 : Int) + far_1068)] : (List Int)) choice_1078)).bind fun x1240 => R.ok (⟨s1134.a, s1134.b, s1134.c, s1134.d, x1240⟩ : (T5 Str Str Str Int Int)))) (te_tupA (ta_cons (cE (R.ok s1134.a) (te_prj (k := 0) (fun (x : (T5 Str Str Str Int Int)) => x.a) (fun _ => ⟨_, rfl, rfl⟩) (te_var 5 s1134 rfl)) (R.bind_ok _ _)) fun x1235 => (ta_cons (cE (R.ok s1134.b) (te_prj (k := 1) (fun (x : (T5 Str Str Str Int Int)) => x.b) (fun _ => ⟨_, rfl, rfl⟩) (te_var 5 s1134 rfl)) (R.bind_ok _ _)) fun x1236 => (ta_cons (cE (R.ok s1134.c) (te_prj (k := 2) (fun (x : (T5 Str Str Str Int Int)) => x.c) (fun _ => ⟨_, rfl, rfl⟩) (te_var 5 s1134 rfl)) (R.bind_ok _ _)) fun x1237 => (ta_cons (cE (R.ok s1134.d) (te_prj (k := 3) (fun (x : (T5 Str Str Str Int Int)) => x.d) (fun _ => ⟨_, rfl, rfl⟩) (te_var 5 s1134 rfl)) (R.bind_ok _ _)) fun x1238 => (ta_cons (cE ((ixL ([(0 : Int), (1 : Int), (5 : Int), (6 : Int), ((-(1 : Int)) - far_1068), ((6 : Int) + far_1068)] : (List Int)) choice_1078)) (te_bin o_ixL (te_up (te_pub (cE (R.ok ([(0 : Int), (1 : Int), (5 : Int), (6 : Int), ((-(1 : Int)) - far_1068), ((6 : Int) + far_1068)] : (List Int))) (te_lstA (ta_cons (te_int (0 : Int)) fun x1219 => (ta_cons (te_int (1 : Int)) fun x1220 => (ta_cons (te_int (5 : Int)) fun x1221 => (ta_cons (te_int (6 : Int)) fun x1222 => (ta_cons (cE (R.ok ((-(1 : Int)) - far_1068)) (te_bin o_sub (cE (R.ok (-(1 : Int))) (te_neg (te_int (1 : Int))) (R.bind_ok _ _)) (te_var 6 far_1068 rfl)) ((R.bind_ok _ _).trans (R.bind_ok _ _))) fun x1223 => (ta_cons (cE (R.ok ((6 : Int) + far_1068)) (te_bin o_add (te_int (6 : Int)) (te_var 6 far_1068 rfl)) ((R.bind_ok _ _).trans (R.bind_ok _ _))) fun x1224 => (ta_nil fun cs hc d1212 h1218 d1211 h1217 d1210 h1216 d1209 h1215 d1208 h1214 d1207 h1213 => ⟨[x1219, x1220, x1221, x1222, x1223, x1224], rfl, (by rw [h1213, h1214, h1215, h1216, h1217, h1218]; rfl), small_le (show 6 ≤ 1000000 by decide)⟩)))))))) ((R.bind_ok _ _).trans ((R.bind_ok _ _).trans ((R.bind_ok _ _).trans ((R.bind_ok _ _).trans ((R.bind_ok _ _).trans (R.bind_ok _ _))))))))) (te_var 7 choice_1078 rfl)) ((R.bind_ok _ _).trans (R.bind_ok _ _))) fun x1239 => (ta_nil fun cs hc d1229 h1234 d1228 h1233 d1227 h1232 d1226 h1231 d1225 h1230 => ⟨(⟨x1235, x1236, x1237, x1238, x1239⟩ : (T5 Str Str Str Int Int)), rfl, (by rw [h1230, h1231, h1232, h1233, h1234]; rfl), small_le (show 5 ≤ 1000000 by decide)⟩))))))) ((R.bind_ok _ _).trans ((R.bind_ok _ _).trans ((R.bind_ok _ _).trans (R.bind_ok _ _))))) (fun _ _ _ h => h.pre) (fun way_1206 => (tb_next (t := R.ok way_1206) fun e c h => ⟨_, rfl, h.sub (Sub.cons rfl (Sub.cons rfl (Sub.cons rfl (Sub.cons rfl (Sub.cons rfl (Sub.cons rfl (Sub.cons rfl (Sub.cons rfl Sub.nil))))))))⟩))))
 (tb_next (t := R.ok s1134) fun e c h => ⟨_, rfl, h.sub (Sub.cons rfl (Sub.cons rfl (Sub.cons rfl (Sub.cons rfl (Sub.cons rfl (Sub.cons rfl (Sub.cons rfl (Sub.cons rfl Sub.nil))))))))⟩)) (fun s1205 => (tb_join (Γj := (fun (s1302 : (T5 Str Str Str Int Int)) => [(5, .v (enc K s1302)), (0, .v (enc K p_script)), (1, .v (enc K p_k)), (2, .v (enc K p_parts)), (3, .v (enc K p_kind)), (4, .v (enc K at_1057)), (7, .v (enc K choice_1078))])) (tb_ifP (tt_tst (cE (R.ok (eqC p_kind (2 : Int))) (te_bin o_eqS (te_var 3 p_kind rfl) (te_int (2 : Int))) ((R.bind_ok _ _).trans (R.bind_ok _ _))))
 (tb_set (by decide) (cE ((((((((t__law_name p_script (35 : Int))).bind fun x1328 => R.ok ([gate_1088, gate_1088, x1328, s1205.a, gate_1088, ("" : Str)] : (List Str)))).bind fun x1329 => (ixL x1329 choice_1078))).bind fun x1345 => R.ok (⟨s1205.a, x1345, s1205.c, s1205.d, s1205.e⟩ : (T5 Str Str Str Int Int)))) (te_tupA (ta_cons (cE (R.ok s1205.a) (te_prj (k := 0) (fun (x : (T5 Str Str Str Int Int)) => x.a) (fun _ => ⟨_, rfl, rfl⟩) (te_var 5 s1205 rfl)) (R.bind_ok _ _)) fun x1340 => (ta_cons (cE ((((((t__law_name p_script (35 : Int))).bind fun x1328 => R.ok ([gate_1088, gate_1088, x1328, s1205.a, gate_1088, ("" : Str)] : (List Str)))).bind fun x1329 => (ixL x1329 choice_1078))) (te_bin o_ixL (te_up (te_pub (cE ((((t__law_name p_script (35 : Int))).bind fun x1328 => R.ok ([gate_1088, gate_1088, x1328, s1205.a, gate_1088, ("" : Str)] : (List Str)))) (te_lstA (ta_cons (te_var 8 gate_1088 rfl) fun x1322 => (ta_cons (te_var 8 gate_1088 rfl) fun x1323 => (ta_cons (cE ((t__law_name p_script (35 : Int))) (te_call (ta_cons (te_var 0 p_script rfl) fun x1308 => (ta_cons (te_int (35 : Int)) fun x1309 => (ta_nil fun cs hc d1305 h1307 d1304 h1306 => f__law_name k x1308 x1309 cs [d1304, d1305] hc ⟨d1304, [d1305], rfl, h1306, ⟨d1305, [], rfl, h1307, rfl⟩⟩)))) ((R.bind_ok _ _).trans (R.bind_ok _ _))) fun x1324 => (ta_cons (cE (R.ok s1205.a) (te_prj (k := 0) (fun (x : (T5 Str Str Str Int Int)) => x.a) (fun _ => ⟨_, rfl, rfl⟩) (te_var 5 s1205 rfl)) (R.bind_ok _ _)) fun x1325 => (ta_cons (te_var 8 gate_1088 rfl) fun x1326 => (ta_cons (te_str ("" : Str)) fun x1327 => (ta_nil fun cs hc d1315 h1321 d1314 h1320 d1313 h1319 d1312 h1318 d1311 h1317 d1310 h1316 => ⟨[x1322, x1323, x1324, x1325, x1326, x1327], rfl, (by rw [h1316, h1317, h1318, h1319, h1320, h1321]; rfl), small_le (show 6 ≤ 1000000 by decide)⟩)))))))) ((R.bind_ok _ _).trans ((R.bind_ok _ _).trans (congrArg (R.bind _) (funext fun _ => ((R.bind_ok _ _).trans ((R.bind_ok _ _).trans (R.bind_ok _ _)))))))))) (te_var 7 choice_1078 rfl)) (congrArg (R.bind _) (funext fun _ => (R.bind_ok _ _)))) fun x1341 => (ta_cons (cE (R.ok s1205.c) (te_prj (k := 2) (fun (x : (T5 Str Str Str Int Int)) => x.c) (fun _ => ⟨_, rfl, rfl⟩) (te_var 5 s1205 rfl)) (R.bind_ok _ _)) fun x1342 => (ta_cons (cE (R.ok s1205.d) (te_prj (k := 3) (fun (x : (T5 Str Str Str Int Int)) => x.d) (fun _ => ⟨_, rfl, rfl⟩) (te_var 5 s1205 rfl)) (R.bind_ok _ _)) fun x1343 => (ta_cons (cE (R.ok s1205.e) (te_prj (k := 4) (fun (x : (T5 Str Str Str Int Int)) => x.e) (fun _ => ⟨_, rfl, rfl⟩) (te_var 5 s1205 rfl)) (R.bind_ok _ _)) fun x1344 => (ta_nil fun cs hc d1334 h1339 d1333 h1338 d1332 h1337 d1331 h1336 d1330 h1335 => ⟨(⟨x1340, x1341, x1342, x1343, x1344⟩ : (T5 Str Str Str Int Int)), rfl, (by rw [h1335, h1336, h1337, h1338, h1339]; rfl), small_le (show 5 ≤ 1000000 by decide)⟩))))))) ((R.bind_ok _ _).trans (congrArg (R.bind _) (funext fun _ => ((R.bind_ok _ _).trans ((R.bind_ok _ _).trans (R.bind_ok _ _))))))) (fun _ _ _ h => h.pre) (fun way_1303 => (tb_ifP (tt_tst (cE (R.ok (eqC way_1303.b way_1303.c)) (te_bin o_eqS (cE (R.ok way_1303.b) (te_prj (k := 1) (fun (x : (T5 Str Str Str Int Int)) => x.b) (fun _ => ⟨_, rfl, rfl⟩) (te_var 5 way_1303 rfl)) (R.bind_ok _ _)) (cE (R.ok way_1303.c) (te_prj (k := 2) (fun (x : (T5 Str Str Str Int Int)) => x.c) (fun _ => ⟨_, rfl, rfl⟩) (te_var 5 way_1303 rfl)) (R.bind_ok _ _))) ((R.bind_ok _ _).trans (R.bind_ok _ _))))
 (tb_last (tb_set (by decide) (cE ((((((ixL p_parts.a (0 : Int))).bind fun x1347 => R.ok x1347.a)).bind fun x1363 => R.ok (⟨way_1303.a, way_1303.b, x1363, way_1303.d, way_1303.e⟩ : (T5 Str Str Str Int Int)))) (te_tupA (ta_cons (cE (R.ok way_1303.a) (te_prj (k := 0) (fun (x : (T5 Str Str Str Int Int)) => x.a) (fun _ => ⟨_, rfl, rfl⟩) (te_var 5 way_1303 rfl)) (R.bind_ok _ _)) fun x1358 => (ta_cons (cE (R.ok way_1303.b) (te_prj (k := 1) (fun (x : (T5 Str Str Str Int Int)) => x.b) (fun _ => ⟨_, rfl, rfl⟩) (te_var 5 way_1303 rfl)) (R.bind_ok _ _)) fun x1359 => (ta_cons (te_prj (k := 0) (fun (x : (T2 Str Int)) => x.a) (fun _ => ⟨_, rfl, rfl⟩) (cE ((ixL p_parts.a (0 : Int))) (te_bin o_ixL (te_up (cE (R.ok p_parts.a) (te_prj (k := 0) (fun (x : (T3 (List (T2 Str Int)) (List Str) (List (T5 Str Str Str Int Int)))) => x.a) (fun _ => ⟨_, rfl, rfl⟩) (te_var 2 p_parts rfl)) (R.bind_ok _ _))) (te_int (0 : Int))) ((R.bind_ok _ _).trans (R.bind_ok _ _)))) fun x1360 => (ta_cons (cE (R.ok way_1303.d) (te_prj (k := 3) (fun (x : (T5 Str Str Str Int Int)) => x.d) (fun _ => ⟨_, rfl, rfl⟩) (te_var 5 way_1303 rfl)) (R.bind_ok _ _)) fun x1361 => (ta_cons (cE (R.ok way_1303.e) (te_prj (k := 4) (fun (x : (T5 Str Str Str Int Int)) => x.e) (fun _ => ⟨_, rfl, rfl⟩) (te_var 5 way_1303 rfl)) (R.bind_ok _ _)) fun x1362 => (ta_nil fun cs hc d1352 h1357 d1351 h1356 d1350 h1355 d1349 h1354 d1348 h1353 => ⟨(⟨x1358, x1359, x1360, x1361, x1362⟩ : (T5 Str Str Str Int Int)), rfl, (by rw [h1353, h1354, h1355, h1356, h1357]; rfl), small_le (show 5 ≤ 1000000 by decide)⟩))))))) ((R.bind_ok _ _).trans ((R.bind_ok _ _).trans (congrArg (R.bind _) (funext fun _ => ((R.bind_ok _ _).trans (R.bind_ok _ _))))))) (fun _ _ _ h => h.pre) (fun way_1346 => (tb_next (t := R.ok way_1346) fun e c h => ⟨_, rfl, h.sub (Sub.cons rfl (Sub.cons rfl (Sub.cons rfl (Sub.cons rfl (Sub.cons rfl (Sub.cons rfl (Sub.cons rfl Sub.nil)))))))⟩))))
 (tb_next (t := R.ok way_1303) fun e c h => ⟨_, rfl, h.sub (Sub.cons rfl (Sub.cons rfl (Sub.cons rfl (Sub.cons rfl (Sub.cons rfl (Sub.cons rfl (Sub.cons rfl Sub.nil)))))))⟩))))
 (tb_next (t := R.ok s1205) fun e c h => ⟨_, rfl, h.sub (Sub.cons rfl (Sub.cons rfl (Sub.cons rfl (Sub.cons rfl (Sub.cons rfl (Sub.cons rfl (Sub.cons rfl Sub.nil)))))))⟩)) (fun s1302 => (tb_join (Γj := (fun (s1419 : (T5 Str Str Str Int Int)) => [(5, .v (enc K s1419)), (2, .v (enc K p_parts)), (4, .v (enc K at_1057))])) (tb_ifP (tt_tst (cE (R.ok (eqC p_kind (3 : Int))) (te_bin o_eqS (te_var 3 p_kind rfl) (te_int (3 : Int))) ((R.bind_ok _ _).trans (R.bind_ok _ _))))
 (tb_set (by decide) (te_prj (k := 0) (fun (x : (T5 Str Str Str Int Int)) => x.a) (fun _ => ⟨_, rfl, rfl⟩) (cE ((((t__law_draw p_script (p_k + (1 : Int)) (len p_parts.c))).bind fun x1430 => (ixL p_parts.c x1430))) (te_bin o_ixL (te_up (cE (R.ok p_parts.c) (te_prj (k := 2) (fun (x : (T3 (List (T2 Str Int)) (List Str) (List (T5 Str Str Str Int Int)))) => x.c) (fun _ => ⟨_, rfl, rfl⟩) (te_var 2 p_parts rfl)) (R.bind_ok _ _))) (cE ((t__law_draw p_script (p_k + (1 : Int)) (len p_parts.c))) (te_call (ta_cons (te_var 0 p_script rfl) fun x1427 => (ta_cons (cE (R.ok (p_k + (1 : Int))) (te_bin o_add (te_var 1 p_k rfl) (te_int (1 : Int))) ((R.bind_ok _ _).trans (R.bind_ok _ _))) fun x1428 => (ta_cons (cE (R.ok (len p_parts.c)) (te_cb1 c_lenL (te_up (cE (R.ok p_parts.c) (te_prj (k := 2) (fun (x : (T3 (List (T2 Str Int)) (List Str) (List (T5 Str Str Str Int Int)))) => x.c) (fun _ => ⟨_, rfl, rfl⟩) (te_var 2 p_parts rfl)) (R.bind_ok _ _)))) (R.bind_ok _ _)) fun x1429 => (ta_nil fun cs hc d1423 h1426 d1422 h1425 d1421 h1424 => f__law_draw k x1427 x1428 x1429 cs [d1421, d1422, d1423] hc ⟨d1421, [d1422, d1423], rfl, h1424, ⟨d1422, [d1423], rfl, h1425, ⟨d1423, [], rfl, h1426, rfl⟩⟩⟩))))) ((R.bind_ok _ _).trans ((R.bind_ok _ _).trans (R.bind_ok _ _))))) (R.bind_ok _ _))) (fun _ _ _ h => h.pre) (fun other_1420 => (tb_last (tb_set (by decide) (cE ((((((((t__law_name p_script (35 : Int))).bind fun x1457 => R.ok ([s1302.b, s1302.b, x1457, s1302.a, other_1420, ("" : Str)] : (List Str)))).bind fun x1458 => (ixL x1458 choice_1078))).bind fun x1474 => R.ok (⟨s1302.a, s1302.b, x1474, s1302.d, s1302.e⟩ : (T5 Str Str Str Int Int)))) (te_tupA (ta_cons (cE (R.ok s1302.a) (te_prj (k := 0) (fun (x : (T5 Str Str Str Int Int)) => x.a) (fun _ => ⟨_, rfl, rfl⟩) (te_var 5 s1302 rfl)) (R.bind_ok _ _)) fun x1469 => (ta_cons (cE (R.ok s1302.b) (te_prj (k := 1) (fun (x : (T5 Str Str Str Int Int)) => x.b) (fun _ => ⟨_, rfl, rfl⟩) (te_var 5 s1302 rfl)) (R.bind_ok _ _)) fun x1470 => (ta_cons (cE ((((((t__law_name p_script (35 : Int))).bind fun x1457 => R.ok ([s1302.b, s1302.b, x1457, s1302.a, other_1420, ("" : Str)] : (List Str)))).bind fun x1458 => (ixL x1458 choice_1078))) (te_bin o_ixL (te_up (te_pub (cE ((((t__law_name p_script (35 : Int))).bind fun x1457 => R.ok ([s1302.b, s1302.b, x1457, s1302.a, other_1420, ("" : Str)] : (List Str)))) (te_lstA (ta_cons (cE (R.ok s1302.b) (te_prj (k := 1) (fun (x : (T5 Str Str Str Int Int)) => x.b) (fun _ => ⟨_, rfl, rfl⟩) (te_var 5 s1302 rfl)) (R.bind_ok _ _)) fun x1451 => (ta_cons (cE (R.ok s1302.b) (te_prj (k := 1) (fun (x : (T5 Str Str Str Int Int)) => x.b) (fun _ => ⟨_, rfl, rfl⟩) (te_var 5 s1302 rfl)) (R.bind_ok _ _)) fun x1452 => (ta_cons (cE ((t__law_name p_script (35 : Int))) (te_call (ta_cons (te_var 0 p_script rfl) fun x1437 => (ta_cons (te_int (35 : Int)) fun x1438 => (ta_nil fun cs hc d1434 h1436 d1433 h1435 => f__law_name k x1437 x1438 cs [d1433, d1434] hc ⟨d1433, [d1434], rfl, h1435, ⟨d1434, [], rfl, h1436, rfl⟩⟩)))) ((R.bind_ok _ _).trans (R.bind_ok _ _))) fun x1453 => (ta_cons (cE (R.ok s1302.a) (te_prj (k := 0) (fun (x : (T5 Str Str Str Int Int)) => x.a) (fun _ => ⟨_, rfl, rfl⟩) (te_var 5 s1302 rfl)) (R.bind_ok _ _)) fun x1454 => (ta_cons (te_var 9 other_1420 rfl) fun x1455 => (ta_cons (te_str ("" : Str)) fun x1456 => (ta_nil fun cs hc d1444 h1450 d1443 h1449 d1442 h1448 d1441 h1447 d1440 h1446 d1439 h1445 => ⟨[x1451, x1452, x1453, x1454, x1455, x1456], rfl, (by rw [h1445, h1446, h1447, h1448, h1449, h1450]; rfl), small_le (show 6 ≤ 1000000 by decide)⟩)))))))) ((R.bind_ok _ _).trans ((R.bind_ok _ _).trans (congrArg (R.bind _) (funext fun _ => ((R.bind_ok _ _).trans ((R.bind_ok _ _).trans (R.bind_ok _ _)))))))))) (te_var 7 choice_1078 rfl)) (congrArg (R.bind _) (funext fun _ => (R.bind_ok _ _)))) fun x1471 => (ta_cons (cE (R.ok s1302.d) (te_prj (k := 3) (fun (x : (T5 Str Str Str Int Int)) => x.d) (fun _ => ⟨_, rfl, rfl⟩) (te_var 5 s1302 rfl)) (R.bind_ok _ _)) fun x1472 => (ta_cons (cE (R.ok s1302.e) (te_prj (k := 4) (fun (x : (T5 Str Str Str Int Int)) => x.e) (fun _ => ⟨_, rfl, rfl⟩) (te_var 5 s1302 rfl)) (R.bind_ok _ _)) fun x1473 => (ta_nil fun cs hc d1463 h1468 d1462 h1467 d1461 h1466 d1460 h1465 d1459 h1464 => ⟨(⟨x1469, x1470, x1471, x1472, x1473⟩ : (T5 Str Str Str Int Int)), rfl, (by rw [h1464, h1465, h1466, h1467, h1468]; rfl), small_le (show 5 ≤ 1000000 by decide)⟩))))))) ((R.bind_ok _ _).trans ((R.bind_ok _ _).trans (congrArg (R.bind _) (funext fun _ => ((R.bind_ok _ _).trans (R.bind_ok _ _))))))) (fun _ _ _ h => h.pre) (fun way_1432 => (tb_next (t := R.ok way_1432) fun e c h => ⟨_, rfl, h.sub (Sub.cons rfl (Sub.cons rfl (Sub.cons rfl Sub.nil)))⟩))))))
 (tb_next (t := R.ok s1302) fun e c h => ⟨_, rfl, h.sub (Sub.cons rfl (Sub.cons rfl (Sub.cons rfl Sub.nil)))⟩)) (fun s1419 => (tb_ownP (by decide) (te_listL (te_up (cE (R.ok p_parts.c) (te_prj (k := 2) (fun (x : (T3 (List (T2 Str Int)) (List Str) (List (T5 Str Str Str Int Int)))) => x.c) (fun _ => ⟨_, rfl, rfl⟩) (te_var 2 p_parts rfl)) (R.bind_ok _ _)))) (fun ways_1475 => (tb_putPP p_lst ways_1475 rfl (te_var 5 s1419 rfl) (te_var 4 at_1057 rfl) (fun ways_1477 => (tb_last (tb_fzs (tb_fz ways_1477 (by decide) rfl (tb_retP (t := R.ok (⟨p_parts.a, p_parts.b, ways_1477⟩ : (T3 (List (T2 Str Int)) (List Str) (List (T5 Str Str Str Int Int))))) (cE (R.ok (⟨p_parts.a, p_parts.b, ways_1477⟩ : (T3 (List (T2 Str Int)) (List Str) (List (T5 Str Str Str Int Int))))) (te_tupA (ta_cons (cE (R.ok p_parts.a) (te_prj (k := 0) (fun (x : (T3 (List (T2 Str Int)) (List Str) (List (T5 Str Str Str Int Int)))) => x.a) (fun _ => ⟨_, rfl, rfl⟩) (te_var 2 p_parts rfl)) (R.bind_ok _ _)) fun x1484 => (ta_cons (cE (R.ok p_parts.b) (te_prj (k := 1) (fun (x : (T3 (List (T2 Str Int)) (List Str) (List (T5 Str Str Str Int Int)))) => x.b) (fun _ => ⟨_, rfl, rfl⟩) (te_var 2 p_parts rfl)) (R.bind_ok _ _)) fun x1485 => (ta_cons (te_var 10 ways_1477 rfl) fun x1486 => (ta_nil fun cs hc d1480 h1483 d1479 h1482 d1478 h1481 => ⟨(⟨x1484, x1485, x1486⟩ : (T3 (List (T2 Str Int)) (List Str) (List (T5 Str Str Str Int Int)))), rfl, (by rw [h1481, h1482, h1483]; rfl), small_le (show 3 ≤ 1000000 by decide)⟩))))) ((R.bind_ok _ _).trans ((R.bind_ok _ _).trans (R.bind_ok _ _)))) (fun c p hp hq => ⟨hp, _, rfl, hq⟩)))))))))))))))))))))))))))
  exact h
set_option maxHeartbeats 4000000 in
theorem f__law_changed (k : Ks K) (p_script : Scr) (p_k : Int) (p_parts : (T3 (List (T2 Str Int)) (List Str) (List (T5 Str Str Str Int Int)))) : FT K (F__law_changed K) [.v (enc K p_script), .v (enc K p_k), .v (enc K p_parts)] (t__law_changed p_script p_k p_parts) := by
  refine ft_P (show 3 ≤ 11 by decide) fun base => ?_
  have h : TB K base 11 (entA 0 [.v (enc K p_script), .v (enc K p_k), .v (enc K p_parts)]) (g__law_changed K) (Post.fn K base) _ :=
    (tb_set (by decide) (cE ((t__law_draw p_script p_k (16 : Int))) (te_call (ta_cons (te_var 0 p_script rfl) fun x690 => (ta_cons (te_var 1 p_k rfl) fun x691 => (ta_cons (te_int (16 : Int)) fun x692 => (ta_nil fun cs hc d686 h689 d685 h688 d684 h687 => f__law_draw k x690 x691 x692 cs [d684, d685, d686] hc ⟨d684, [d685, d686], rfl, h687, ⟨d685, [d686], rfl, h688, ⟨d686, [], rfl, h689, rfl⟩⟩⟩))))) ((R.bind_ok _ _).trans ((R.bind_ok _ _).trans (R.bind_ok _ _)))) (fun _ _ _ h => h.pre) (fun kind_683 => (tb_set (by decide) (te_bin o_catL (te_up (cE ((((cmpR p_parts.a fun y694 => (R.ok y694.a))).bind fun x695 => (catL x695 p_parts.b))) (te_bin o_catL (te_up (te_pub (cE ((cmpR p_parts.a fun y694 => (R.ok y694.a))) (te_lcx (tc (ti_lstI (cE (R.ok p_parts.a) (te_prj (k := 0) (fun (x : (T3 (List (T2 Str Int)) (List Str) (List (T5 Str Str Str Int Int)))) => x.a) (fun _ => ⟨_, rfl, rfl⟩) (te_var 2 p_parts rfl)) (R.bind_ok _ _)))) (fun y694 => ⟨_, (tg_nm (by decide)), (cE (R.ok y694.a) (te_prj (k := 0) (fun (x : (T2 Str Int)) => x.a) (fun _ => ⟨_, rfl, rfl⟩) (te_var 9 y694 rfl)) (R.bind_ok _ _))⟩)) (R.bind_ok _ _)))) (te_up (cE (R.ok p_parts.b) (te_prj (k := 1) (fun (x : (T3 (List (T2 Str Int)) (List Str) (List (T5 Str Str Str Int Int)))) => x.b) (fun _ => ⟨_, rfl, rfl⟩) (te_var 2 p_parts rfl)) (R.bind_ok _ _)))) (congrArg (R.bind _) (funext fun _ => (R.bind_ok _ _))))) (te_up (te_pub (cE ((cmpR p_parts.c fun y696 => (R.ok y696.a))) (te_lcx (tc (ti_lstI (cE (R.ok p_parts.c) (te_prj (k := 2) (fun (x : (T3 (List (T2 Str Int)) (List Str) (List (T5 Str Str Str Int Int)))) => x.c) (fun _ => ⟨_, rfl, rfl⟩) (te_var 2 p_parts rfl)) (R.bind_ok _ _)))) (fun y696 => ⟨_, (tg_nm (by decide)), (cE (R.ok y696.a) (te_prj (k := 0) (fun (x : (T5 Str Str Str Int Int)) => x.a) (fun _ => ⟨_, rfl, rfl⟩) (te_var 10 y696 rfl)) (R.bind_ok _ _))⟩)) (R.bind_ok _ _))))) (fun _ _ _ h => h.pre) (fun words_693 => (tb_set (by decide) (cE ((t__law_draw p_script (p_k + (1 : Int)) (len words_693))) (te_call (ta_cons (te_var 0 p_script rfl) fun x706 => (ta_cons (cE (R.ok (p_k + (1 : Int))) (te_bin o_add (te_var 1 p_k rfl) (te_int (1 : Int))) ((R.bind_ok _ _).trans (R.bind_ok _ _))) fun x707 => (ta_cons (cE (R.ok (len words_693)) (te_cb1 c_lenL (te_up (te_var 4 words_693 rfl))) (R.bind_ok _ _)) fun x708 => (ta_nil fun cs hc d702 h705 d701 h704 d700 h703 => f__law_draw k x706 x707 x708 cs [d700, d701, d702] hc ⟨d700, [d701, d702], rfl, h703, ⟨d701, [d702], rfl, h704, ⟨d702, [], rfl, h705, rfl⟩⟩⟩))))) ((R.bind_ok _ _).trans ((R.bind_ok _ _).trans (R.bind_ok _ _)))) (fun _ _ _ h => h.pre) (fun at_699 => (tb_seq (tb_ifP (tt_tst (cE (R.ok (decide (kind_683 < (4 : Int)))) (te_bin o_lt (te_var 3 kind_683 rfl) (te_int (4 : Int))) ((R.bind_ok _ _).trans (R.bind_ok _ _))))
 (tb_last (tb_ret (l := fun v960 => R.ok v960) (cE ((((ixL words_693 at_699)).bind fun x958 => ((((ixL words_693 at_699)).bind fun x948 => (t__law_odd p_script (p_k + (2 : Int)) x948))).bind fun x959 => (t__law_renamed p_parts x958 x959))) (te_call (ta_cons (te_var 2 p_parts rfl) fun x955 => (ta_cons (cE ((ixL words_693 at_699)) (te_bin o_ixL (te_up (te_var 4 words_693 rfl)) (te_var 5 at_699 rfl)) ((R.bind_ok _ _).trans (R.bind_ok _ _))) fun x956 => (ta_cons (cE ((((ixL words_693 at_699)).bind fun x948 => (t__law_odd p_script (p_k + (2 : Int)) x948))) (te_call (ta_cons (te_var 0 p_script rfl) fun x945 => (ta_cons (cE (R.ok (p_k + (2 : Int))) (te_bin o_add (te_var 1 p_k rfl) (te_int (2 : Int))) ((R.bind_ok _ _).trans (R.bind_ok _ _))) fun x946 => (ta_cons (cE ((ixL words_693 at_699)) (te_bin o_ixL (te_up (te_var 4 words_693 rfl)) (te_var 5 at_699 rfl)) ((R.bind_ok _ _).trans (R.bind_ok _ _))) fun x947 => (ta_nil fun cs hc d941 h944 d940 h943 d939 h942 => f__law_odd k x945 x946 x947 cs [d939, d940, d941] hc ⟨d939, [d940, d941], rfl, h942, ⟨d940, [d941], rfl, h943, ⟨d941, [], rfl, h944, rfl⟩⟩⟩))))) ((R.bind_ok _ _).trans (R.bind_ok _ _))) fun x957 => (ta_nil fun cs hc d951 h954 d950 h953 d949 h952 => f__law_renamed k x955 x956 x957 cs [d949, d950, d951] hc ⟨d949, [d950, d951], rfl, h952, ⟨d950, [d951], rfl, h953, ⟨d951, [], rfl, h954, rfl⟩⟩⟩))))) (R.bind_ok _ _)) (fun _ _ _ h => h.pre) (fun v960 c p hp hq => ⟨hp, _, rfl, hq⟩)))
 (tb_nxseq (tb_seq (tb_ifP (tt_tst (cE (R.ok (decide (kind_683 < (6 : Int)))) (te_bin o_lt (te_var 3 kind_683 rfl) (te_int (6 : Int))) ((R.bind_ok _ _).trans (R.bind_ok _ _))))
 (tb_set (by decide) (cE ((((((t__law_draw p_script (p_k + (2 : Int)) ((len words_693) - (1 : Int)))).bind fun x971 => R.ok ((at_699 + (1 : Int)) + x971))).bind fun x972 => (modR x972 (len words_693)))) (te_bin o_mod (te_intI (cE ((((t__law_draw p_script (p_k + (2 : Int)) ((len words_693) - (1 : Int)))).bind fun x971 => R.ok ((at_699 + (1 : Int)) + x971))) (te_bin o_add (cE (R.ok (at_699 + (1 : Int))) (te_bin o_add (te_var 5 at_699 rfl) (te_int (1 : Int))) ((R.bind_ok _ _).trans (R.bind_ok _ _))) (cE ((t__law_draw p_script (p_k + (2 : Int)) ((len words_693) - (1 : Int)))) (te_call (ta_cons (te_var 0 p_script rfl) fun x968 => (ta_cons (cE (R.ok (p_k + (2 : Int))) (te_bin o_add (te_var 1 p_k rfl) (te_int (2 : Int))) ((R.bind_ok _ _).trans (R.bind_ok _ _))) fun x969 => (ta_cons (cE (R.ok ((len words_693) - (1 : Int))) (te_bin o_sub (cE (R.ok (len words_693)) (te_cb1 c_lenL (te_up (te_var 4 words_693 rfl))) (R.bind_ok _ _)) (te_int (1 : Int))) ((R.bind_ok _ _).trans (R.bind_ok _ _))) fun x970 => (ta_nil fun cs hc d964 h967 d963 h966 d962 h965 => f__law_draw k x968 x969 x970 cs [d962, d963, d964] hc ⟨d962, [d963, d964], rfl, h965, ⟨d963, [d964], rfl, h966, ⟨d964, [], rfl, h967, rfl⟩⟩⟩))))) ((R.bind_ok _ _).trans ((R.bind_ok _ _).trans (R.bind_ok _ _))))) (R.bind_ok _ _))) (cE (R.ok (len words_693)) (te_cb1 c_lenL (te_up (te_var 4 words_693 rfl))) (R.bind_ok _ _))) (congrArg (R.bind _) (funext fun _ => (R.bind_ok _ _)))) (fun _ _ _ h => h.pre) (fun other_961 => (tb_last (tb_ret (l := fun v984 => R.ok v984) (cE ((((ixL words_693 at_699)).bind fun x982 => ((ixL words_693 other_961)).bind fun x983 => (t__law_renamed p_parts x982 x983))) (te_call (ta_cons (te_var 2 p_parts rfl) fun x979 => (ta_cons (cE ((ixL words_693 at_699)) (te_bin o_ixL (te_up (te_var 4 words_693 rfl)) (te_var 5 at_699 rfl)) ((R.bind_ok _ _).trans (R.bind_ok _ _))) fun x980 => (ta_cons (cE ((ixL words_693 other_961)) (te_bin o_ixL (te_up (te_var 4 words_693 rfl)) (te_var 6 other_961 rfl)) ((R.bind_ok _ _).trans (R.bind_ok _ _))) fun x981 => (ta_nil fun cs hc d975 h978 d974 h977 d973 h976 => f__law_renamed k x979 x980 x981 cs [d973, d974, d975] hc ⟨d973, [d974, d975], rfl, h976, ⟨d974, [d975], rfl, h977, ⟨d975, [], rfl, h978, rfl⟩⟩⟩))))) (R.bind_ok _ _)) (fun _ _ _ h => h.pre) (fun v984 c p hp hq => ⟨hp, _, rfl, hq⟩)))))
 (tb_nxseq (tb_seq (tb_ifP (tt_tst (cE (R.ok (eqC kind_683 (6 : Int))) (te_bin o_eqS (te_var 3 kind_683 rfl) (te_int (6 : Int))) ((R.bind_ok _ _).trans (R.bind_ok _ _))))
 (tb_set (by decide) (cE ((t__law_draw p_script (p_k + (2 : Int)) (10000 : Int))) (te_call (ta_cons (te_var 0 p_script rfl) fun x992 => (ta_cons (cE (R.ok (p_k + (2 : Int))) (te_bin o_add (te_var 1 p_k rfl) (te_int (2 : Int))) ((R.bind_ok _ _).trans (R.bind_ok _ _))) fun x993 => (ta_cons (te_int (10000 : Int)) fun x994 => (ta_nil fun cs hc d988 h991 d987 h990 d986 h989 => f__law_draw k x992 x993 x994 cs [d986, d987, d988] hc ⟨d986, [d987, d988], rfl, h989, ⟨d987, [d988], rfl, h990, ⟨d988, [], rfl, h991, rfl⟩⟩⟩))))) ((R.bind_ok _ _).trans ((R.bind_ok _ _).trans (R.bind_ok _ _)))) (fun _ _ _ h => h.pre) (fun far_985 => (tb_set (by decide) (cE ((t__law_draw p_script (p_k + (1 : Int)) (len p_parts.a))) (te_call (ta_cons (te_var 0 p_script rfl) fun x1002 => (ta_cons (cE (R.ok (p_k + (1 : Int))) (te_bin o_add (te_var 1 p_k rfl) (te_int (1 : Int))) ((R.bind_ok _ _).trans (R.bind_ok _ _))) fun x1003 => (ta_cons (cE (R.ok (len p_parts.a)) (te_cb1 c_lenL (te_up (cE (R.ok p_parts.a) (te_prj (k := 0) (fun (x : (T3 (List (T2 Str Int)) (List Str) (List (T5 Str Str Str Int Int)))) => x.a) (fun _ => ⟨_, rfl, rfl⟩) (te_var 2 p_parts rfl)) (R.bind_ok _ _)))) (R.bind_ok _ _)) fun x1004 => (ta_nil fun cs hc d998 h1001 d997 h1000 d996 h999 => f__law_draw k x1002 x1003 x1004 cs [d996, d997, d998] hc ⟨d996, [d997, d998], rfl, h999, ⟨d997, [d998], rfl, h1000, ⟨d998, [], rfl, h1001, rfl⟩⟩⟩))))) ((R.bind_ok _ _).trans ((R.bind_ok _ _).trans (R.bind_ok _ _)))) (fun _ _ _ h => h.pre) (fun at_995 => (tb_ownP (by decide) (te_listL (te_up (cE (R.ok p_parts.a) (te_prj (k := 0) (fun (x : (T3 (List (T2 Str Int)) (List Str) (List (T5 Str Str Str Int Int)))) => x.a) (fun _ => ⟨_, rfl, rfl⟩) (te_var 2 p_parts rfl)) (R.bind_ok _ _)))) (fun rooms_1005 => (tb_putEP p_lst rooms_1005 rfl (te_tupA (ta_cons (te_prj (k := 0) (fun (x : (T2 Str Int)) => x.a) (fun _ => ⟨_, rfl, rfl⟩) (cE ((ixL rooms_1005 at_995)) (te_bin o_ixL (te_own 8 rooms_1005 rfl) (te_var 5 at_995 rfl)) ((R.bind_ok _ _).trans (R.bind_ok _ _)))) fun x1039 => (ta_cons (cE ((((t__law_draw p_script (p_k + (3 : Int)) (6 : Int))).bind fun x1034 => (ixL ([(-(1 : Int)), (0 : Int), (200 : Int), (201 : Int), ((-(1 : Int)) - far_985), ((201 : Int) + far_985)] : (List Int)) x1034))) (te_bin o_ixL (te_up (te_pub (cE (R.ok ([(-(1 : Int)), (0 : Int), (200 : Int), (201 : Int), ((-(1 : Int)) - far_985), ((201 : Int) + far_985)] : (List Int))) (te_lstA (ta_cons (cE (R.ok (-(1 : Int))) (te_neg (te_int (1 : Int))) (R.bind_ok _ _)) fun x1019 => (ta_cons (te_int (0 : Int)) fun x1020 => (ta_cons (te_int (200 : Int)) fun x1021 => (ta_cons (te_int (201 : Int)) fun x1022 => (ta_cons (cE (R.ok ((-(1 : Int)) - far_985)) (te_bin o_sub (cE (R.ok (-(1 : Int))) (te_neg (te_int (1 : Int))) (R.bind_ok _ _)) (te_var 7 far_985 rfl)) ((R.bind_ok _ _).trans (R.bind_ok _ _))) fun x1023 => (ta_cons (cE (R.ok ((201 : Int) + far_985)) (te_bin o_add (te_int (201 : Int)) (te_var 7 far_985 rfl)) ((R.bind_ok _ _).trans (R.bind_ok _ _))) fun x1024 => (ta_nil fun cs hc d1012 h1018 d1011 h1017 d1010 h1016 d1009 h1015 d1008 h1014 d1007 h1013 => ⟨[x1019, x1020, x1021, x1022, x1023, x1024], rfl, (by rw [h1013, h1014, h1015, h1016, h1017, h1018]; rfl), small_le (show 6 ≤ 1000000 by decide)⟩)))))))) ((R.bind_ok _ _).trans ((R.bind_ok _ _).trans ((R.bind_ok _ _).trans ((R.bind_ok _ _).trans ((R.bind_ok _ _).trans (R.bind_ok _ _))))))))) (cE ((t__law_draw p_script (p_k + (3 : Int)) (6 : Int))) (te_call (ta_cons (te_var 0 p_script rfl) fun x1031 => (ta_cons (cE (R.ok (p_k + (3 : Int))) (te_bin o_add (te_var 1 p_k rfl) (te_int (3 : Int))) ((R.bind_ok _ _).trans (R.bind_ok _ _))) fun x1032 => (ta_cons (te_int (6 : Int)) fun x1033 => (ta_nil fun cs hc d1027 h1030 d1026 h1029 d1025 h1028 => f__law_draw k x1031 x1032 x1033 cs [d1025, d1026, d1027] hc ⟨d1025, [d1026, d1027], rfl, h1028, ⟨d1026, [d1027], rfl, h1029, ⟨d1027, [], rfl, h1030, rfl⟩⟩⟩))))) ((R.bind_ok _ _).trans ((R.bind_ok _ _).trans (R.bind_ok _ _))))) (R.bind_ok _ _)) fun x1040 => (ta_nil fun cs hc d1036 h1038 d1035 h1037 => ⟨(⟨x1039, x1040⟩ : (T2 Str Int)), rfl, (by rw [h1037, h1038]; rfl), small_le (show 2 ≤ 1000000 by decide)⟩)))) (fun _ _ _ h => h.pre) (te_var 5 at_995 rfl) (fun rooms_1044 => (tb_last (tb_fzs (tb_fz rooms_1044 (by decide) rfl (tb_retP (t := R.ok (⟨rooms_1044, p_parts.b, p_parts.c⟩ : (T3 (List (T2 Str Int)) (List Str) (List (T5 Str Str Str Int Int))))) (cE (R.ok (⟨rooms_1044, p_parts.b, p_parts.c⟩ : (T3 (List (T2 Str Int)) (List Str) (List (T5 Str Str Str Int Int))))) (te_tupA (ta_cons (te_var 8 rooms_1044 rfl) fun x1051 => (ta_cons (cE (R.ok p_parts.b) (te_prj (k := 1) (fun (x : (T3 (List (T2 Str Int)) (List Str) (List (T5 Str Str Str Int Int)))) => x.b) (fun _ => ⟨_, rfl, rfl⟩) (te_var 2 p_parts rfl)) (R.bind_ok _ _)) fun x1052 => (ta_cons (cE (R.ok p_parts.c) (te_prj (k := 2) (fun (x : (T3 (List (T2 Str Int)) (List Str) (List (T5 Str Str Str Int Int)))) => x.c) (fun _ => ⟨_, rfl, rfl⟩) (te_var 2 p_parts rfl)) (R.bind_ok _ _)) fun x1053 => (ta_nil fun cs hc d1047 h1050 d1046 h1049 d1045 h1048 => ⟨(⟨x1051, x1052, x1053⟩ : (T3 (List (T2 Str Int)) (List Str) (List (T5 Str Str Str Int Int)))), rfl, (by rw [h1048, h1049, h1050]; rfl), small_le (show 3 ≤ 1000000 by decide)⟩))))) ((R.bind_ok _ _).trans ((R.bind_ok _ _).trans (R.bind_ok _ _)))) (fun c p hp hq => ⟨hp, _, rfl, hq⟩)))))))))))))
 (tb_nxseq (tb_seq (tb_ifP (tt_tst (cE (R.ok (decide (kind_683 < (13 : Int)))) (te_bin o_lt (te_var 3 kind_683 rfl) (te_int (13 : Int))) ((R.bind_ok _ _).trans (R.bind_ok _ _))))
 (tb_seq (tb_ifP (tt_tst (cE (R.ok (eqC (len p_parts.c) (0 : Int))) (te_bin o_eqS (cE (R.ok (len p_parts.c)) (te_cb1 c_lenL (te_up (cE (R.ok p_parts.c) (te_prj (k := 2) (fun (x : (T3 (List (T2 Str Int)) (List Str) (List (T5 Str Str Str Int Int)))) => x.c) (fun _ => ⟨_, rfl, rfl⟩) (te_var 2 p_parts rfl)) (R.bind_ok _ _)))) (R.bind_ok _ _)) (te_int (0 : Int))) ((R.bind_ok _ _).trans (R.bind_ok _ _))))
 (tb_last (tb_retP (t := R.ok p_parts) (te_var 2 p_parts rfl) (fun c p hp hq => ⟨hp, _, rfl, hq⟩)))
 (tb_nxseq (tb_last (tb_ret (l := fun v1519 => R.ok v1519) (cE ((((ixL ([(0 : Int), (1 : Int), (2 : Int), (3 : Int), (3 : Int), (2 : Int)] : (List Int)) (kind_683 - (7 : Int)))).bind fun x1518 => (t__law_way_changed p_script (p_k + (1 : Int)) p_parts x1518))) (te_call (ta_cons (te_var 0 p_script rfl) fun x1514 => (ta_cons (cE (R.ok (p_k + (1 : Int))) (te_bin o_add (te_var 1 p_k rfl) (te_int (1 : Int))) ((R.bind_ok _ _).trans (R.bind_ok _ _))) fun x1515 => (ta_cons (te_var 2 p_parts rfl) fun x1516 => (ta_cons (cE ((ixL ([(0 : Int), (1 : Int), (2 : Int), (3 : Int), (3 : Int), (2 : Int)] : (List Int)) (kind_683 - (7 : Int)))) (te_bin o_ixL (te_up (te_pub (cE (R.ok ([(0 : Int), (1 : Int), (2 : Int), (3 : Int), (3 : Int), (2 : Int)] : (List Int))) (te_lstA (ta_cons (te_int (0 : Int)) fun x1500 => (ta_cons (te_int (1 : Int)) fun x1501 => (ta_cons (te_int (2 : Int)) fun x1502 => (ta_cons (te_int (3 : Int)) fun x1503 => (ta_cons (te_int (3 : Int)) fun x1504 => (ta_cons (te_int (2 : Int)) fun x1505 => (ta_nil fun cs hc d1493 h1499 d1492 h1498 d1491 h1497 d1490 h1496 d1489 h1495 d1488 h1494 => ⟨[x1500, x1501, x1502, x1503, x1504, x1505], rfl, (by rw [h1494, h1495, h1496, h1497, h1498, h1499]; rfl), small_le (show 6 ≤ 1000000 by decide)⟩)))))))) ((R.bind_ok _ _).trans ((R.bind_ok _ _).trans ((R.bind_ok _ _).trans ((R.bind_ok _ _).trans ((R.bind_ok _ _).trans (R.bind_ok _ _))))))))) (cE (R.ok (kind_683 - (7 : Int))) (te_bin o_sub (te_var 3 kind_683 rfl) (te_int (7 : Int))) ((R.bind_ok _ _).trans (R.bind_ok _ _)))) ((R.bind_ok _ _).trans (R.bind_ok _ _))) fun x1517 => (ta_nil fun cs hc d1509 h1513 d1508 h1512 d1507 h1511 d1506 h1510 => f__law_way_changed k x1514 x1515 x1516 x1517 cs [d1506, d1507, d1508, d1509] hc ⟨d1506, [d1507, d1508, d1509], rfl, h1510, ⟨d1507, [d1508, d1509], rfl, h1511, ⟨d1508, [d1509], rfl, h1512, ⟨d1509, [], rfl, h1513, rfl⟩⟩⟩⟩)))))) ((R.bind_ok _ _).trans ((R.bind_ok _ _).trans (R.bind_ok _ _)))) (fun _ _ _ h => h.pre) (fun v1519 c p hp hq => ⟨hp, _, rfl, hq⟩))))))
 (tb_nxseq (tb_seq (tb_ifP (tt_tst (cE (R.ok (eqC kind_683 (13 : Int))) (te_bin o_eqS (te_var 3 kind_683 rfl) (te_int (13 : Int))) ((R.bind_ok _ _).trans (R.bind_ok _ _))))
 (tb_last (tb_ret (l := fun v1555 => R.ok v1555) (cE ((((((t__law_draw p_script (p_k + (1 : Int)) (4 : Int))).bind fun x1541 => (ixL ([(0 : Int), (1 : Int), (8 : Int), (9 : Int)] : (List Int)) x1541))).bind fun x1554 => (t__law_lists p_script x1554 (len p_parts.b) (len p_parts.c)))) (te_call (ta_cons (te_var 0 p_script rfl) fun x1550 => (ta_cons (cE ((((t__law_draw p_script (p_k + (1 : Int)) (4 : Int))).bind fun x1541 => (ixL ([(0 : Int), (1 : Int), (8 : Int), (9 : Int)] : (List Int)) x1541))) (te_bin o_ixL (te_up (te_pub (cE (R.ok ([(0 : Int), (1 : Int), (8 : Int), (9 : Int)] : (List Int))) (te_lstA (ta_cons (te_int (0 : Int)) fun x1528 => (ta_cons (te_int (1 : Int)) fun x1529 => (ta_cons (te_int (8 : Int)) fun x1530 => (ta_cons (te_int (9 : Int)) fun x1531 => (ta_nil fun cs hc d1523 h1527 d1522 h1526 d1521 h1525 d1520 h1524 => ⟨[x1528, x1529, x1530, x1531], rfl, (by rw [h1524, h1525, h1526, h1527]; rfl), small_le (show 4 ≤ 1000000 by decide)⟩)))))) ((R.bind_ok _ _).trans ((R.bind_ok _ _).trans ((R.bind_ok _ _).trans (R.bind_ok _ _))))))) (cE ((t__law_draw p_script (p_k + (1 : Int)) (4 : Int))) (te_call (ta_cons (te_var 0 p_script rfl) fun x1538 => (ta_cons (cE (R.ok (p_k + (1 : Int))) (te_bin o_add (te_var 1 p_k rfl) (te_int (1 : Int))) ((R.bind_ok _ _).trans (R.bind_ok _ _))) fun x1539 => (ta_cons (te_int (4 : Int)) fun x1540 => (ta_nil fun cs hc d1534 h1537 d1533 h1536 d1532 h1535 => f__law_draw k x1538 x1539 x1540 cs [d1532, d1533, d1534] hc ⟨d1532, [d1533, d1534], rfl, h1535, ⟨d1533, [d1534], rfl, h1536, ⟨d1534, [], rfl, h1537, rfl⟩⟩⟩))))) ((R.bind_ok _ _).trans ((R.bind_ok _ _).trans (R.bind_ok _ _))))) (R.bind_ok _ _)) fun x1551 => (ta_cons (cE (R.ok (len p_parts.b)) (te_cb1 c_lenL (te_up (cE (R.ok p_parts.b) (te_prj (k := 1) (fun (x : (T3 (List (T2 Str Int)) (List Str) (List (T5 Str Str Str Int Int)))) => x.b) (fun _ => ⟨_, rfl, rfl⟩) (te_var 2 p_parts rfl)) (R.bind_ok _ _)))) (R.bind_ok _ _)) fun x1552 => (ta_cons (cE (R.ok (len p_parts.c)) (te_cb1 c_lenL (te_up (cE (R.ok p_parts.c) (te_prj (k := 2) (fun (x : (T3 (List (T2 Str Int)) (List Str) (List (T5 Str Str Str Int Int)))) => x.c) (fun _ => ⟨_, rfl, rfl⟩) (te_var 2 p_parts rfl)) (R.bind_ok _ _)))) (R.bind_ok _ _)) fun x1553 => (ta_nil fun cs hc d1545 h1549 d1544 h1548 d1543 h1547 d1542 h1546 => f__law_lists k x1550 x1551 x1552 x1553 cs [d1542, d1543, d1544, d1545] hc ⟨d1542, [d1543, d1544, d1545], rfl, h1546, ⟨d1543, [d1544, d1545], rfl, h1547, ⟨d1544, [d1545], rfl, h1548, ⟨d1545, [], rfl, h1549, rfl⟩⟩⟩⟩)))))) ((R.bind_ok _ _).trans (congrArg (R.bind _) (funext fun _ => ((R.bind_ok _ _).trans (R.bind_ok _ _)))))) (fun _ _ _ h => h.pre) (fun v1555 c p hp hq => ⟨hp, _, rfl, hq⟩)))
 (tb_nxseq (tb_seq (tb_ifP (tt_tst (cE (R.ok (eqC kind_683 (14 : Int))) (te_bin o_eqS (te_var 3 kind_683 rfl) (te_int (14 : Int))) ((R.bind_ok _ _).trans (R.bind_ok _ _))))
 (tb_last (tb_ret (l := fun v1591 => R.ok v1591) (cE ((((((t__law_draw p_script (p_k + (1 : Int)) (4 : Int))).bind fun x1577 => (ixL ([(0 : Int), (1 : Int), (4 : Int), (5 : Int)] : (List Int)) x1577))).bind fun x1590 => (t__law_lists p_script (len p_parts.a) x1590 (len p_parts.c)))) (te_call (ta_cons (te_var 0 p_script rfl) fun x1586 => (ta_cons (cE (R.ok (len p_parts.a)) (te_cb1 c_lenL (te_up (cE (R.ok p_parts.a) (te_prj (k := 0) (fun (x : (T3 (List (T2 Str Int)) (List Str) (List (T5 Str Str Str Int Int)))) => x.a) (fun _ => ⟨_, rfl, rfl⟩) (te_var 2 p_parts rfl)) (R.bind_ok _ _)))) (R.bind_ok _ _)) fun x1587 => (ta_cons (cE ((((t__law_draw p_script (p_k + (1 : Int)) (4 : Int))).bind fun x1577 => (ixL ([(0 : Int), (1 : Int), (4 : Int), (5 : Int)] : (List Int)) x1577))) (te_bin o_ixL (te_up (te_pub (cE (R.ok ([(0 : Int), (1 : Int), (4 : Int), (5 : Int)] : (List Int))) (te_lstA (ta_cons (te_int (0 : Int)) fun x1564 => (ta_cons (te_int (1 : Int)) fun x1565 => (ta_cons (te_int (4 : Int)) fun x1566 => (ta_cons (te_int (5 : Int)) fun x1567 => (ta_nil fun cs hc d1559 h1563 d1558 h1562 d1557 h1561 d1556 h1560 => ⟨[x1564, x1565, x1566, x1567], rfl, (by rw [h1560, h1561, h1562, h1563]; rfl), small_le (show 4 ≤ 1000000 by decide)⟩)))))) ((R.bind_ok _ _).trans ((R.bind_ok _ _).trans ((R.bind_ok _ _).trans (R.bind_ok _ _))))))) (cE ((t__law_draw p_script (p_k + (1 : Int)) (4 : Int))) (te_call (ta_cons (te_var 0 p_script rfl) fun x1574 => (ta_cons (cE (R.ok (p_k + (1 : Int))) (te_bin o_add (te_var 1 p_k rfl) (te_int (1 : Int))) ((R.bind_ok _ _).trans (R.bind_ok _ _))) fun x1575 => (ta_cons (te_int (4 : Int)) fun x1576 => (ta_nil fun cs hc d1570 h1573 d1569 h1572 d1568 h1571 => f__law_draw k x1574 x1575 x1576 cs [d1568, d1569, d1570] hc ⟨d1568, [d1569, d1570], rfl, h1571, ⟨d1569, [d1570], rfl, h1572, ⟨d1570, [], rfl, h1573, rfl⟩⟩⟩))))) ((R.bind_ok _ _).trans ((R.bind_ok _ _).trans (R.bind_ok _ _))))) (R.bind_ok _ _)) fun x1588 => (ta_cons (cE (R.ok (len p_parts.c)) (te_cb1 c_lenL (te_up (cE (R.ok p_parts.c) (te_prj (k := 2) (fun (x : (T3 (List (T2 Str Int)) (List Str) (List (T5 Str Str Str Int Int)))) => x.c) (fun _ => ⟨_, rfl, rfl⟩) (te_var 2 p_parts rfl)) (R.bind_ok _ _)))) (R.bind_ok _ _)) fun x1589 => (ta_nil fun cs hc d1581 h1585 d1580 h1584 d1579 h1583 d1578 h1582 => f__law_lists k x1586 x1587 x1588 x1589 cs [d1578, d1579, d1580, d1581] hc ⟨d1578, [d1579, d1580, d1581], rfl, h1582, ⟨d1579, [d1580, d1581], rfl, h1583, ⟨d1580, [d1581], rfl, h1584, ⟨d1581, [], rfl, h1585, rfl⟩⟩⟩⟩)))))) ((R.bind_ok _ _).trans ((R.bind_ok _ _).trans (congrArg (R.bind _) (funext fun _ => (R.bind_ok _ _)))))) (fun _ _ _ h => h.pre) (fun v1591 c p hp hq => ⟨hp, _, rfl, hq⟩)))
 (tb_nxseq (tb_last (tb_ret (l := fun v1627 => R.ok v1627) (cE ((((((t__law_draw p_script (p_k + (1 : Int)) (4 : Int))).bind fun x1613 => (ixL ([(0 : Int), (20 : Int), (21 : Int), (21 : Int)] : (List Int)) x1613))).bind fun x1626 => (t__law_lists p_script (len p_parts.a) (len p_parts.b) x1626))) (te_call (ta_cons (te_var 0 p_script rfl) fun x1622 => (ta_cons (cE (R.ok (len p_parts.a)) (te_cb1 c_lenL (te_up (cE (R.ok p_parts.a) (te_prj (k := 0) (fun (x : (T3 (List (T2 Str Int)) (List Str) (List (T5 Str Str Str Int Int)))) => x.a) (fun _ => ⟨_, rfl, rfl⟩) (te_var 2 p_parts rfl)) (R.bind_ok _ _)))) (R.bind_ok _ _)) fun x1623 => (ta_cons (cE (R.ok (len p_parts.b)) (te_cb1 c_lenL (te_up (cE (R.ok p_parts.b) (te_prj (k := 1) (fun (x : (T3 (List (T2 Str Int)) (List Str) (List (T5 Str Str Str Int Int)))) => x.b) (fun _ => ⟨_, rfl, rfl⟩) (te_var 2 p_parts rfl)) (R.bind_ok _ _)))) (R.bind_ok _ _)) fun x1624 => (ta_cons (cE ((((t__law_draw p_script (p_k + (1 : Int)) (4 : Int))).bind fun x1613 => (ixL ([(0 : Int), (20 : Int), (21 : Int), (21 : Int)] : (List Int)) x1613))) (te_bin o_ixL (te_up (te_pub (cE (R.ok ([(0 : Int), (20 : Int), (21 : Int), (21 : Int)] : (List Int))) (te_lstA (ta_cons (te_int (0 : Int)) fun x1600 => (ta_cons (te_int (20 : Int)) fun x1601 => (ta_cons (te_int (21 : Int)) fun x1602 => (ta_cons (te_int (21 : Int)) fun x1603 => (ta_nil fun cs hc d1595 h1599 d1594 h1598 d1593 h1597 d1592 h1596 => ⟨[x1600, x1601, x1602, x1603], rfl, (by rw [h1596, h1597, h1598, h1599]; rfl), small_le (show 4 ≤ 1000000 by decide)⟩)))))) ((R.bind_ok _ _).trans ((R.bind_ok _ _).trans ((R.bind_ok _ _).trans (R.bind_ok _ _))))))) (cE ((t__law_draw p_script (p_k + (1 : Int)) (4 : Int))) (te_call (ta_cons (te_var 0 p_script rfl) fun x1610 => (ta_cons (cE (R.ok (p_k + (1 : Int))) (te_bin o_add (te_var 1 p_k rfl) (te_int (1 : Int))) ((R.bind_ok _ _).trans (R.bind_ok _ _))) fun x1611 => (ta_cons (te_int (4 : Int)) fun x1612 => (ta_nil fun cs hc d1606 h1609 d1605 h1608 d1604 h1607 => f__law_draw k x1610 x1611 x1612 cs [d1604, d1605, d1606] hc ⟨d1604, [d1605, d1606], rfl, h1607, ⟨d1605, [d1606], rfl, h1608, ⟨d1606, [], rfl, h1609, rfl⟩⟩⟩))))) ((R.bind_ok _ _).trans ((R.bind_ok _ _).trans (R.bind_ok _ _))))) (R.bind_ok _ _)) fun x1625 => (ta_nil fun cs hc d1617 h1621 d1616 h1620 d1615 h1619 d1614 h1618 => f__law_lists k x1622 x1623 x1624 x1625 cs [d1614, d1615, d1616, d1617] hc ⟨d1614, [d1615, d1616, d1617], rfl, h1618, ⟨d1615, [d1616, d1617], rfl, h1619, ⟨d1616, [d1617], rfl, h1620, ⟨d1617, [], rfl, h1621, rfl⟩⟩⟩⟩)))))) ((R.bind_ok _ _).trans ((R.bind_ok _ _).trans (R.bind_ok _ _)))) (fun _ _ _ h => h.pre) (fun v1627 c p hp hq => ⟨hp, _, rfl, hq⟩)))))))))))))))))))))))))))
  exact h
set_option maxHeartbeats 4000000 in
theorem f__law_is_word (k : Ks K) (p_word : Str) : FT K (F__law_is_word K) [.v (enc K p_word)] (t__law_is_word p_word) := by
  refine ft_P (show 1 ≤ 2 by decide) fun base => ?_
  have h : TB K base 2 (entA 0 [.v (enc K p_word)]) (g__law_is_word K) (Post.fn K base) _ :=
    (tb_seq (tb_if (tt_or (tt_tst (cE ((((lenS p_word)).bind fun x1649 => R.ok (decide (x1649 < (1 : Int))))) (te_bin o_lt (cE ((lenS p_word)) (te_cb1 c_lenS (te_var 0 p_word rfl)) (R.bind_ok _ _)) (te_int (1 : Int))) (congrArg (R.bind _) (funext fun _ => (R.bind_ok _ _))))) (tt_or (tt_tst (cE ((((lenS p_word)).bind fun x1650 => R.ok (decide ((12 : Int) < x1650)))) (te_bin o_gt (cE ((lenS p_word)) (te_cb1 c_lenS (te_var 0 p_word rfl)) (R.bind_ok _ _)) (te_int (12 : Int))) (congrArg (R.bind _) (funext fun _ => (R.bind_ok _ _))))) (tt_tst (cE ((((ixS p_word (0 : Int))).bind fun x1651 => R.ok (!inS x1651 ("abcdefghijklmnopqrstuvwxyz" : Str)))) (te_bin o_niS (cE ((ixS p_word (0 : Int))) (te_bin o_ixS (te_var 0 p_word rfl) (te_int (0 : Int))) ((R.bind_ok _ _).trans (R.bind_ok _ _))) (te_str ("abcdefghijklmnopqrstuvwxyz" : Str))) (congrArg (R.bind _) (funext fun _ => (R.bind_ok _ _))))))) (fun _ _ _ h => h.pre)
 (tb_last (tb_retP (t := R.ok false) (te_bl false) (fun c p hp hq => ⟨hp, _, rfl, hq⟩)))
 (tb_nxseq (tb_forP (fun (s1653 : Unit) => []) () t__law_is_word_b3 (cE (R.ok (sgn p_word)) (ti_str (te_var 0 p_word rfl)) (R.bind_ok _ _)) Sub.nil (fun _ => rfl) (fun y1654 s1653 => ⟨_, (tg_nm (by decide)), (cB (t__law_is_word_b3 y1654 s1653) (tb_ifP (tt_tst (cE (R.ok (!inS y1654 ("abcdefghijklmnopqrstuvwxyz0123456789" : Str))) (te_bin o_niS (te_var 1 y1654 rfl) (te_str ("abcdefghijklmnopqrstuvwxyz0123456789" : Str))) ((R.bind_ok _ _).trans (R.bind_ok _ _))))
 (tb_last (tb_retP (t := R.ok (Lp.rt false)) (te_bl false) (fun c p hp hq => ⟨_, rfl, ⟨hp, _, rfl, hq⟩⟩)))
 (tb_next (t := R.ok (Lp.nx ())) fun e c h => ⟨_, rfl, h.sub Sub.nil⟩)) rfl)⟩) (fun s1653 => (tb_last (tb_retP (t := R.ok true) (te_bl true) (fun c p hp hq => ⟨hp, _, rfl, hq⟩))))))))
  exact h
set_option maxHeartbeats 4000000 in
theorem f__law_is_house (k : Ks K) (p_rooms : (List (T2 Str Int))) (p_exits : (List Str)) (p_ways : (List (T5 Str Str Str Int Int))) : FT K (F__law_is_house K) [.r (enc K p_rooms) (co K p_rooms), .r (enc K p_exits) (co K p_exits), .r (enc K p_ways) (co K p_ways)] (t__law_is_house p_rooms p_exits p_ways) := by
  refine ft_P (show 3 ≤ 8 by decide) fun base => ?_
  have h : TB K base 8 (entA 0 [.r (enc K p_rooms) (co K p_rooms), .r (enc K p_exits) (co K p_exits), .r (enc K p_ways) (co K p_ways)]) (g__law_is_house K) (Post.fn K base) _ :=
    (tb_seq (tb_ifP (tt_orP (tt_tst (cE (R.ok (decide ((len p_rooms) < (1 : Int)))) (te_bin o_lt (cE (R.ok (len p_rooms)) (te_cb1 c_lenL (te_rd 0 p_rooms rfl)) (R.bind_ok _ _)) (te_int (1 : Int))) ((R.bind_ok _ _).trans (R.bind_ok _ _)))) (tt_orP (tt_tst (cE (R.ok (decide ((8 : Int) < (len p_rooms)))) (te_bin o_gt (cE (R.ok (len p_rooms)) (te_cb1 c_lenL (te_rd 0 p_rooms rfl)) (R.bind_ok _ _)) (te_int (8 : Int))) ((R.bind_ok _ _).trans (R.bind_ok _ _)))) (tt_orP (tt_tst (cE (R.ok (decide ((len p_exits) < (1 : Int)))) (te_bin o_lt (cE (R.ok (len p_exits)) (te_cb1 c_lenL (te_rd 1 p_exits rfl)) (R.bind_ok _ _)) (te_int (1 : Int))) ((R.bind_ok _ _).trans (R.bind_ok _ _)))) (tt_orP (tt_tst (cE (R.ok (decide ((4 : Int) < (len p_exits)))) (te_bin o_gt (cE (R.ok (len p_exits)) (te_cb1 c_lenL (te_rd 1 p_exits rfl)) (R.bind_ok _ _)) (te_int (4 : Int))) ((R.bind_ok _ _).trans (R.bind_ok _ _)))) (tt_tst (cE (R.ok (decide ((20 : Int) < (len p_ways)))) (te_bin o_gt (cE (R.ok (len p_ways)) (te_cb1 c_lenL (te_rd 2 p_ways rfl)) (R.bind_ok _ _)) (te_int (20 : Int))) ((R.bind_ok _ _).trans (R.bind_ok _ _))))))))
 (tb_last (tb_retP (t := R.ok false) (te_bl false) (fun c p hp hq => ⟨hp, _, rfl, hq⟩)))
 (tb_nxseq (tb_set (by decide) (te_bin o_catL (te_up (cE ((((cmpR p_rooms fun y1642 => (R.ok y1642.a))).bind fun x1643 => (catL x1643 p_exits))) (te_bin o_catL (te_up (te_pub (cE ((cmpR p_rooms fun y1642 => (R.ok y1642.a))) (te_lcx (tc (ti_rd 0 p_rooms rfl)) (fun y1642 => ⟨_, (tg_nm (by decide)), (cE (R.ok y1642.a) (te_prj (k := 0) (fun (x : (T2 Str Int)) => x.a) (fun _ => ⟨_, rfl, rfl⟩) (te_var 6 y1642 rfl)) (R.bind_ok _ _))⟩)) (R.bind_ok _ _)))) (te_rd 1 p_exits rfl)) (congrArg (R.bind _) (funext fun _ => (R.bind_ok _ _))))) (te_up (te_pub (cE ((cmpR p_ways fun y1644 => (R.ok y1644.a))) (te_lcx (tc (ti_rd 2 p_ways rfl)) (fun y1644 => ⟨_, (tg_nm (by decide)), (cE (R.ok y1644.a) (te_prj (k := 0) (fun (x : (T5 Str Str Str Int Int)) => x.a) (fun _ => ⟨_, rfl, rfl⟩) (te_var 7 y1644 rfl)) (R.bind_ok _ _))⟩)) (R.bind_ok _ _))))) (fun _ _ _ h => h.pre) (fun words_1641 => (tb_for (b := (t__law_is_house_b4 words_1641)) (fun (s1647 : Unit) => [(0, .r (enc K p_rooms) (co K p_rooms)), (1, .r (enc K p_exits) (co K p_exits)), (2, .r (enc K p_ways) (co K p_ways)), (3, .v (enc K words_1641))]) () (cE ((rng1 (len words_1641))) (ti_rng1 (cE (R.ok (len words_1641)) (te_cb1 c_lenL (te_up (te_var 3 words_1641 rfl))) (R.bind_ok _ _))) (R.bind_ok _ _)) (fun _ _ _ h => h.pre) (Sub.cons rfl (Sub.cons rfl (Sub.cons rfl (Sub.cons rfl Sub.nil)))) (fun _ => rfl) (fun y1648 s1647 => ⟨_, (tg_nm (by decide)), (cB ((t__law_is_house_b4 words_1641) y1648 s1647) (tb_if (tt_or (tt_not (tt_tst (te_call (ta_cons (cE ((ixL words_1641 y1648)) (te_bin o_ixL (te_up (te_var 3 words_1641 rfl)) (te_var 4 y1648 rfl)) ((R.bind_ok _ _).trans (R.bind_ok _ _))) fun x1667 => (ta_nil fun cs hc d1665 h1666 => f__law_is_word k x1667 cs [d1665] hc ⟨d1665, [], rfl, h1666, rfl⟩))))) (tt_tst (cE ((((ixL words_1641 y1648)).bind fun x1670 => R.ok (inL x1670 (cutP words_1641 none (some y1648))))) (te_bin o_inL (cE ((ixL words_1641 y1648)) (te_bin o_ixL (te_up (te_var 3 words_1641 rfl)) (te_var 4 y1648 rfl)) ((R.bind_ok _ _).trans (R.bind_ok _ _))) (te_up (cE (R.ok (cutP words_1641 none (some y1648))) (te_sl sl_l (te_up (te_var 3 words_1641 rfl)) to_none (cE (R.ok (some y1648)) (to_some (te_var 4 y1648 rfl)) (R.bind_ok _ _))) ((R.bind_ok _ _).trans ((R.bind_ok _ _).trans (R.bind_ok _ _)))))) (congrArg (R.bind _) (funext fun _ => (R.bind_ok _ _)))))) (fun _ _ _ h => h.pre)
 (tb_last (tb_retP (t := R.ok (Lp.rt false)) (te_bl false) (fun c p hp hq => ⟨_, rfl, ⟨hp, _, rfl, hq⟩⟩)))
 (tb_next (t := R.ok (Lp.nx ())) fun e c h => ⟨_, rfl, h.sub (Sub.cons rfl (Sub.cons rfl (Sub.cons rfl (Sub.cons rfl Sub.nil))))⟩)) rfl)⟩) (fun s1647 => (tb_set (by decide) (te_pub (cE ((cmpR p_rooms fun y1673 => (R.ok y1673.a))) (te_lcx (tc (ti_rd 0 p_rooms rfl)) (fun y1673 => ⟨_, (tg_nm (by decide)), (cE (R.ok y1673.a) (te_prj (k := 0) (fun (x : (T2 Str Int)) => x.a) (fun _ => ⟨_, rfl, rfl⟩) (te_var 6 y1673 rfl)) (R.bind_ok _ _))⟩)) (R.bind_ok _ _))) (fun _ _ _ h => h.pre) (fun starts_1672 => (tb_forP (fun (s1674 : Unit) => [(1, .r (enc K p_exits) (co K p_exits)), (2, .r (enc K p_ways) (co K p_ways)), (5, .v (enc K starts_1672))]) () t__law_is_house_b8 (ti_rd 0 p_rooms rfl) (Sub.cons rfl (Sub.cons rfl (Sub.cons rfl Sub.nil))) (fun _ => rfl) (fun y1675 s1674 => ⟨_, (tg_nm (by decide)), (cB (t__law_is_house_b8 y1675 s1674) (tb_ifP (tt_orP (tt_tst (cE (R.ok (decide (y1675.b < (0 : Int)))) (te_bin o_lt (cE (R.ok y1675.b) (te_prj (k := 1) (fun (x : (T2 Str Int)) => x.b) (fun _ => ⟨_, rfl, rfl⟩) (te_var 6 y1675 rfl)) (R.bind_ok _ _)) (te_int (0 : Int))) ((R.bind_ok _ _).trans (R.bind_ok _ _)))) (tt_tst (cE (R.ok (decide ((200 : Int) < y1675.b))) (te_bin o_gt (cE (R.ok y1675.b) (te_prj (k := 1) (fun (x : (T2 Str Int)) => x.b) (fun _ => ⟨_, rfl, rfl⟩) (te_var 6 y1675 rfl)) (R.bind_ok _ _)) (te_int (200 : Int))) ((R.bind_ok _ _).trans (R.bind_ok _ _)))))
 (tb_last (tb_retP (t := R.ok (Lp.rt false)) (te_bl false) (fun c p hp hq => ⟨_, rfl, ⟨hp, _, rfl, hq⟩⟩)))
 (tb_next (t := R.ok (Lp.nx ())) fun e c h => ⟨_, rfl, h.sub (Sub.cons rfl (Sub.cons rfl (Sub.cons rfl Sub.nil)))⟩)) rfl)⟩) (fun s1674 => (tb_forP (fun (s1678 : Unit) => [(1, .r (enc K p_exits) (co K p_exits)), (5, .v (enc K starts_1672))]) () (t__law_is_house_b11 p_exits starts_1672) (ti_rd 2 p_ways rfl) (Sub.cons rfl (Sub.cons rfl Sub.nil)) (fun _ => rfl) (fun y1679 s1678 => ⟨_, (tg_nm (by decide)), (cB ((t__law_is_house_b11 p_exits starts_1672) y1679 s1678) (tb_seq (tb_if (cE (if (!inL y1679.b starts_1672) = true then R.ok true else (orR (((catL starts_1672 p_exits)).bind fun x1683 => R.ok (!inL y1679.c x1683)) (R.ok (eqC y1679.b y1679.c)))) (tt_or (tt_tst (cE (R.ok (!inL y1679.b starts_1672)) (te_bin o_niL (cE (R.ok y1679.b) (te_prj (k := 1) (fun (x : (T5 Str Str Str Int Int)) => x.b) (fun _ => ⟨_, rfl, rfl⟩) (te_var 7 y1679 rfl)) (R.bind_ok _ _)) (te_up (te_var 5 starts_1672 rfl))) ((R.bind_ok _ _).trans (R.bind_ok _ _)))) (tt_or (tt_tst (cE ((((catL starts_1672 p_exits)).bind fun x1683 => R.ok (!inL y1679.c x1683))) (te_bin o_niL (cE (R.ok y1679.c) (te_prj (k := 2) (fun (x : (T5 Str Str Str Int Int)) => x.c) (fun _ => ⟨_, rfl, rfl⟩) (te_var 7 y1679 rfl)) (R.bind_ok _ _)) (te_up (cE ((catL starts_1672 p_exits)) (te_bin o_catL (te_up (te_var 5 starts_1672 rfl)) (te_rd 1 p_exits rfl)) ((R.bind_ok _ _).trans (R.bind_ok _ _))))) (R.bind_ok _ _))) (tt_tst (cE (R.ok (eqC y1679.b y1679.c)) (te_bin o_eqS (cE (R.ok y1679.b) (te_prj (k := 1) (fun (x : (T5 Str Str Str Int Int)) => x.b) (fun _ => ⟨_, rfl, rfl⟩) (te_var 7 y1679 rfl)) (R.bind_ok _ _)) (cE (R.ok y1679.c) (te_prj (k := 2) (fun (x : (T5 Str Str Str Int Int)) => x.c) (fun _ => ⟨_, rfl, rfl⟩) (te_var 7 y1679 rfl)) (R.bind_ok _ _))) ((R.bind_ok _ _).trans (R.bind_ok _ _)))))) orR_ok) (fun _ _ _ h => h.pre)
 (tb_last (tb_retP (t := R.ok (Lp.rt false)) (te_bl false) (fun c p hp hq => ⟨_, rfl, ⟨hp, _, rfl, hq⟩⟩)))
 (tb_nxseq (tb_ifP (tt_orP (tt_tst (cE (R.ok (decide (y1679.d < (0 : Int)))) (te_bin o_lt (cE (R.ok y1679.d) (te_prj (k := 3) (fun (x : (T5 Str Str Str Int Int)) => x.d) (fun _ => ⟨_, rfl, rfl⟩) (te_var 7 y1679 rfl)) (R.bind_ok _ _)) (te_int (0 : Int))) ((R.bind_ok _ _).trans (R.bind_ok _ _)))) (tt_orP (tt_tst (cE (R.ok (decide ((50 : Int) < y1679.d))) (te_bin o_gt (cE (R.ok y1679.d) (te_prj (k := 3) (fun (x : (T5 Str Str Str Int Int)) => x.d) (fun _ => ⟨_, rfl, rfl⟩) (te_var 7 y1679 rfl)) (R.bind_ok _ _)) (te_int (50 : Int))) ((R.bind_ok _ _).trans (R.bind_ok _ _)))) (tt_orP (tt_tst (cE (R.ok (decide (y1679.e < (1 : Int)))) (te_bin o_lt (cE (R.ok y1679.e) (te_prj (k := 4) (fun (x : (T5 Str Str Str Int Int)) => x.e) (fun _ => ⟨_, rfl, rfl⟩) (te_var 7 y1679 rfl)) (R.bind_ok _ _)) (te_int (1 : Int))) ((R.bind_ok _ _).trans (R.bind_ok _ _)))) (tt_tst (cE (R.ok (decide ((5 : Int) < y1679.e))) (te_bin o_gt (cE (R.ok y1679.e) (te_prj (k := 4) (fun (x : (T5 Str Str Str Int Int)) => x.e) (fun _ => ⟨_, rfl, rfl⟩) (te_var 7 y1679 rfl)) (R.bind_ok _ _)) (te_int (5 : Int))) ((R.bind_ok _ _).trans (R.bind_ok _ _)))))))
 (tb_last (tb_retP (t := R.ok (Lp.rt false)) (te_bl false) (fun c p hp hq => ⟨_, rfl, ⟨hp, _, rfl, hq⟩⟩)))
 (tb_next (t := R.ok (Lp.nx ())) fun e c h => ⟨_, rfl, h.sub (Sub.cons rfl (Sub.cons rfl Sub.nil))⟩))))) rfl)⟩) (fun s1678 => (tb_last (tb_retP (t := R.ok true) (te_bl true) (fun c p hp hq => ⟨hp, _, rfl, hq⟩))))))))))))))))
  exact h
set_option maxHeartbeats 4000000 in
theorem f__law_made (k : Ks K) (p_rooms : (List (T2 Str Int))) (p_exits : (List Str)) (p_ways : (List (T5 Str Str Str Int Int))) : FT K (F__law_made K) [.r (enc K p_rooms) (co K p_rooms), .r (enc K p_exits) (co K p_exits), .r (enc K p_ways) (co K p_ways)] (t__law_made p_rooms p_exits p_ways) := by
  refine ft_P (show 3 ≤ 10 by decide) fun base => ?_
  have h : TB K base 10 (entA 0 [.r (enc K p_rooms) (co K p_rooms), .r (enc K p_exits) (co K p_exits), .r (enc K p_ways) (co K p_ways)]) (g__law_made K) (Post.fn K base) _ :=
    (tb_set (by decide) (cE ((t__law_is_house p_rooms p_exits p_ways)) (te_call (ta_cons (te_rd 0 p_rooms rfl) fun x1694 => (ta_cons (te_rd 1 p_exits rfl) fun x1695 => (ta_cons (te_rd 2 p_ways rfl) fun x1696 => (ta_nil fun cs hc d1690 h1693 d1689 h1692 d1688 h1691 => f__law_is_house k x1694 x1695 x1696 cs [d1688, d1689, d1690] hc ⟨d1688, [d1689, d1690], rfl, h1691, ⟨d1689, [d1690], rfl, h1692, ⟨d1690, [], rfl, h1693, rfl⟩⟩⟩))))) ((R.bind_ok _ _).trans ((R.bind_ok _ _).trans (R.bind_ok _ _)))) (fun _ _ _ h => h.pre) (fun due_1639 => (tb_ownP (by decide) (te_listL (te_rd 0 p_rooms rfl)) (fun first_1697 => (tb_ownP (by decide) (te_listL (te_rd 1 p_exits rfl)) (fun second_1698 => (tb_ownP (by decide) (te_listL (te_rd 2 p_ways rfl)) (fun third_1699 => (tb_joinE (Γj := (fun (s1713 : O_House) => [(7, .v (enc K s1713)), (0, .r (enc K p_rooms) (co K p_rooms)), (1, .r (enc K p_exits) (co K p_exits)), (2, .r (enc K p_ways) (co K p_ways)), (3, .v (enc K due_1639)), (4, .o none (co K first_1697)), (5, .o none (co K second_1698)), (6, .o none (co K third_1699))])) (tb_try (i := 8) (Γx := [(0, .r (enc K p_rooms) (co K p_rooms)), (1, .r (enc K p_exits) (co K p_exits)), (2, .r (enc K p_ways) (co K p_ways)), (3, .v (enc K due_1639)), (4, .o none (co K first_1697)), (5, .o none (co K second_1698)), (6, .o none (co K third_1699))]) ok_je (by decide) (p_sel_BadHouse k) (fun _ _ h => h.pre)
 (tb_last (tb_set (by decide) (te_pub (cE ((t_House___init__ first_1697 second_1698 third_1699)) (te_make (C := ("House" : Str)) rfl (ta_cons (te_own 4 first_1697 rfl) fun x1721 => (ta_cons (te_own 5 second_1698 rfl) fun x1722 => (ta_cons (te_own 6 third_1699 rfl) fun x1723 => (ta_nil fun cs hc d1717 h1720 d1716 h1719 d1715 h1718 => ⟨_, f_House___init__ k x1721 x1722 x1723, ⟨d1715, [d1716, d1717], rfl, h1718, ⟨d1716, [d1717], rfl, h1719, ⟨d1717, [], rfl, h1720, rfl⟩⟩⟩⟩))))) ((R.bind_ok _ _).trans ((R.bind_ok _ _).trans (R.bind_ok _ _))))) (fun _ _ _ h => h.sub (Sub.cons rfl (Sub.cons rfl (Sub.cons rfl (Sub.cons rfl (Sub.cons rfl (Sub.cons rfl (Sub.cons rfl Sub.nil)))))))) (fun house_1714 => (tb_next (t := R.ok (Lp.nx house_1714)) fun e c h => ⟨_, rfl, h.sub (Sub.cons rfl (Sub.cons rfl (Sub.cons rfl (Sub.cons rfl (Sub.cons rfl (Sub.cons rfl (Sub.cons rfl (Sub.cons rfl Sub.nil))))))))⟩))))
 (fun x1700 _ => (tb_set (by decide) (te_nox (te_isX (i := 8) (c := (.tup [(.raw (.ref (He.ga K ("AlarmOver" : Str)))), (.raw (.ref (He.ga K ("BadBook" : Str)))), (.raw (.ref (He.ga K ("BadBounds" : Str)))), (.raw (.ref (He.ga K ("BadClosing" : Str)))), (.raw (.ref (He.ga K ("BadCourse" : Str)))), (.raw (.ref (He.ga K ("BadCover" : Str)))), (.raw (.ref (He.ga K ("BadCrowd" : Str)))), (.raw (.ref (He.ga K ("BadCut" : Str)))), (.raw (.ref (He.ga K ("BadDeed" : Str)))), (.raw (.ref (He.ga K ("BadFire" : Str)))), (.raw (.ref (He.ga K ("BadFloor" : Str)))), (.raw (.ref (He.ga K ("BadHour" : Str)))), (.raw (.ref (He.ga K ("BadLimit" : Str)))), (.raw (.ref (He.ga K ("BadLinks" : Str)))), (.raw (.ref (He.ga K ("BadMinutes" : Str)))), (.raw (.ref (He.ga K ("BadMovement" : Str)))), (.raw (.ref (He.ga K ("BadNeeds" : Str)))), (.raw (.ref (He.ga K ("BadNet" : Str)))), (.raw (.ref (He.ga K ("BadOffers" : Str)))), (.raw (.ref (He.ga K ("BadReport" : Str)))), (.raw (.ref (He.ga K ("BadSigns" : Str)))), (.raw (.ref (He.ga K ("BadTable" : Str)))), (.raw (.ref (He.ga K ("BadTeams" : Str)))), (.raw (.ref (He.ga K ("BadText" : Str)))), (.raw (.ref (He.ga K ("BadTroubles" : Str)))), (.raw (.ref (He.ga K ("BadWalk" : Str)))), (.raw (.ref (He.ga K ("NoFlow" : Str)))), (.raw (.ref (He.ga K ("NoHistory" : Str)))), (.raw (.ref (He.ga K ("NothingToRedo" : Str)))), (.raw (.ref (He.ga K ("NothingToUndo" : Str)))), (.raw (.ref (He.ga K ("ReportClash" : Str)))), (.raw (.ref (He.ga K ("TooLarge" : Str)))), (.raw (.ref (He.ga K ("UnknownName" : Str)))), (.raw (.ref (He.ga K ("UnknownReport" : Str))))])) rfl (p_isx1 k) (fun _ _ _ => rfl))) HX.nox (fun other_1724 => (tb_last (tb_ret (l := fun v1725 => R.ok (Lp.rt v1725)) (te_nox (cE (if (!due_1639) = true then (if (!other_1724) = true then (andR (isxR isx3 x1700) (isxR isx5 x1700)) else R.ok false) else R.ok false) (te_andV (cE (R.ok (!due_1639)) (te_notV (te_var 3 due_1639 rfl)) (R.bind_ok _ _)) (cE (if (!other_1724) = true then (andR (isxR isx3 x1700) (isxR isx5 x1700)) else R.ok false) (te_andV (cE (R.ok (!other_1724)) (te_notV (te_var 9 other_1724 rfl)) (R.bind_ok _ _)) (te_andV (te_isX (i := 8) (c := (.raw (.ref (He.ga K ("EverybodyError" : Str))))) rfl (p_isx3 k) (fun _ _ _ => rfl)) (te_isX (i := 8) (c := (.raw (.ty "ValueError"))) rfl (p_isx5 k) (fun _ _ _ => rfl)))) andR_ok)) andR_ok)) HX.nox (fun v1725 c p hp hq => ⟨_, rfl, ⟨hp, _, rfl, hq⟩⟩))))))) (fun s1713 => (tb_seq (tb_if (cE (if (!due_1639) = true then R.ok true else (orR (neR first_1697 p_rooms) (orR (neR second_1698 p_exits) (neR third_1699 p_ways)))) (tt_or (cE (R.ok (!due_1639)) (tt_not (tt_truB (te_var 3 due_1639 rfl))) (R.bind_ok _ _)) (tt_or (tt_tst (cE ((neR first_1697 p_rooms)) (te_bin (o_neL (by decide)) (te_own 4 first_1697 rfl) (te_rd 0 p_rooms rfl)) ((R.bind_ok _ _).trans (R.bind_ok _ _)))) (tt_or (tt_tst (cE ((neR second_1698 p_exits)) (te_bin (o_neL (by decide)) (te_own 5 second_1698 rfl) (te_rd 1 p_exits rfl)) ((R.bind_ok _ _).trans (R.bind_ok _ _)))) (tt_tst (cE ((neR third_1699 p_ways)) (te_bin (o_neL (by decide)) (te_own 6 third_1699 rfl) (te_rd 2 p_ways rfl)) ((R.bind_ok _ _).trans (R.bind_ok _ _))))))) orR_ok) (fun _ _ _ h => h.pre)
 (tb_last (tb_retP (t := R.ok false) (te_bl false) (fun c p hp hq => ⟨hp, _, rfl, hq⟩)))
 (tb_nxseq (tb_putPP p_lst first_1697 rfl (cE (R.ok (⟨("zz" : Str), (7 : Int)⟩ : (T2 Str Int))) (te_tupA (ta_cons (te_str ("zz" : Str)) fun x1731 => (ta_cons (te_int (7 : Int)) fun x1732 => (ta_nil fun cs hc d1728 h1730 d1727 h1729 => ⟨(⟨x1731, x1732⟩ : (T2 Str Int)), rfl, (by rw [h1729, h1730]; rfl), small_le (show 2 ≤ 1000000 by decide)⟩)))) ((R.bind_ok _ _).trans (R.bind_ok _ _))) (te_int (0 : Int)) (fun first_1734 => (tb_mth1P of_list m_append first_1734 rfl (cE (R.ok (⟨("zzz" : Str), (8 : Int)⟩ : (T2 Str Int))) (te_tupA (ta_cons (te_str ("zzz" : Str)) fun x1740 => (ta_cons (te_int (8 : Int)) fun x1741 => (ta_nil fun cs hc d1737 h1739 d1736 h1738 => ⟨(⟨x1740, x1741⟩ : (T2 Str Int)), rfl, (by rw [h1738, h1739]; rfl), small_le (show 2 ≤ 1000000 by decide)⟩)))) ((R.bind_ok _ _).trans (R.bind_ok _ _))) (fun first_1735 => (tb_putPP p_lst second_1698 rfl (te_str ("zzzz" : Str)) (te_int (0 : Int)) (fun second_1743 => (tb_mth1P of_list m_append second_1743 rfl (te_str ("z" : Str)) (fun second_1744 => (tb_mth1P of_list m_append third_1699 rfl (cE (R.ok (⟨("y" : Str), ("zz" : Str), ("z" : Str), (1 : Int), (1 : Int)⟩ : (T5 Str Str Str Int Int))) (te_tupA (ta_cons (te_str ("y" : Str)) fun x1756 => (ta_cons (te_str ("zz" : Str)) fun x1757 => (ta_cons (te_str ("z" : Str)) fun x1758 => (ta_cons (te_int (1 : Int)) fun x1759 => (ta_cons (te_int (1 : Int)) fun x1760 => (ta_nil fun cs hc d1750 h1755 d1749 h1754 d1748 h1753 d1747 h1752 d1746 h1751 => ⟨(⟨x1756, x1757, x1758, x1759, x1760⟩ : (T5 Str Str Str Int Int)), rfl, (by rw [h1751, h1752, h1753, h1754, h1755]; rfl), small_le (show 5 ≤ 1000000 by decide)⟩))))))) ((R.bind_ok _ _).trans ((R.bind_ok _ _).trans ((R.bind_ok _ _).trans ((R.bind_ok _ _).trans (R.bind_ok _ _)))))) (fun third_1745 => (tb_mth0P of_list m_reverse third_1745 rfl (fun third_1761 => (tb_last (tb_ret (l := fun v1774 => R.ok v1774) (cE ((t__law_kept s1713 p_rooms p_exits p_ways)) (te_call (ta_cons (te_var 7 s1713 rfl) fun x1770 => (ta_cons (te_rd 0 p_rooms rfl) fun x1771 => (ta_cons (te_rd 1 p_exits rfl) fun x1772 => (ta_cons (te_rd 2 p_ways rfl) fun x1773 => (ta_nil fun cs hc d1765 h1769 d1764 h1768 d1763 h1767 d1762 h1766 => f__law_kept k x1770 x1771 x1772 x1773 cs [d1762, d1763, d1764, d1765] hc ⟨d1762, [d1763, d1764, d1765], rfl, h1766, ⟨d1763, [d1764, d1765], rfl, h1767, ⟨d1764, [d1765], rfl, h1768, ⟨d1765, [], rfl, h1769, rfl⟩⟩⟩⟩)))))) ((R.bind_ok _ _).trans ((R.bind_ok _ _).trans ((R.bind_ok _ _).trans (R.bind_ok _ _))))) (fun _ _ _ h => h.pre) (fun v1774 c p hp hq => ⟨hp, _, rfl, hq⟩))))))))))))))))))))))))))))
  exact h
set_option maxHeartbeats 4000000 in
theorem f_law (k : Ks K) (p_script : Scr) : FT K (F_law K) [.v (enc K p_script)] (t_law p_script) := by
  refine ft_P (show 1 ≤ 7 by decide) fun base => ?_
  have h : TB K base 7 (entA 0 [.v (enc K p_script)]) (g_law K) (Post.fn K base) _ :=
    (tb_set (by decide) (cE ((((t__law_draw p_script (0 : Int) (8 : Int))).bind fun x52 => R.ok ((1 : Int) + x52))) (te_bin o_add (te_int (1 : Int)) (cE ((t__law_draw p_script (0 : Int) (8 : Int))) (te_call (ta_cons (te_var 0 p_script rfl) fun x49 => (ta_cons (te_int (0 : Int)) fun x50 => (ta_cons (te_int (8 : Int)) fun x51 => (ta_nil fun cs hc d45 h48 d44 h47 d43 h46 => f__law_draw k x49 x50 x51 cs [d43, d44, d45] hc ⟨d43, [d44, d45], rfl, h46, ⟨d44, [d45], rfl, h47, ⟨d45, [], rfl, h48, rfl⟩⟩⟩))))) ((R.bind_ok _ _).trans ((R.bind_ok _ _).trans (R.bind_ok _ _))))) (R.bind_ok _ _)) (fun _ _ _ h => h.pre) (fun many_1 => (tb_set (by decide) (cE ((((t__law_draw p_script (1 : Int) (4 : Int))).bind fun x63 => R.ok ((1 : Int) + x63))) (te_bin o_add (te_int (1 : Int)) (cE ((t__law_draw p_script (1 : Int) (4 : Int))) (te_call (ta_cons (te_var 0 p_script rfl) fun x60 => (ta_cons (te_int (1 : Int)) fun x61 => (ta_cons (te_int (4 : Int)) fun x62 => (ta_nil fun cs hc d56 h59 d55 h58 d54 h57 => f__law_draw k x60 x61 x62 cs [d54, d55, d56] hc ⟨d54, [d55, d56], rfl, h57, ⟨d55, [d56], rfl, h58, ⟨d56, [], rfl, h59, rfl⟩⟩⟩))))) ((R.bind_ok _ _).trans ((R.bind_ok _ _).trans (R.bind_ok _ _))))) (R.bind_ok _ _)) (fun _ _ _ h => h.pre) (fun gates_53 => (tb_set (by decide) (cE ((((t__law_draw p_script (3 : Int) (21 : Int))).bind fun x498 => (t__law_lists p_script many_1 gates_53 x498))) (te_call (ta_cons (te_var 0 p_script rfl) fun x494 => (ta_cons (te_var 1 many_1 rfl) fun x495 => (ta_cons (te_var 2 gates_53 rfl) fun x496 => (ta_cons (cE ((t__law_draw p_script (3 : Int) (21 : Int))) (te_call (ta_cons (te_var 0 p_script rfl) fun x483 => (ta_cons (te_int (3 : Int)) fun x484 => (ta_cons (te_int (21 : Int)) fun x485 => (ta_nil fun cs hc d479 h482 d478 h481 d477 h480 => f__law_draw k x483 x484 x485 cs [d477, d478, d479] hc ⟨d477, [d478, d479], rfl, h480, ⟨d478, [d479], rfl, h481, ⟨d479, [], rfl, h482, rfl⟩⟩⟩))))) ((R.bind_ok _ _).trans ((R.bind_ok _ _).trans (R.bind_ok _ _)))) fun x497 => (ta_nil fun cs hc d489 h493 d488 h492 d487 h491 d486 h490 => f__law_lists k x494 x495 x496 x497 cs [d486, d487, d488, d489] hc ⟨d486, [d487, d488, d489], rfl, h490, ⟨d487, [d488, d489], rfl, h491, ⟨d488, [d489], rfl, h492, ⟨d489, [], rfl, h493, rfl⟩⟩⟩⟩)))))) ((R.bind_ok _ _).trans ((R.bind_ok _ _).trans (R.bind_ok _ _)))) (fun _ _ _ h => h.pre) (fun parts_64 => (tb_set (by decide) (te_pub (cE ((t_House___init__ parts_64.a parts_64.b parts_64.c)) (te_make (C := ("House" : Str)) rfl (ta_cons (te_up (te_pub (te_listL (te_up (cE (R.ok parts_64.a) (te_prj (k := 0) (fun (x : (T3 (List (T2 Str Int)) (List Str) (List (T5 Str Str Str Int Int)))) => x.a) (fun _ => ⟨_, rfl, rfl⟩) (te_var 3 parts_64 rfl)) (R.bind_ok _ _)))))) fun x607 => (ta_cons (te_up (te_pub (te_listL (te_up (cE (R.ok parts_64.b) (te_prj (k := 1) (fun (x : (T3 (List (T2 Str Int)) (List Str) (List (T5 Str Str Str Int Int)))) => x.b) (fun _ => ⟨_, rfl, rfl⟩) (te_var 3 parts_64 rfl)) (R.bind_ok _ _)))))) fun x608 => (ta_cons (te_up (te_pub (te_listL (te_up (cE (R.ok parts_64.c) (te_prj (k := 2) (fun (x : (T3 (List (T2 Str Int)) (List Str) (List (T5 Str Str Str Int Int)))) => x.c) (fun _ => ⟨_, rfl, rfl⟩) (te_var 3 parts_64 rfl)) (R.bind_ok _ _)))))) fun x609 => (ta_nil fun cs hc d603 h606 d602 h605 d601 h604 => ⟨_, f_House___init__ k x607 x608 x609, ⟨d601, [d602, d603], rfl, h604, ⟨d602, [d603], rfl, h605, ⟨d603, [], rfl, h606, rfl⟩⟩⟩⟩))))) ((R.bind_ok _ _).trans ((R.bind_ok _ _).trans (R.bind_ok _ _))))) (fun _ _ _ h => h.pre) (fun house_499 => (tb_seq (tb_if (tt_not (tt_tst (cE ((t__law_kept house_499 parts_64.a parts_64.b parts_64.c)) (te_call (ta_cons (te_var 4 house_499 rfl) fun x674 => (ta_cons (te_up (cE (R.ok parts_64.a) (te_prj (k := 0) (fun (x : (T3 (List (T2 Str Int)) (List Str) (List (T5 Str Str Str Int Int)))) => x.a) (fun _ => ⟨_, rfl, rfl⟩) (te_var 3 parts_64 rfl)) (R.bind_ok _ _))) fun x675 => (ta_cons (te_up (cE (R.ok parts_64.b) (te_prj (k := 1) (fun (x : (T3 (List (T2 Str Int)) (List Str) (List (T5 Str Str Str Int Int)))) => x.b) (fun _ => ⟨_, rfl, rfl⟩) (te_var 3 parts_64 rfl)) (R.bind_ok _ _))) fun x676 => (ta_cons (te_up (cE (R.ok parts_64.c) (te_prj (k := 2) (fun (x : (T3 (List (T2 Str Int)) (List Str) (List (T5 Str Str Str Int Int)))) => x.c) (fun _ => ⟨_, rfl, rfl⟩) (te_var 3 parts_64 rfl)) (R.bind_ok _ _))) fun x677 => (ta_nil fun cs hc d669 h673 d668 h672 d667 h671 d666 h670 => f__law_kept k x674 x675 x676 x677 cs [d666, d667, d668, d669] hc ⟨d666, [d667, d668, d669], rfl, h670, ⟨d667, [d668, d669], rfl, h671, ⟨d668, [d669], rfl, h672, ⟨d669, [], rfl, h673, rfl⟩⟩⟩⟩)))))) ((R.bind_ok _ _).trans ((R.bind_ok _ _).trans ((R.bind_ok _ _).trans (R.bind_ok _ _))))))) (fun _ _ _ h => h.pre)
 (tb_last (tb_retP (t := R.ok false) (te_bl false) (fun c p hp hq => ⟨hp, _, rfl, hq⟩)))
 (tb_nxseq (tb_for (b := (t_law_b7 p_script parts_64)) (fun (s680 : Unit) => [(0, .v (enc K p_script)), (3, .v (enc K parts_64)), (4, .v (enc K house_499))]) () (cE ((rng1 (6 : Int))) (ti_rng1 (te_int (6 : Int))) (R.bind_ok _ _)) (fun _ _ _ h => h.pre) (Sub.cons rfl (Sub.cons rfl (Sub.cons rfl Sub.nil))) (fun _ => rfl) (fun y681 s680 => ⟨_, (tg_nm (by decide)), (cB ((t_law_b7 p_script parts_64) y681 s680) (tb_set (by decide) (cE ((((((mulR (10 : Int) y681)).bind fun x1787 => R.ok ((210 : Int) + x1787))).bind fun x1797 => (t__law_changed p_script x1797 parts_64))) (te_call (ta_cons (te_var 0 p_script rfl) fun x1794 => (ta_cons (cE ((((mulR (10 : Int) y681)).bind fun x1787 => R.ok ((210 : Int) + x1787))) (te_bin o_add (te_int (210 : Int)) (cE ((mulR (10 : Int) y681)) (te_bin o_mul (te_int (10 : Int)) (te_var 5 y681 rfl)) ((R.bind_ok _ _).trans (R.bind_ok _ _)))) (R.bind_ok _ _)) fun x1795 => (ta_cons (te_var 3 parts_64 rfl) fun x1796 => (ta_nil fun cs hc d1790 h1793 d1789 h1792 d1788 h1791 => f__law_changed k x1794 x1795 x1796 cs [d1788, d1789, d1790] hc ⟨d1788, [d1789, d1790], rfl, h1791, ⟨d1789, [d1790], rfl, h1792, ⟨d1790, [], rfl, h1793, rfl⟩⟩⟩))))) ((R.bind_ok _ _).trans (congrArg (R.bind _) (funext fun _ => (R.bind_ok _ _))))) (fun _ _ _ h => h.pre) (fun changed_1786 => (tb_if (tt_not (tt_tst (cE ((t__law_made changed_1786.a changed_1786.b changed_1786.c)) (te_call (ta_cons (te_up (cE (R.ok changed_1786.a) (te_prj (k := 0) (fun (x : (T3 (List (T2 Str Int)) (List Str) (List (T5 Str Str Str Int Int)))) => x.a) (fun _ => ⟨_, rfl, rfl⟩) (te_var 6 changed_1786 rfl)) (R.bind_ok _ _))) fun x1804 => (ta_cons (te_up (cE (R.ok changed_1786.b) (te_prj (k := 1) (fun (x : (T3 (List (T2 Str Int)) (List Str) (List (T5 Str Str Str Int Int)))) => x.b) (fun _ => ⟨_, rfl, rfl⟩) (te_var 6 changed_1786 rfl)) (R.bind_ok _ _))) fun x1805 => (ta_cons (te_up (cE (R.ok changed_1786.c) (te_prj (k := 2) (fun (x : (T3 (List (T2 Str Int)) (List Str) (List (T5 Str Str Str Int Int)))) => x.c) (fun _ => ⟨_, rfl, rfl⟩) (te_var 6 changed_1786 rfl)) (R.bind_ok _ _))) fun x1806 => (ta_nil fun cs hc d1800 h1803 d1799 h1802 d1798 h1801 => f__law_made k x1804 x1805 x1806 cs [d1798, d1799, d1800] hc ⟨d1798, [d1799, d1800], rfl, h1801, ⟨d1799, [d1800], rfl, h1802, ⟨d1800, [], rfl, h1803, rfl⟩⟩⟩))))) ((R.bind_ok _ _).trans ((R.bind_ok _ _).trans (R.bind_ok _ _)))))) (fun _ _ _ h => h.pre)
 (tb_last (tb_retP (t := R.ok (Lp.rt false)) (te_bl false) (fun c p hp hq => ⟨_, rfl, ⟨hp, _, rfl, hq⟩⟩)))
 (tb_next (t := R.ok (Lp.nx ())) fun e c h => ⟨_, rfl, h.sub (Sub.cons rfl (Sub.cons rfl (Sub.cons rfl Sub.nil)))⟩)))) rfl)⟩) (fun s680 => (tb_seq (tb_if (tt_not (tt_tst (cE ((t__law_made parts_64.a parts_64.b parts_64.c)) (te_call (ta_cons (te_up (cE (R.ok parts_64.a) (te_prj (k := 0) (fun (x : (T3 (List (T2 Str Int)) (List Str) (List (T5 Str Str Str Int Int)))) => x.a) (fun _ => ⟨_, rfl, rfl⟩) (te_var 3 parts_64 rfl)) (R.bind_ok _ _))) fun x1815 => (ta_cons (te_up (cE (R.ok parts_64.b) (te_prj (k := 1) (fun (x : (T3 (List (T2 Str Int)) (List Str) (List (T5 Str Str Str Int Int)))) => x.b) (fun _ => ⟨_, rfl, rfl⟩) (te_var 3 parts_64 rfl)) (R.bind_ok _ _))) fun x1816 => (ta_cons (te_up (cE (R.ok parts_64.c) (te_prj (k := 2) (fun (x : (T3 (List (T2 Str Int)) (List Str) (List (T5 Str Str Str Int Int)))) => x.c) (fun _ => ⟨_, rfl, rfl⟩) (te_var 3 parts_64 rfl)) (R.bind_ok _ _))) fun x1817 => (ta_nil fun cs hc d1811 h1814 d1810 h1813 d1809 h1812 => f__law_made k x1815 x1816 x1817 cs [d1809, d1810, d1811] hc ⟨d1809, [d1810, d1811], rfl, h1812, ⟨d1810, [d1811], rfl, h1813, ⟨d1811, [], rfl, h1814, rfl⟩⟩⟩))))) ((R.bind_ok _ _).trans ((R.bind_ok _ _).trans (R.bind_ok _ _)))))) (fun _ _ _ h => h.pre)
 (tb_last (tb_retP (t := R.ok false) (te_bl false) (fun c p hp hq => ⟨hp, _, rfl, hq⟩)))
 (tb_nxseq (tb_last (tb_ret (l := fun v1832 => R.ok v1832) (cE ((t__law_kept house_499 parts_64.a parts_64.b parts_64.c)) (te_call (ta_cons (te_var 4 house_499 rfl) fun x1828 => (ta_cons (te_up (cE (R.ok parts_64.a) (te_prj (k := 0) (fun (x : (T3 (List (T2 Str Int)) (List Str) (List (T5 Str Str Str Int Int)))) => x.a) (fun _ => ⟨_, rfl, rfl⟩) (te_var 3 parts_64 rfl)) (R.bind_ok _ _))) fun x1829 => (ta_cons (te_up (cE (R.ok parts_64.b) (te_prj (k := 1) (fun (x : (T3 (List (T2 Str Int)) (List Str) (List (T5 Str Str Str Int Int)))) => x.b) (fun _ => ⟨_, rfl, rfl⟩) (te_var 3 parts_64 rfl)) (R.bind_ok _ _))) fun x1830 => (ta_cons (te_up (cE (R.ok parts_64.c) (te_prj (k := 2) (fun (x : (T3 (List (T2 Str Int)) (List Str) (List (T5 Str Str Str Int Int)))) => x.c) (fun _ => ⟨_, rfl, rfl⟩) (te_var 3 parts_64 rfl)) (R.bind_ok _ _))) fun x1831 => (ta_nil fun cs hc d1823 h1827 d1822 h1826 d1821 h1825 d1820 h1824 => f__law_kept k x1828 x1829 x1830 x1831 cs [d1820, d1821, d1822, d1823] hc ⟨d1820, [d1821, d1822, d1823], rfl, h1824, ⟨d1821, [d1822, d1823], rfl, h1825, ⟨d1822, [d1823], rfl, h1826, ⟨d1823, [], rfl, h1827, rfl⟩⟩⟩⟩)))))) ((R.bind_ok _ _).trans ((R.bind_ok _ _).trans ((R.bind_ok _ _).trans (R.bind_ok _ _))))) (fun _ _ _ h => h.pre) (fun v1832 c p hp hq => ⟨hp, _, rfl, hq⟩)))))))))))))))))))
  exact h
end

/-! ### the draw -/
def absN (s : Scr) (k : Int) : Int := if 0 < s.l.length then abs' (s.l.getD (k % s.l.length).toNat 0) else 0
theorem draw_tail (k size c : Int) (hk : 0 ≤ k) (hk2 : k < 1000000) (hs : 0 < size) (hc : 0 ≤ c) : ∃ v, 0 ≤ v ∧ v < size ∧ ((((mulR (7919 : Int) k).bind fun x => R.ok (c + x)).bind fun x => R.ok (x + (13 : Int))).bind fun x => modR x (2147483647 : Int)).bind (fun m =>
    ((mulR m (m + (48271 : Int))).bind fun x => modR x (2147483629 : Int)).bind fun m =>
    (((mulR m (m + (69621 : Int))).bind fun x => (mulR (31 : Int) k).bind fun y => R.ok (x + y)).bind fun x => modR x (2147483647 : Int)).bind fun m =>
    ((divR m (9 : Int)).bind fun x => modR x size).bind fun v => R.ok v) = R.ok v := by
  rw [mulR_ok (i := 7919) (by decide) (by decide), R.bind_ok, R.bind_ok, R.bind_ok, modR_ok (by decide), R.bind_ok]
  generalize h1 : (c + 7919 * k + 13) % 2147483647 = m
  have b1 : 0 ≤ m ∧ m < 2147483647 := by omega
  rw [mulR_ok (by omega) (by omega), R.bind_ok, modR_ok (by decide), R.bind_ok]
  generalize h2 : m * (m + 48271) % 2147483629 = q
  have b2 : 0 ≤ q ∧ q < 2147483629 := by omega
  rw [mulR_ok (by omega) (by omega), R.bind_ok, mulR_ok (i := 31) (by decide) (by decide), R.bind_ok, R.bind_ok, modR_ok (by decide), R.bind_ok]
  generalize h3 : (q * (q + 69621) + 31 * k) % 2147483647 = z
  rw [divR_ok (by decide) (by decide), R.bind_ok, modR_ok hs, R.bind_ok]
  exact ⟨_, Int.emod_nonneg _ (by omega), Int.emod_lt_of_pos _ hs, rfl⟩
theorem draw_ex (s : Scr) (hn : s.l.length ≤ 63) (k size : Int) (hk : 0 ≤ k) (hk2 : k < 1000000) (hs : 0 < size) : ∃ v, t__law_draw s k size = .ok v ∧ 0 ≤ v ∧ v < size := by
  unfold t__law_draw
  have e0 : min' (len s.l) 63 = (s.l.length : Int) := by
    unfold min' len
    rw [if_neg (by omega)]
  rw [e0]
  dsimp only
  obtain ⟨c, hc, e1⟩ : ∃ c, 0 ≤ c ∧ (if (decide ((0 : Int) < (s.l.length : Int))) = true then (((modR k (s.l.length : Int)).bind fun x9 => (ixL s.l x9)).bind fun x10 => R.ok (abs' x10)).bind (fun cell_8 => R.ok cell_8) else R.ok 0) = R.ok c := by
    by_cases h0 : (0 : Int) < s.l.length
    · rw [if_pos (decide_eq_true h0), modR_ok h0, R.bind_ok]
      have i0 : 0 ≤ k % s.l.length := Int.emod_nonneg _ (by omega)
      have i1 : k % s.l.length < s.l.length := Int.emod_lt_of_pos k h0
      obtain ⟨a, ea, _, _⟩ := ixL_mem i0 i1
      rw [ea, R.bind_ok, R.bind_ok]
      exact ⟨abs' a, by unfold abs'; split <;> omega, rfl⟩
    · exact ⟨0, Int.le_refl _, by rw [if_neg (by simpa using h0)]⟩
  have e1' := e1
  simp only [R.bind_assoc, R.bind_ok] at e1 ⊢
  rw [e1, R.bind_ok, powR18, R.bind_ok]
  obtain ⟨v, v0, v1, ev⟩ := draw_tail k size c hk hk2 hs hc
  simp only [R.bind_assoc, R.bind_ok] at ev
  by_cases hb : (1000000000000000000 : Int) ≤ c
  · have hp : (0 : Int) < s.l.length := by
      by_cases h0 : (0 : Int) < s.l.length
      · exact h0
      · rw [if_neg (by simpa using h0)] at e1
        cases e1
        omega
    have hj0 : 0 ≤ k / (s.l.length : Int) := Int.ediv_nonneg hk (by omega)
    have hj1 : k / (s.l.length : Int) ≤ k := Int.ediv_le_self _ hk
    rw [show iteR (R.ok (decide ((1000000000000000000 : Int) ≤ c))) = fun (u v : R (Lp Unit Int)) => u from by
      funext u v
      rw [decide_eq_true hb]
      rfl]
    dsimp only
    rw [divR_ok hp (by omega), R.bind_ok, rng1_ok hj0 (by omega), R.bind_ok]
    rw [foldR_ok (fun s _ => s / 10000) (fun x _ s => by unfold t__law_draw_b7; rw [divR_ok (by decide) (by decide)]; rfl), R.bind_ok]
    generalize (rngI 0 (k / (s.l.length : Int)).toNat).foldl (fun s _ => s / 10000) c = z
    by_cases hz : 0 < z
    · rw [if_pos (decide_eq_true hz), modR_ok (by decide), R.bind_ok, modR_ok hs, R.bind_ok]
      exact ⟨_, rfl, Int.emod_nonneg _ (by omega), Int.emod_lt_of_pos _ hs⟩
    · rw [if_neg (by simpa using hz)]
      exact ⟨v, ev, v0, v1⟩
  · rw [show iteR (R.ok (decide ((1000000000000000000 : Int) ≤ c))) = fun (u v : R (Lp Unit Int)) => v from by
      funext u v
      rw [decide_eq_false hb]
      rfl]
    exact ⟨v, ev, v0, v1⟩
open Classical in
/-- the number that is drawn -/
noncomputable def dr (s : Scr) (k size : Int) : Int := if h : ∃ v, t__law_draw s k size = .ok v ∧ 0 ≤ v ∧ v < size then h.choose else 0
theorem dr_ok (s : Scr) (hn : s.l.length ≤ 63) (k size : Int) (hk : 0 ≤ k) (hk2 : k < 1000000) (hs : 0 < size) : t__law_draw s k size = .ok (dr s k size) := by
  have h := draw_ex s hn k size hk hk2 hs
  unfold dr
  rw [dif_pos h]
  exact h.choose_spec.1
theorem dr_lt (s : Scr) (hn : s.l.length ≤ 63) (k size : Int) (hk : 0 ≤ k) (hk2 : k < 1000000) (hs : 0 < size) : 0 ≤ dr s k size ∧ dr s k size < size := by
  have h := draw_ex s hn k size hk hk2 hs
  unfold dr
  rw [dif_pos h]
  exact h.choose_spec.2

/-! ### names -/
def LTR : Str := "abcdefghijklmnopqrstuvwxyz0123456789"
def LET : Str := "abcdefghijklmnopqrstuvwxyz"
def chr (i : Int) : Nat := LTR.cps.toList.getD i.toNat 0
theorem chr_ok {i : Int} (h0 : 0 ≤ i) (h1 : i < 36) : ixS ("abcdefghijklmnopqrstuvwxyz0123456789" : Str) i = .ok ⟨#[chr i]⟩ := by
  show ixS LTR i = _
  have hl : LTR.length = 36 := by decide +kernel
  obtain ⟨c, e1, e2⟩ := ixS_ok (z := LTR) (i := i) (by rw [hl]; decide) h0 (by rw [hl]; omega)
  rw [e1]
  unfold chr
  rw [List.getD_eq_getElem?_getD, e2]
  rfl
theorem chr_fin : ∀ i : Fin 36, inS ⟨#[chr (i.val : Int)]⟩ LTR = true ∧ (i.val < 26 → inS ⟨#[chr (i.val : Int)]⟩ LET = true) ∧ ∀ j : Fin 36, chr (i.val : Int) = chr (j.val : Int) → i = j := by decide +kernel
theorem chr_lt {i : Int} (h0 : 0 ≤ i) (h1 : i < 36) : chr i < 0x110000 := by
  have h : ∀ i : Fin 36, chr (i.val : Int) < 0x110000 := by decide +kernel
  have := h ⟨i.toNat, by omega⟩
  rwa [show ((⟨i.toNat, by omega⟩ : Fin 36).val : Int) = i by simp; omega] at this
theorem chr_sgn {i : Int} (h0 : 0 ≤ i) (h1 : i < 36) : inS ⟨#[chr i]⟩ LTR = true := by
  have := (chr_fin ⟨i.toNat, by omega⟩).1
  rwa [show ((⟨i.toNat, by omega⟩ : Fin 36).val : Int) = i by simp; omega] at this
theorem chr_let {i : Int} (h0 : 0 ≤ i) (h1 : i < 26) : inS ⟨#[chr i]⟩ LET = true := by
  have := (chr_fin ⟨i.toNat, by omega⟩).2.1 (by simp; omega)
  rwa [show ((⟨i.toNat, by omega⟩ : Fin 36).val : Int) = i by simp; omega] at this
theorem chr_inj {i j : Int} (h0 : 0 ≤ i) (h1 : i < 36) (h2 : 0 ≤ j) (h3 : j < 36) (e : chr i = chr j) : i = j := by
  have := (chr_fin ⟨i.toNat, by omega⟩).2.2 ⟨j.toNat, by omega⟩ (by
    rw [show ((⟨i.toNat, by omega⟩ : Fin 36).val : Int) = i by simp; omega, show ((⟨j.toNat, by omega⟩ : Fin 36).val : Int) = j by simp; omega]
    exact e)
  have : i.toNat = j.toNat := congrArg Fin.val this
  omega
def isName (t : Str) : Bool := decide (1 ≤ t.length) && decide (t.length ≤ 12) && (match t.cps.toList with
  | [] => false
  | c :: _ => inS ⟨#[c]⟩ LET) && t.cps.toList.all fun c => inS ⟨#[c]⟩ LTR
theorem str_len (t : Str) : t.cps.toList.length = t.length := by simp [Str.length]
/-- the test of a name, as it is written down -/
theorem name_test {b : Str → Unit → R (Lp Unit Bool)} (hb : ∀ y, b y () = if inS y LTR = true then .ok (.nx ()) else .ok (.rt false)) (t : Str) (ht : t.length ≤ 1000000) :
    (iteR (orR ((lenS t).bind fun x => R.ok (decide (x < (1 : Int)))) (orR ((lenS t).bind fun x => R.ok (decide ((12 : Int) < x))) ((ixS t (0 : Int)).bind fun x => R.ok (!inS x LET)))) (R.ok false) ((forR b (sgn t) ()).then fun _ => R.ok true)) = .ok (isName t) := by
  rw [lenS_ok ht, R.bind_ok, R.bind_ok]
  by_cases h1 : t.length = 0
  · have e : isName t = false := by simp [isName, h1]
    rw [e, show decide ((t.length : Int) < 1) = true by simp; omega]
    rfl
  · rw [show decide ((t.length : Int) < 1) = false by simp; omega]
    by_cases h2 : 12 < t.length
    · have e : isName t = false := by
        have : ¬ t.length ≤ 12 := by omega
        simp [isName, this]
      rw [e, show decide ((12 : Int) < t.length) = true by simp; omega]
      rfl
    · rw [show decide ((12 : Int) < t.length) = false by simp; omega]
      obtain ⟨c, e1, e2⟩ := ixS_ok (z := t) (i := 0) ht (by omega) (by omega)
      obtain ⟨r, hc⟩ : ∃ r, t.cps.toList = c :: r := by
        cases q : t.cps.toList with
        | nil => rw [q] at e2; cases e2
        | cons c' r => rw [q] at e2; cases e2; exact ⟨r, rfl⟩
      have hn : isName t = (inS ⟨#[c]⟩ LET && t.cps.toList.all fun c => inS ⟨#[c]⟩ LTR) := by
        have a1 : t.length ≤ 12 := by omega
        have a2 : 1 ≤ t.length := by omega
        unfold isName
        rw [hc]
        simp [a1, a2]
      rw [e1, R.bind_ok, hn]
      cases hl : inS ⟨#[c]⟩ LET with
      | false => rfl
      | true =>
        have hs : (sgn t).all (fun y => inS y LTR) = t.cps.toList.all fun c => inS ⟨#[c]⟩ LTR := by
          unfold sgn
          rw [List.all_map]
          rfl
        rw [forR_chk (v := false) (fun y => inS y LTR) (fun y _ => hb y), hs]
        cases t.cps.toList.all fun c => inS ⟨#[c]⟩ LTR <;> rfl
theorem is_name_ok (t : Str) (ht : t.length ≤ 1000000) : t_is_name t = .ok (isName t) := by
  unfold t_is_name
  exact name_test (fun y => by
    unfold t_is_name_b3
    show (if (!inS y LTR) = true then _ else _) = _
    cases inS y LTR <;> rfl) t ht
/-- what a drawn name is -/
structure Good (s : Scr) (at' : Int) (w : Str) : Prop where
  name : isName w = true
  lo : 2 ≤ w.length
  hi : w.length ≤ 12
  fit : PySem.PyData.strOk w = true
  mark : w.cps.toList[(1 + dr s 900 4).toNat]? = some (chr ((at' * 7 + dr s 980 36) % 36))
theorem Good.inj {s : Scr} (hn : s.l.length ≤ 63) {a b : Int} {w : Str} (ha : 0 ≤ a) (ha2 : a < 36) (hb : 0 ≤ b) (hb2 : b < 36) (h : Good s a w) (h' : Good s b w) : a = b := by
  have e := h.mark.symm.trans h'.mark
  have e : chr ((a * 7 + dr s 980 36) % 36) = chr ((b * 7 + dr s 980 36) % 36) := Option.some.inj e
  have := chr_inj (Int.emod_nonneg _ (by decide)) (Int.emod_lt_of_pos _ (by decide)) (Int.emod_nonneg _ (by decide)) (Int.emod_lt_of_pos _ (by decide)) e
  generalize dr s 980 36 = d at this
  omega
theorem app_list (w : Str) (c : Nat) : (w ++ (⟨#[c]⟩ : Str)).cps.toList = w.cps.toList ++ [c] := by
  show (w.cps ++ #[c]).toList = _
  simp
theorem name_sat (s : Scr) (hn : s.l.length ≤ 63) (at' : Int) (h0 : 0 ≤ at') (h1 : at' < 1000) : (t__law_name s at').Sat (Good s at') := by
  unfold t__law_name
  dsimp only
  have d1 := dr_lt s hn 900 4 (by decide) (by decide) (by decide)
  have d2 := dr_lt s hn 980 36 (by decide) (by decide) (by decide)
  have d4 := dr_lt s hn (940 + at') 26 (by omega) (by omega) (by omega)
  rw [dr_ok s hn 900 4 (by decide) (by decide) (by decide), R.bind_ok, R.bind_ok]
  have d3 := dr_lt s hn (901 + at') (12 - (1 + dr s 900 4)) (by omega) (by omega) (by omega)
  rw [dr_ok s hn (901 + at') (12 - (1 + dr s 900 4)) (by omega) (by omega) (by omega), R.bind_ok, R.bind_ok, dr_ok s hn (940 + at') 26 (by omega) (by omega) (by omega), R.bind_ok]
  rw [chr_ok (i := dr s (940 + at') 26) (by omega) (by omega), R.bind_ok]
  generalize hsp : (1 + dr s 900 4) = sp at *
  generalize hd : dr s 980 36 = d at *
  rw [rng2_ok (by omega) (by omega) (by omega) (by omega), R.bind_ok]
  refine Sat.bind (P := fun w => w.cps.toList.length = (sp + 1 + dr s (901 + at') (12 - sp)).toNat ∧ (w.cps.toList[0]? = some (chr (dr s (940 + at') 26))) ∧ (∀ c ∈ w.cps.toList, inS ⟨#[c]⟩ LTR = true ∧ c < 0x110000) ∧ w.cps.toList[sp.toNat]? = some (chr ((at' * 7 + d) % 36))) ?_ fun w hw => ?_
  · refine Sat.imp (Sat.foldR (fun (done : List Int) (w : Str) => w.cps.toList.length = 1 + done.length ∧ (w.cps.toList[0]? = some (chr (dr s (940 + at') 26))) ∧ (∀ c ∈ w.cps.toList, inS ⟨#[c]⟩ LTR = true ∧ c < 0x110000) ∧ (sp.toNat < 1 + done.length → w.cps.toList[sp.toNat]? = some (chr ((at' * 7 + d) % 36)))) ?_ ?_) ?_
    · refine ⟨rfl, rfl, fun c hc => ?_, fun h => ?_⟩
      · have : c = chr (dr s (940 + at') 26) := by simpa using hc
        rw [this]
        exact ⟨chr_sgn (by omega) (by omega), chr_lt (by omega) (by omega)⟩
      · simp at h; omega
    · rintro dn x r w e ⟨i1, i2, i3, i4⟩
      obtain ⟨x1, x2, _⟩ := rngI_split e
      have wl : w.length = 1 + dn.length := by rw [← str_len]; exact i1
      have key : ∀ i : Int, 0 ≤ i → i < 36 → (x = sp → i = (at' * 7 + d) % 36) → (catS w ⟨#[chr i]⟩).Sat (fun w : Str => w.cps.toList.length = 1 + (dn ++ [x]).length ∧ (w.cps.toList[0]? = some (chr (dr s (940 + at') 26))) ∧ (∀ c ∈ w.cps.toList, inS ⟨#[c]⟩ LTR = true ∧ c < 0x110000) ∧ (sp.toNat < 1 + (dn ++ [x]).length → w.cps.toList[sp.toNat]? = some (chr ((at' * 7 + d) % 36)))) := by
        intro i j0 j1 j2
        rw [catS_ok (by rw [wl]; show 1 + dn.length + 1 ≤ _; omega)]
        refine Sat.ok ⟨?_, ?_, ?_, ?_⟩
        · rw [app_list, List.length_append, i1, List.length_append]; rfl
        · rw [app_list, List.getElem?_append_left (by rw [i1]; omega)]; exact i2
        · intro c hc
          rw [app_list] at hc
          rcases List.mem_append.mp hc with hc | hc
          · exact i3 c hc
          · rw [List.mem_singleton] at hc
            rw [hc]
            exact ⟨chr_sgn j0 j1, chr_lt j0 j1⟩
        · intro h
          rw [app_list]
          by_cases hs : sp.toNat < 1 + dn.length
          · rw [List.getElem?_append_left (by rw [i1]; exact hs)]
            exact i4 hs
          · simp at h
            have : sp.toNat = w.cps.toList.length := by omega
            rw [this, List.getElem?_append_right (Nat.le_refl _), Nat.sub_self]
            rw [j2 (by omega)]
            rfl
      unfold t__law_name_b5
      rw [eqC_int]
      refine Sat.ite (fun hx => ?_) (fun hx => ?_)
      · rw [mulR_ok' (by decide) (by decide), R.bind_ok, dr_ok s hn 980 36 (by decide) (by decide) (by decide), R.bind_ok, R.bind_ok, modR_ok (by decide), R.bind_ok, hd]
        rw [chr_ok (i := (at' * 7 + d) % 36) (Int.emod_nonneg _ (by decide)) (Int.emod_lt_of_pos _ (by decide)), R.bind_ok]
        refine Sat.bind (key _ (Int.emod_nonneg _ (by decide)) (Int.emod_lt_of_pos _ (by decide)) fun _ => rfl) fun a h => Sat.ok h
      · have d5 := dr_lt s hn (1000 + 12 * at' + x) 36 (by omega) (by omega) (by omega)
        rw [mulR_ok (by decide) (by decide), R.bind_ok, R.bind_ok, R.bind_ok, dr_ok s hn (1000 + 12 * at' + x) 36 (by omega) (by omega) (by omega), R.bind_ok]
        rw [chr_ok (i := dr s (1000 + 12 * at' + x) 36) (by omega) (by omega), R.bind_ok]
        refine Sat.bind (key _ (by omega) (by omega) fun e => by simp [e] at hx) fun a h => Sat.ok h
    · rintro w ⟨i1, i2, i3, i4⟩
      rw [rngI_len] at i1 i4
      exact ⟨by rw [i1]; omega, i2, i3, i4 (by omega)⟩
  · obtain ⟨i1, i2, i3, i4⟩ := hw
    have wl : w.length = (sp + 1 + dr s (901 + at') (12 - sp)).toNat := by rw [← str_len]; exact i1
    refine Sat.ok ⟨?_, by omega, by omega, ?_, by rw [hsp, hd]; exact i4⟩
    rotate_left
    · unfold PySem.PyData.strOk
      rw [← Array.all_toList, List.all_eq_true]
      intro c hc
      simpa using (i3 c hc).2
    obtain ⟨c, r, hc⟩ : ∃ c r, w.cps.toList = c :: r := by
      cases q : w.cps.toList with
      | nil => rw [q] at i2; cases i2
      | cons c r => exact ⟨c, r, rfl⟩
    have e : c = chr (dr s (940 + at') 26) := by rw [hc] at i2; exact Option.some.inj i2
    have a1 : 1 ≤ w.length := by omega
    have a2 : w.length ≤ 12 := by omega
    have a3 : (w.cps.toList.all fun c => inS ⟨#[c]⟩ LTR) = true := List.all_eq_true.mpr fun c hc => (i3 c hc).1
    unfold isName
    rw [a3, hc, decide_eq_true a1, decide_eq_true a2]
    dsimp only
    rw [e, chr_let (by omega) (by omega)]
    rfl

/-! ### a house is made -/
abbrev Room := T2 Str Int
abbrev Way := T5 Str Str Str Int Int
def rN (rs : List Room) : List Str := rs.map (·.a)
def wN (ws : List Way) : List Str := ws.map (·.a)
def okRoom (r : Room) : Bool := isName r.a && decide (0 ≤ r.b) && decide (r.b ≤ 200)
def okRooms (rs : List Room) : Bool := decide (1 ≤ rs.length) && decide (rs.length ≤ 8) && rs.all okRoom
def okExits (es : List Str) : Bool := decide (1 ≤ es.length) && decide (es.length ≤ 4) && es.all isName
def okWay (rn es : List Str) (w : Way) : Bool := isName w.a && decide (w.b ∈ rn) && !(decide (w.c = w.b)) && decide (w.c ∈ rn ++ es) && decide (0 ≤ w.d) && decide (w.d ≤ 50) && decide (1 ≤ w.e) && decide (w.e ≤ 5)
def okWays (rn es : List Str) (ws : List Way) : Bool := decide (ws.length ≤ 20) && ws.all (okWay rn es)
def okHouse (rs : List Room) (es : List Str) (ws : List Way) : Bool := okRooms rs && okExits es && okWays (rN rs) es ws && decide (rN rs ++ es ++ wN ws).Nodup
def idxD (l : List Str) : Dict Str Int := (enumI 0 l).foldl (fun d x => d.put x.b x.a) ⟨[]⟩
def mkH (rs : List Room) (es : List Str) (ws : List Way) : O_House := ⟨⟨rs⟩, ⟨es⟩, ⟨ws⟩, idxD (rN rs), idxD es, idxD (wN ws)⟩
abbrev bad : TX := ⟨"BadHouse", []⟩
theorem lits {s : Str} (h : s.length ≤ 2000) : ∃ y, (R.ok s : R Str) = .ok y ∧ y.length ≤ 2000 := ⟨s, rfl, h⟩
theorem fmts {s : Str} (h : s.length ≤ 2000) : ∃ y, fmtS s = .ok y ∧ y.length ≤ 2000 := ⟨s, fmtS_ok (by omega), h⟩
theorem nums {i : Int} (h0 : 0 ≤ i) (h1 : i < 2 ^ 62) (h2 : (Str.ofString (toString i)).length ≤ 2000) : ∃ y, strI i = .ok y ∧ y.length ≤ 2000 := ⟨_, strI_ok h0 h1, h2⟩
theorem all3 {P : R Str → Prop} {a b c : R Str} (ha : P a) (hb : P b) (hc : P c) : ∀ t ∈ [a, b, c], P t := by
  intro t ht
  simp only [List.mem_cons, List.not_mem_nil, or_false] at ht
  rcases ht with rfl | rfl | rfl <;> assumption
theorem all4 {P : R Str → Prop} {a b c d : R Str} (ha : P a) (hb : P b) (hc : P c) (hd : P d) : ∀ t ∈ [a, b, c, d], P t := by
  intro t ht
  simp only [List.mem_cons, List.not_mem_nil, or_false] at ht
  rcases ht with rfl | rfl | rfl | rfl <;> assumption
theorem check_rooms_ok (rs : List Room) (h : ∀ r ∈ rs, r.a.length ≤ 1000) : t__check_rooms ⟨rs⟩ = if okRooms rs = true then .ok () else .ex bad := by
  unfold t__check_rooms
  simp only [len_eq]
  rw [jnR_ex (all3 (lits (by decide)) (nums (by decide) (by decide) (by decide)) (lits (by decide))) (show 3 ≤ 100 by decide)]
  by_cases h1 : rs.length = 0 ∨ 8 < rs.length
  · have e1 : okRooms rs = false := by
      rcases h1 with h1 | h1
      · simp [okRooms, h1]
      · have : ¬ rs.length ≤ 8 := by omega
        simp [okRooms, this]
    rw [e1, if_neg (c := false = true) Bool.false_ne_true, if_pos (by simp; omega)]
  · have e1 : okRooms rs = rs.all okRoom := by
      have a1 : rs.length ≤ 8 := by omega
      have a2 : 1 ≤ rs.length := by omega
      simp [okRooms, a1, a2]
    rw [e1, if_neg (by simp; omega), foldR_chk (x := bad) okRoom (fun r hr => ?_)]
    · cases rs.all okRoom <;> rfl
    · have hn := h r hr
      unfold t__check_rooms_b3 okRoom
      rw [is_name_ok _ (by omega), R.bind_ok]
      cases isName r.a with
      | false => rfl
      | true =>
        show (if _ = true then _ else _) = _
        rw [jnR_ex (all4 (lits (by decide)) (fmts (by omega)) (lits (by decide)) (nums (by decide) (by decide) (by decide))) (show 4 ≤ 100 by decide)]
        by_cases q1 : r.b < 0
        · rw [if_pos (by simp [q1]), if_neg (by simp; omega)]
        · by_cases q2 : 200 < r.b
          · rw [if_pos (by simp [q2]), if_neg (by simp; omega)]
          · rw [if_neg (by simp; omega), if_pos (by simp; omega)]
theorem check_exits_ok (es : List Str) (h : ∀ r ∈ es, r.length ≤ 1000) : t__check_exits ⟨es⟩ = if okExits es = true then .ok () else .ex bad := by
  unfold t__check_exits
  simp only [len_eq]
  rw [jnR_ex (all3 (lits (by decide)) (nums (by decide) (by decide) (by decide)) (lits (by decide))) (show 3 ≤ 100 by decide)]
  by_cases h1 : es.length = 0 ∨ 4 < es.length
  · have e1 : okExits es = false := by
      rcases h1 with h1 | h1
      · simp [okExits, h1]
      · have : ¬ es.length ≤ 4 := by omega
        simp [okExits, this]
    rw [e1, if_neg (c := false = true) Bool.false_ne_true, if_pos (by simp; omega)]
  · have e1 : okExits es = es.all isName := by
      have a1 : es.length ≤ 4 := by omega
      have a2 : 1 ≤ es.length := by omega
      simp [okExits, a1, a2]
    rw [e1, if_neg (by simp; omega), foldR_chk (x := bad) isName (fun r hr => ?_)]
    · cases es.all isName <;> rfl
    · have hn := h r hr
      unfold t__check_exits_b3
      rw [is_name_ok _ (by omega), R.bind_ok]
      cases isName r <;> rfl
theorem check_ways_ok (ws : List Way) (rn es : List Str) (h : ∀ r ∈ ws, r.a.length ≤ 1000) (hl : rn.length + es.length ≤ 3000) : t__check_ways ⟨ws⟩ rn es = if okWays rn es ws = true then .ok () else .ex bad := by
  unfold t__check_ways
  simp only [len_eq]
  rw [jnR_ex (all3 (lits (by decide)) (nums (by decide) (by decide) (by decide)) (lits (by decide))) (show 3 ≤ 100 by decide)]
  by_cases h1 : 20 < ws.length
  · have e1 : okWays rn es ws = false := by
      have : ¬ ws.length ≤ 20 := by omega
      simp [okWays, this]
    rw [e1, if_neg (c := false = true) Bool.false_ne_true, if_pos (by simp; omega)]
  · have e1 : okWays rn es ws = ws.all (okWay rn es) := by
      have a1 : ws.length ≤ 20 := by omega
      simp [okWays, a1]
    rw [e1, if_neg (by simp; omega), foldR_chk (x := bad) (okWay rn es) (fun w hw => ?_)]
    · cases ws.all (okWay rn es) <;> rfl
    · have hn := h w hw
      unfold t__check_ways_b3 okWay
      rw [is_name_ok _ (by omega), R.bind_ok]
      cases isName w.a with
      | false => rfl
      | true =>
        show (if _ = true then _ else _) = _
        rw [jnR_ex (all3 (lits (by decide)) (fmts (by omega)) (lits (by decide))) (show 3 ≤ 100 by decide), jnR_ex (all3 (lits (by decide)) (fmts (by omega)) (lits (by decide))) (show 3 ≤ 100 by decide),
          jnR_ex (all4 (lits (by decide)) (fmts (by omega)) (lits (by decide)) (nums (by decide) (by decide) (by decide))) (show 4 ≤ 100 by decide), jnR_ex (all4 (lits (by decide)) (fmts (by omega)) (lits (by decide)) (nums (by decide) (by decide) (by decide))) (show 4 ≤ 100 by decide)]
        rw [catL_ok (by omega), R.bind_ok, inL_eq, inL_eq, eqC_str]
        by_cases q1 : w.b ∈ rn
        · rw [if_neg (by simp [q1])]
          by_cases q2 : w.c = w.b
          · rw [if_pos (c := decide (w.c = w.b) = true) (by simp [q2])]
            show R.ex bad = _
            rw [if_neg]
            simp [q2]
          · rw [if_neg (c := decide (w.c = w.b) = true) (by simp [q2])]
            by_cases q3 : w.c ∈ rn ++ es
            · rw [show iteR (R.ok (!decide (w.c ∈ rn ++ es))) = fun (u v : R Unit) => v by funext u v; simp only [q3]; rfl]
              dsimp only
              by_cases q4 : 0 ≤ w.d ∧ w.d ≤ 50
              · rw [if_neg (by simp; omega)]
                by_cases q5 : 1 ≤ w.e ∧ w.e ≤ 5
                · rw [if_neg (by simp; omega), if_pos]
                  simp only [q1, q2, q3, q4.1, q4.2, q5.1, q5.2]
                  decide
                · rw [if_pos (by simp; omega), if_neg]
                  intro hc
                  simp only [Bool.and_eq_true, decide_eq_true_eq] at hc
                  omega
              · rw [if_pos (by simp; omega), if_neg]
                intro hc
                simp only [Bool.and_eq_true, decide_eq_true_eq] at hc
                omega
            · rw [show iteR (R.ok (!decide (w.c ∈ rn ++ es))) = fun (u v : R Unit) => u by funext u v; simp only [q3]; rfl]
              dsimp only
              rw [if_neg]
              intro hc
              simp only [Bool.and_eq_true, decide_eq_true_eq] at hc
              exact q3 hc.1.1.1.1.2
        · rw [if_pos (by simp [q1]), if_neg]
          intro hc
          simp only [Bool.and_eq_true, decide_eq_true_eq] at hc
          exact q1 hc.1.1.1.1.1.1.2
theorem idx_ok (l : List Str) (hl : l.length ≤ 10000) : cmdR (enumI 0 l) (fun y => (R.ok y.b)) (fun y => (R.ok y.a)) = .ok (idxD l) := by
  have : ∀ (l : List Str) i, (enumI i l).length = l.length := fun l => by
    induction l with
    | nil => intro i; rfl
    | cons x r ih => intro i; simp [enumI, ih]
  exact cmdR_ok (L := enumI 0 l) (fun y => y.b) (fun y => y.a) (by rw [this]; omega) (fun _ _ => rfl) (fun _ _ => rfl)
theorem init_ok (rs : List Room) (es : List Str) (ws : List Way) (hr : rs.length ≤ 1000) (he : es.length ≤ 1000) (hw : ws.length ≤ 1000) (h : ∀ s ∈ rN rs ++ es ++ wN ws, s.length ≤ 1000) :
    t_House___init__ rs es ws = if okHouse rs es ws = true then .ok (mkH rs es ws) else .ex bad := by
  have h1 : ∀ r ∈ rs, r.a.length ≤ 1000 := fun r hr => h _ (List.mem_append_left _ (List.mem_append_left _ (List.mem_map_of_mem hr)))
  have h2 : ∀ r ∈ es, r.length ≤ 1000 := fun r hr => h _ (List.mem_append_left _ (List.mem_append_right _ hr))
  have h3 : ∀ r ∈ ws, r.a.length ≤ 1000 := fun r hr => h _ (List.mem_append_right _ (List.mem_map_of_mem hr))
  unfold t_House___init__
  have e1 : (cmpR rs fun y => R.ok (⟨y.a, y.b⟩ : T2 Str Int)) = .ok rs := by
    rw [cmpR_ok (L := rs) (f := fun y => R.ok (⟨y.a, y.b⟩ : T2 Str Int)) (fun y => y) (by omega) (fun _ _ => rfl), List.map_id'']
    exact fun _ => rfl
  have e2 : (cmpR ws fun y => R.ok (⟨y.a, y.b, y.c, y.d, y.e⟩ : T5 Str Str Str Int Int)) = .ok ws := by
    rw [cmpR_ok (L := ws) (f := fun y => R.ok (⟨y.a, y.b, y.c, y.d, y.e⟩ : T5 Str Str Str Int Int)) (fun y => y) (by omega) (fun _ _ => rfl), List.map_id'']
    exact fun _ => rfl
  rw [e1, R.bind_ok, R.bind_ok, e2, R.bind_ok, R.bind_ok]
  dsimp only
  rw [cmpR_ok (L := rs) (fun r => r.a) (by omega) (fun _ _ => rfl), R.bind_ok, cmpR_ok (L := ws) (fun r => r.a) (by omega) (fun _ _ => rfl), R.bind_ok]
  rw [show rs.map (fun r => r.a) = rN rs from rfl, show ws.map (fun r => r.a) = wN ws from rfl]
  have l1 : (rN rs).length = rs.length := List.length_map _
  have l2 : (wN ws).length = ws.length := List.length_map _
  rw [check_rooms_ok rs h1, check_exits_ok es h2, check_ways_ok ws _ es h3 (by omega)]
  unfold okHouse
  cases okRooms rs with
  | false => rfl
  | true =>
    cases okExits es with
    | false => rfl
    | true =>
      cases okWays (rN rs) es ws with
      | false => rfl
      | true =>
        show R.bind _ _ = _
        rw [catL_ok (by omega), R.bind_ok, catL_ok (by rw [List.length_append]; omega), R.bind_ok]
        obtain ⟨m, e1, e2⟩ := setLen_ok (l := rN rs ++ es ++ wN ws) (by rw [List.length_append, List.length_append]; omega)
        rw [e1, R.bind_ok, idx_ok _ (by omega), idx_ok _ (by omega), idx_ok _ (by omega)]
        by_cases hn : (rN rs ++ es ++ wN ws).Nodup
        · rw [show decide (m < len (rN rs ++ es ++ wN ws)) = false by rw [len_eq]; exact decide_eq_false (fun q => (e2.mp q) hn), decide_eq_true hn]
          rfl
        · rw [show decide (m < len (rN rs ++ es ++ wN ws)) = true by rw [len_eq]; exact decide_eq_true (e2.mpr hn), decide_eq_false hn]
          rfl

/-! ### the law's own test of a house -/
theorem nodup_take {l : List Str} : l.Nodup ↔ ∀ (i : Nat) (h : i < l.length), l[i] ∉ l.take i := by
  unfold List.Nodup
  rw [List.pairwise_iff_getElem]
  constructor
  · intro h i hi hm
    obtain ⟨j, hj, e⟩ := List.mem_take_iff_getElem.mp hm
    exact h j i (by omega) hi (by omega) e
  · intro h i j hi hj hij e
    exact h j hj (List.mem_take_iff_getElem.mpr ⟨i, by omega, e⟩)
theorem is_word_ok (t : Str) (ht : t.length ≤ 1000000) : t__law_is_word t = .ok (isName t) := by
  unfold t__law_is_word
  exact name_test (fun y => by
    unfold t__law_is_word_b3
    show (if (!inS y LTR) = true then _ else _) = _
    cases inS y LTR <;> rfl) t ht
/-- lists of bounded size -/
structure Bd (rs : List Room) (es : List Str) (ws : List Way) : Prop where
  r : rs.length ≤ 100
  e : es.length ≤ 100
  w : ws.length ≤ 100
  n : ∀ s ∈ rN rs ++ es ++ wN ws, s.length ≤ 100
  f : (rs.all Dt.fit && (es.all Dt.fit && ws.all Dt.fit)) = true
theorem sizes_or (a b c : Nat) : ((decide ((a : Int) < 1)) || ((decide ((8 : Int) < a)) || ((decide ((b : Int) < 1)) || ((decide ((4 : Int) < b)) || (decide ((20 : Int) < c)))))) = !(decide (1 ≤ a) && decide (a ≤ 8) && decide (1 ≤ b) && decide (b ≤ 4) && decide (c ≤ 20)) := by
  rw [Bool.eq_iff_iff]
  simp
  omega
theorem is_house_ok {rs : List Room} {es : List Str} {ws : List Way} (h : Bd rs es ws) : t__law_is_house rs es ws = .ok (okHouse rs es ws) := by
  have l1 : (rN rs).length = rs.length := List.length_map _
  have l2 : (wN ws).length = ws.length := List.length_map _
  have b1 := h.r
  have b2 := h.e
  have b3 := h.w
  unfold t__law_is_house
  simp only [len_eq]
  rw [sizes_or]
  cases hs : (decide (1 ≤ rs.length) && decide (rs.length ≤ 8) && decide (1 ≤ es.length) && decide (es.length ≤ 4) && decide (ws.length ≤ 20)) with
  | false =>
    rw [if_pos (by decide)]
    have e : okHouse rs es ws = false := by
      rw [Bool.eq_false_iff]
      intro hc
      rw [Bool.eq_false_iff] at hs
      apply hs
      simp only [okHouse, okRooms, okExits, okWays, Bool.and_eq_true] at hc ⊢
      exact ⟨⟨⟨⟨hc.1.1.1.1.1, hc.1.1.1.1.2⟩, hc.1.1.2.1.1⟩, hc.1.1.2.1.2⟩, hc.1.2.1⟩
    rw [e]
  | true =>
    rw [if_neg (by decide)]
    rw [cmpR_ok (L := rs) (f := fun y => R.ok y.a) (fun r => r.a) (by omega) (fun _ _ => rfl), R.bind_ok, cmpR_ok (L := ws) (f := fun y => R.ok y.a) (fun r => r.a) (by omega) (fun _ _ => rfl)]
    rw [show rs.map (fun r => r.a) = rN rs from rfl, show ws.map (fun r => r.a) = wN ws from rfl]
    rw [catL_ok (by omega), R.bind_ok, R.bind_ok, catL_ok (by rw [List.length_append]; omega), R.bind_ok]
    generalize hW : rN rs ++ es ++ wN ws = W
    have lW : W.length ≤ 300 := by rw [← hW, List.length_append, List.length_append]; omega
    have nW : ∀ s ∈ W, s.length ≤ 100 := by rw [← hW]; exact h.n
    rw [rng1_ok (by omega) (by omega), R.bind_ok]
    rw [forR_chk (v := false) (fun a : Int => isName (W.getD a.toNat Str.empty) && !decide (W.getD a.toNat Str.empty ∈ W.take a.toNat)) (fun a ha => by
      rw [mem_rngI] at ha
      have h0 : 0 ≤ a := ha.1
      have h1 : a < W.length := by omega
      have hl : a.toNat < W.length := by omega
      unfold t__law_is_house_b4
      rw [ixL_ok h0 h1, R.bind_ok, R.bind_ok, is_word_ok _ (by have := nW _ (List.getElem_mem hl); omega), R.bind_ok, inL_eq]
      have eg : W.getD a.toNat Str.empty = W[a.toNat] := by rw [List.getD_eq_getElem?_getD, List.getElem?_eq_getElem hl]; rfl
      have et : cutP W none (some a) = W.take a.toNat := by
        unfold cutP
        show (W.drop 0).take ((if a < 0 then _ else min a.toNat W.length) - 0) = _
        rw [if_neg (by omega), List.drop_zero, Nat.sub_zero, Nat.min_eq_left (by omega)]
      rw [eg, et]
      cases isName W[a.toNat] with
      | false => rfl
      | true => cases decide (W[a.toNat] ∈ W.take a.toNat) <;> rfl)]
    have ep : (rngI 0 (W.length : Int).toNat).all (fun a : Int => isName (W.getD a.toNat Str.empty) && !decide (W.getD a.toNat Str.empty ∈ W.take a.toNat)) = (W.all isName && decide W.Nodup) := by
      rw [Bool.eq_iff_iff, List.all_eq_true, Bool.and_eq_true, List.all_eq_true, decide_eq_true_iff, nodup_take]
      have key : ∀ (i : Nat) (hi : i < W.length), W.getD (i : Int).toNat Str.empty = W[i] := fun i hi => by rw [Int.toNat_natCast, List.getD_eq_getElem?_getD, List.getElem?_eq_getElem hi]; rfl
      constructor
      · intro hh
        refine ⟨fun x hx => ?_, fun i hi => ?_⟩
        · obtain ⟨i, hi, e⟩ := List.mem_iff_getElem.mp hx
          have := hh (i : Int) (mem_rngI.mpr (by omega))
          rw [key i hi, Bool.and_eq_true] at this
          rw [← e]
          exact this.1
        · have := hh (i : Int) (mem_rngI.mpr (by omega))
          rw [key i hi, Bool.and_eq_true] at this
          simpa using this.2
      · rintro ⟨h1, h2⟩ a ha
        rw [mem_rngI] at ha
        have hi : a.toNat < W.length := by omega
        have := key a.toNat hi
        rw [Int.toNat_natCast] at this
        rw [this, Bool.and_eq_true]
        exact ⟨h1 _ (List.getElem_mem hi), by simpa using h2 _ hi⟩
    rw [ep]
    have okh : okHouse rs es ws = (W.all isName && decide W.Nodup && (rs.all (fun r => decide (0 ≤ r.b) && decide (r.b ≤ 200))) && ws.all fun w => (decide (w.b ∈ rN rs) && !(decide (w.c = w.b)) && decide (w.c ∈ rN rs ++ es) && decide (0 ≤ w.d) && decide (w.d ≤ 50) && decide (1 ≤ w.e) && decide (w.e ≤ 5))) := by
      simp only [Bool.and_eq_true] at hs
      obtain ⟨⟨⟨⟨z1, z2⟩, z3⟩, z4⟩, z5⟩ := hs
      unfold okHouse okRooms okExits okWays
      rw [hW, z1, z2, z3, z4, z5, Bool.eq_iff_iff]
      simp only [Bool.and_eq_true, List.all_eq_true, okRoom, okWay, Bool.true_and, ← hW, List.mem_append, rN, wN, List.mem_map]
      constructor
      · rintro ⟨⟨⟨a, b⟩, c⟩, d⟩
        refine ⟨⟨⟨fun x hx => ?_, d⟩, fun r hr => ⟨(a r hr).1.2, (a r hr).2⟩⟩, fun w hw => ?_⟩
        · rcases hx with (⟨r, hr, rfl⟩ | hx) | ⟨w, hw, rfl⟩
          · exact (a r hr).1.1
          · exact b x hx
          · exact (c w hw).1.1.1.1.1.1.1
        · obtain ⟨⟨⟨⟨⟨⟨⟨c1, c2⟩, c3⟩, c4⟩, c5⟩, c6⟩, c7⟩, c8⟩ := c w hw
          exact ⟨⟨⟨⟨⟨⟨c2, c3⟩, c4⟩, c5⟩, c6⟩, c7⟩, c8⟩
      · rintro ⟨⟨⟨a, d⟩, b⟩, c⟩
        refine ⟨⟨⟨fun r hr => ⟨⟨a _ (.inl (.inl ⟨r, hr, rfl⟩)), (b r hr).1⟩, (b r hr).2⟩, fun e he => a _ (.inl (.inr he))⟩, fun w hw => ?_⟩, d⟩
        obtain ⟨⟨⟨⟨⟨⟨c2, c3⟩, c4⟩, c5⟩, c6⟩, c7⟩, c8⟩ := c w hw
        exact ⟨⟨⟨⟨⟨⟨⟨a _ (.inr ⟨w, hw, rfl⟩), c2⟩, c3⟩, c4⟩, c5⟩, c6⟩, c7⟩, c8⟩
    rw [okh]
    cases W.all isName && decide W.Nodup with
    | false => rfl
    | true =>
      rw [if_pos rfl, R.then_nx, R.bind_ok]
      rw [forR_chk (v := false) (fun r : Room => decide (0 ≤ r.b) && decide (r.b ≤ 200)) (fun r _ => by
        unfold t__law_is_house_b8
        by_cases q : 0 ≤ r.b ∧ r.b ≤ 200
        · rw [if_neg (by simp; omega), if_pos (by simp; omega)]
        · rw [if_pos (by simp; omega), if_neg (by simp; omega)])]
      cases rs.all fun r => decide (0 ≤ r.b) && decide (r.b ≤ 200) with
      | false => rfl
      | true =>
        rw [if_pos rfl, R.then_nx]
        rw [forR_chk (v := false) (fun w : Way => (decide (w.b ∈ rN rs) && !(decide (w.c = w.b)) && decide (w.c ∈ rN rs ++ es) && decide (0 ≤ w.d) && decide (w.d ≤ 50) && decide (1 ≤ w.e) && decide (w.e ≤ 5))) (fun w _ => by
          unfold t__law_is_house_b11
          rw [catL_ok (by omega), R.bind_ok, inL_eq, inL_eq, eqC_str]
          by_cases q1 : w.b ∈ rN rs
          · rw [if_neg (c := (!decide (w.b ∈ rN rs)) = true) (by simp [q1])]
            by_cases q3 : w.c ∈ rN rs ++ es
            · by_cases q2 : w.c = w.b
              · simp only [q1, q2, decide_true, Bool.not_true, Bool.and_false, Bool.false_and]
                simp only [q2] at q3
                simp only [q3, decide_true, Bool.not_true]
                rfl
              · have q2' : ¬ w.b = w.c := fun e => q2 e.symm
                simp only [q1, q2, q2', q3, decide_true, decide_false, Bool.not_true, Bool.not_false, Bool.and_self, Bool.true_and]
                show (if _ = true then _ else _) = _
                by_cases q4 : 0 ≤ w.d ∧ w.d ≤ 50 ∧ 1 ≤ w.e ∧ w.e ≤ 5
                · rw [if_neg (by simp; omega), if_pos (by simp; omega)]
                · rw [if_pos (by simp; omega), if_neg (by simp; omega)]
            · simp only [q3, decide_false, Bool.not_false, Bool.and_false, Bool.false_and]
              rfl
          · rw [if_pos (c := (!decide (w.b ∈ rN rs)) = true) (by simp [q1])]
            simp only [q1, decide_false, Bool.false_and]
            rfl)]
        cases ws.all _ <;> rfl
/-! ### what is kept -/
theorem same3_self (w : Way) : t__law_same_3 w w = .ok true := by unfold t__law_same_3; rw [if_pos rfl]
theorem same2_self (w : Room) : t__law_same_2 w w = .ok true := by unfold t__law_same_2; rw [if_pos rfl]
theorem kept_ok {rs : List Room} {es : List Str} {ws : List Way} (hr : rs.length ≤ 1000) (he : es.length ≤ 1000) (hw : ws.length ≤ 1000) : t__law_kept (mkH rs es ws) rs es ws = .ok true := by
  unfold t__law_kept
  show (if false = true then _ else _) = _
  rw [if_neg Bool.false_ne_true]
  have e1 : t__law_same (mkH rs es ws).f_exits es = .ok true := by
    unfold t__law_same
    rw [if_pos ⟨rfl, he⟩]
  rw [e1]
  have e2 : eqC (len (mkH rs es ws).f_rooms.l) (len rs) = true := by rw [eqC_int]; exact decide_eq_true rfl
  have e3 : eqC (len (mkH rs es ws).f_ways.l) (len ws) = true := by rw [eqC_int]; exact decide_eq_true rfl
  rw [e2, e3]
  simp only [Bool.not_true, Bool.false_eq_true, if_false, iteR_ok, R.bind_ok]
  rw [len_eq, len_eq, rng1_ok (by omega) (by omega), R.bind_ok, forR_all (fun a ha => ?_), R.then_nx, rng1_ok (by omega) (by omega), R.bind_ok, forR_all (fun a ha => ?_), R.then_nx]
  · rw [mem_rngI] at ha
    unfold t__law_kept_b8
    have e : ixL (mkH rs es ws).f_ways.l a = ixL ws a := rfl
    rw [e, ixL_ok (l := ws) ha.1 (by omega), R.bind_ok, R.bind_ok, same3_self]
    rfl
  · rw [mem_rngI] at ha
    unfold t__law_kept_b5
    have e : ixL (mkH rs es ws).f_rooms.l a = ixL rs a := rfl
    rw [e, ixL_ok (l := rs) ha.1 (by omega), R.bind_ok, R.bind_ok, same2_self]
    rfl
theorem made_ok {rs : List Room} {es : List Str} {ws : List Way} (h : Bd rs es ws) : t__law_made rs es ws = .ok true := by
  have b1 := h.r
  have b2 := h.e
  have b3 := h.w
  unfold t__law_made
  rw [is_house_ok h, R.bind_ok]
  dsimp only
  rw [init_ok rs es ws (by omega) (by omega) (by omega) (fun s hs => by have := h.n s hs; omega)]
  obtain ⟨f1, f2, f3⟩ : rs.all Dt.fit = true ∧ es.all Dt.fit = true ∧ ws.all Dt.fit = true := by
    have := h.f
    simp only [Bool.and_eq_true] at this
    exact ⟨this.1, this.2.1, this.2.2⟩
  have n1 : neR rs rs = .ok false := by rw [neR_ok f1 f1, eqD_self]; rfl
  have n2 : neR es es = .ok false := by rw [neR_ok f2 f2, eqD_self]; rfl
  have n3 : neR ws ws = .ok false := by rw [neR_ok f3 f3, eqD_self]; rfl
  rw [n1, n2, n3]
  have i1 : isxR isx1 bad = .ok false := by unfold isxR; rfl
  have i3 : isxR isx3 bad = .ok true := by unfold isxR; rfl
  have i5 : isxR isx5 bad = .ok true := by unfold isxR; rfl
  cases ho : okHouse rs es ws with
  | false =>
    rw [if_neg Bool.false_ne_true, R.bind_ex]
    show R.then (R.bind (R.nox (isxR isx1 bad)) _) _ = _
    rw [i1, R.nox_ok, R.bind_ok, if_pos (by decide), if_pos (by decide), i3, i5]
    rfl
  | true =>
    have o1 : 1 ≤ rs.length ∧ 1 ≤ es.length := by
      simp only [okHouse, okRooms, okExits, Bool.and_eq_true, decide_eq_true_eq] at ho
      exact ⟨ho.1.1.1.1.1, ho.1.1.2.1.1⟩
    show R.then (R.ok (Lp.nx (mkH rs es ws))) _ = _
    rw [R.then_nx]
    show R.bind _ _ = _
    rw [putR_ok (by omega) (by omega), R.bind_ok, appR_ok (by rw [List.length_set]; omega), R.bind_ok, putR_ok (by omega) (by omega), R.bind_ok, appR_ok (by rw [List.length_set]; omega), R.bind_ok, appR_ok (by omega), R.bind_ok, kept_ok (by omega) (by omega) (by omega)]
    rfl

/-! ### changed lists stay bounded -/
abbrev Parts := T3 (List Room) (List Str) (List Way)
/-- texts that may be compared, and are short -/
def Sh (s : Str) : Prop := s.length ≤ 60 ∧ PySem.PyData.strOk s = true
structure BdP (p : Parts) : Prop where
  r : p.a.length ≤ 60
  e : p.b.length ≤ 60
  w : p.c.length ≤ 60
  nr : ∀ x ∈ p.a, Sh x.a
  ne : ∀ x ∈ p.b, Sh x
  nw : ∀ x ∈ p.c, Sh x.a ∧ Sh x.b ∧ Sh x.c
theorem BdP.bd {p : Parts} (h : BdP p) : Bd p.a p.b p.c where
  r := by have := h.r; omega
  e := by have := h.e; omega
  w := by have := h.w; omega
  n := fun s hs => by
    rcases List.mem_append.mp hs with hs | hs
    · rcases List.mem_append.mp hs with hs | hs
      · obtain ⟨r, hr, rfl⟩ := List.mem_map.mp hs
        have := (h.nr r hr).1
        omega
      · have := (h.ne s hs).1
        omega
    · obtain ⟨r, hr, rfl⟩ := List.mem_map.mp hs
      have := (h.nw r hr).1.1
      omega
  f := by
    simp only [Bool.and_eq_true, List.all_eq_true]
    refine ⟨fun x hx => ?_, fun x hx => (h.ne x hx).2, fun x hx => ?_⟩
    · show (Dt.fit x.a && Dt.fit x.b) = true
      rw [Bool.and_eq_true]
      exact ⟨(h.nr x hx).2, rfl⟩
    · obtain ⟨⟨_, a⟩, ⟨_, b⟩, ⟨_, c⟩⟩ := h.nw x hx
      show (Dt.fit x.a && (Dt.fit x.b && (Dt.fit x.c && (Dt.fit x.d && Dt.fit x.e)))) = true
      simp only [Bool.and_eq_true]
      exact ⟨a, b, c, rfl, rfl⟩
theorem Sh.app {a b : Str} (ha : PySem.PyData.strOk a = true) (hb : PySem.PyData.strOk b = true) (hl : a.length + b.length ≤ 60) : Sh (a ++ b) := by
  refine ⟨by rw [str_app_len]; exact hl, ?_⟩
  unfold PySem.PyData.strOk at *
  show ((a.cps ++ b.cps).all _) = true
  rw [Array.all_append, ha, hb]
  rfl
theorem cut_le {α : Type} (l : List α) (lo hi : Option Int) : ∀ x ∈ cutP l lo hi, x ∈ l := fun x hx => List.mem_of_mem_drop (List.mem_of_mem_take hx)
theorem cutS_list (z : Str) (lo hi : Option Int) : (cutS z lo hi).cps.toList = cutP z.cps.toList lo hi := by
  unfold cutS cutP
  simp [Str.length]
theorem Sh.cut {z : Str} (h : PySem.PyData.strOk z = true) (lo hi : Option Int) : PySem.PyData.strOk (cutS z lo hi) = true ∧ (cutS z lo hi).length ≤ z.length := by
  constructor
  · unfold PySem.PyData.strOk at *
    rw [← Array.all_toList] at h ⊢
    rw [cutS_list, List.all_eq_true]
    rw [List.all_eq_true] at h
    exact fun x hx => h x (cut_le _ _ _ x hx)
  · rw [← str_len, cutS_list, ← str_len]
    unfold cutP
    rw [List.length_take, List.length_drop]
    omega
/-- a drawn number -/
theorem dr_sat (s : Scr) (hn : s.l.length ≤ 63) {k size : Int} (hk : 0 ≤ k) (hk2 : k < 1000000) (hs : 0 < size) : (t__law_draw s k size).Sat fun v => 0 ≤ v ∧ v < size := ⟨_, dr_ok s hn k size hk hk2 hs, dr_lt s hn k size hk hk2 hs⟩
/-- a text that is short and may be compared -/
def Sm (n : Nat) (s : Str) : Prop := s.length ≤ n ∧ PySem.PyData.strOk s = true
theorem Sm.sh {n : Nat} {s : Str} (h : Sm n s) (hn : n ≤ 60) : Sh s := ⟨Nat.le_trans h.1 hn, h.2⟩
theorem Sm.sl {n : Nat} {s : Str} (h : Sm n s) (hn : n ≤ 1000) (lo hi : Option Int) : (slS s lo hi).Sat (Sm n) := by
  rw [slS_ok (by have := h.1; omega)]
  obtain ⟨a, b⟩ := Sh.cut h.2 lo hi
  exact Sat.ok ⟨Nat.le_trans b h.1, a⟩
theorem Sm.cat {n m : Nat} {s t : Str} (h : Sm n s) (h' : Sm m t) (hn : n + m ≤ 60) : (catS s t).Sat (Sm (n + m)) := by
  have h1 := h.1
  have h2 := h'.1
  rw [catS_ok (by omega)]
  obtain ⟨a, b⟩ := Sh.app h.2 h'.2 (by omega)
  exact Sat.ok ⟨by rw [str_app_len]; omega, b⟩
theorem Sm.ix {z : Str} (hz : z.length ≤ 1000) (ho : PySem.PyData.strOk z = true) {i : Int} (h0 : 0 ≤ i) (h1 : i < z.length) : (ixS z i).Sat (Sm 1) := by
  obtain ⟨c, e1, e2⟩ := ixS_ok (z := z) (i := i) (by omega) h0 h1
  refine ⟨_, e1, Nat.le_refl _, ?_⟩
  unfold PySem.PyData.strOk at *
  rw [← Array.all_toList, List.all_eq_true] at ho
  rw [← Array.all_toList]
  simp only [List.all_cons, List.all_nil, Bool.and_true]
  exact ho c (List.mem_of_getElem? e2)
/-- a drawn sign of a text -/
theorem lit_sat {t : R Int} {z : Str} {n : Int} (h : t.Sat fun v => 0 ≤ v ∧ v < n) (hz : (z.length : Int) = n) (hn : n ≤ 1000) (ho : PySem.PyData.strOk z = true) : (t.bind fun x => ixS z x).Sat (Sm 1) := Sat.bind h fun v hv => Sm.ix (by omega) ho hv.1 (by omega)
theorem odd_sat (s : Scr) (hn : s.l.length ≤ 63) {k : Int} (hk : 0 ≤ k) (hk2 : k < 10000) {w : Str} (hw : Sm 12 w) (hw1 : 1 ≤ w.length) : (t__law_odd s k w).Sat Sh := by
  unfold t__law_odd
  have hl : w.length ≤ 1000000 := by have := hw.1; omega
  refine Sat.bind (dr_sat s hn hk (by omega) (by decide)) fun kind _ => ?_
  rw [lenS_ok hl, R.bind_ok]
  refine Sat.bind (dr_sat s hn (by omega) (by omega) (by omega)) fun spot hspot => ?_
  dsimp only
  have d2 : ∀ size : Int, 0 < size → (t__law_draw s (k + 2) size).Sat fun v => 0 ≤ v ∧ v < size := fun size h => dr_sat s hn (by omega) (by omega) h
  have w26 := lit_sat (z := "ABCDEFGHIJKLMNOPQRSTUVWXYZ") (d2 26 (by decide)) (by decide +kernel) (by decide) (by decide +kernel)
  have w10 := lit_sat (z := "0123456789") (d2 10 (by decide)) (by decide +kernel) (by decide) (by decide +kernel)
  have w32 := lit_sat (z := " !\"#$&'()*+,-./:;<=>?\u0040[\\]^_`{|}~") (d2 32 (by decide)) (by decide +kernel) (by decide) (by decide +kernel)
  have e32 : lenS (Str.ofString " !\"#$&'()*+,-./:;<=>?\u0040[\\]^_`{|}~") = .ok 32 := by
    have : (Str.ofString " !\"#$&'()*+,-./:;<=>?\u0040[\\]^_`{|}~").length = 32 := by decide +kernel
    rw [lenS_ok (by rw [this]; decide), this]
    rfl
  have c1 : Sm 11 "abcdefghij0" := ⟨by decide +kernel, by decide +kernel⟩
  have c2 : Sm 12 "abcdefghijk0" := ⟨by decide +kernel, by decide +kernel⟩
  have c3 : Sm 1 "\n" := ⟨by decide +kernel, by decide +kernel⟩
  have c4 : Sm 1 " " := ⟨by decide +kernel, by decide +kernel⟩
  have sl := fun lo hi => hw.sl (by decide) lo hi
  refine Sat.ite (fun _ => Sat.ok ⟨by decide +kernel, by decide +kernel⟩) fun _ => ?_
  refine Sat.ite (fun _ => Sat.bind (sl _ _) fun v hv => Sat.ok (hv.sh (by decide))) fun _ => ?_
  refine Sat.ite (fun _ => Sat.bind (Sat.bind (hw.cat c1 (by decide)) fun v hv => hv.sl (by decide) _ _) fun v hv => Sat.ok (hv.sh (by decide))) fun _ => ?_
  refine Sat.ite (fun _ => Sat.bind (Sat.bind (hw.cat c2 (by decide)) fun v hv => hv.sl (by decide) _ _) fun v hv => Sat.ok (hv.sh (by decide))) fun _ => ?_
  refine Sat.ite (fun _ => Sat.bind (Sat.bind (Sat.bind (sl _ _) fun a ha => Sat.bind w26 fun b hb => ha.cat hb (by decide)) fun c hc => Sat.bind (sl _ _) fun d hd => hc.cat hd (by decide)) fun v hv => Sat.ok (hv.sh (by decide))) fun _ => ?_
  refine Sat.ite (fun _ => Sat.bind (Sat.bind w10 fun c hc => Sat.bind (sl _ _) fun d hd => hc.cat hd (by decide)) fun v hv => Sat.ok (hv.sh (by decide))) fun _ => ?_
  refine Sat.ite (fun _ => Sat.bind (Sat.bind (sl _ _) fun v hv => hv.cat c3 (by decide)) fun v hv => Sat.ok (hv.sh (by decide))) fun _ => ?_
  refine Sat.ite (fun _ => Sat.bind (Sat.bind (sl _ _) fun v hv => hv.cat c4 (by decide)) fun v hv => Sat.ok (hv.sh (by decide))) fun _ => ?_
  refine Sat.ite (fun _ => Sat.bind (Sat.bind (sl _ _) fun v hv => c4.cat hv (by decide)) fun v hv => Sat.ok (hv.sh (by decide))) fun _ => ?_
  rw [e32, R.bind_ok]
  exact Sat.bind (Sat.bind (Sat.bind (sl _ _) fun a ha => Sat.bind w32 fun b hb => ha.cat hb (by decide)) fun c hc => Sat.bind (sl _ _) fun d hd => hc.cat hd (by decide)) fun v hv => Sat.ok (hv.sh (by decide))
theorem swap_ok (w old new : Str) : t__law_swap w old new = .ok (if w = old then new else w) := by
  unfold t__law_swap
  rw [eqC_str]
  by_cases h : w = old
  · rw [if_pos (by simp [h]), if_pos h]
  · rw [if_neg (by simp [h]), if_neg h]
theorem renamed_sat {p : Parts} (h : BdP p) (old new : Str) (hn : Sh new) : (t__law_renamed p old new).Sat BdP := by
  have b1 := h.r
  have b2 := h.e
  have b3 := h.w
  unfold t__law_renamed
  have sw : ∀ w, Sh w → Sh (if w = old then new else w) := fun w hw => by split <;> assumption
  rw [cmpR_ok (L := p.a) (f := fun y => (t__law_swap y.a old new).bind fun x => R.ok (⟨x, y.b⟩ : T2 Str Int)) (fun y => ⟨if y.a = old then new else y.a, y.b⟩) (by omega) (fun y _ => by rw [swap_ok]; rfl), R.bind_ok]
  rw [cmpR_ok (L := p.b) (f := fun y => t__law_swap y old new) (fun y => if y = old then new else y) (by omega) (fun y _ => by rw [swap_ok]), R.bind_ok]
  refine Sat.bind (Sat.foldR (fun (d : List Way) (l : List Way) => l.length = d.length ∧ ∀ x ∈ l, Sh x.a ∧ Sh x.b ∧ Sh x.c) ⟨rfl, fun x hx => by cases hx⟩ ?_) fun l hl => Sat.ok ?_
  · rintro d x r l e ⟨i1, i2⟩
    have hx : x ∈ p.c := by rw [e]; simp
    have hd : d.length ≤ 60 := by
      have : p.c.length = d.length + (r.length + 1) := by rw [e]; simp
      omega
    unfold t__law_renamed_b4
    rw [swap_ok, R.bind_ok, swap_ok, R.bind_ok, R.bind_ok, swap_ok, R.bind_ok, R.bind_ok, appR_ok (by omega), R.bind_ok]
    refine Sat.ok ⟨by simp [i1], fun y hy => ?_⟩
    rcases List.mem_append.mp hy with hy | hy
    · exact i2 y hy
    · rw [List.mem_singleton] at hy
      subst hy
      obtain ⟨a, b, c⟩ := h.nw x hx
      exact ⟨sw _ a, sw _ b, sw _ c⟩
  · refine ⟨by simp; omega, by simp; omega, by show l.length ≤ 60; omega, fun x hx => ?_, fun x hx => ?_, hl.2⟩
    · obtain ⟨y, hy, rfl⟩ := List.mem_map.mp hx
      exact sw _ (h.nr y hy)
    · obtain ⟨y, hy, rfl⟩ := List.mem_map.mp hx
      exact sw _ (h.ne y hy)
theorem Good.sm {s : Scr} {a : Int} {w : Str} (h : Good s a w) : Sm 12 w := ⟨h.hi, h.fit⟩

/-! ### drawn lists -/
structure Drawn (s : Scr) (many gates : Int) (p : Parts) : Prop where
  r : p.a.length = many.toNat
  e : p.b.length = gates.toNat
  w : p.c.length ≤ 21
  wn : 1 ≤ many → 1 ≤ gates → ∀ count : Int, p.c.length ≤ 21
  gr : ∀ (i : Nat) x, p.a[i]? = some x → Good s i x.a ∧ 0 ≤ x.b ∧ x.b ≤ 200
  ge : ∀ (i : Nat) x, p.b[i]? = some x → Good s (many + i) x
theorem ix_all {α : Type} {l : List α} (P : α → Prop) {v n : Int} (h : 0 ≤ v ∧ v < n) (hn : n = l.length) (hP : ∀ x ∈ l, P x) : (ixL l v).Sat P := Sat.imp (Sat.ixL h.1 (by omega)) fun a ha => hP a ha.1
theorem lists_sat (s : Scr) (hn : s.l.length ≤ 63) {many gates count : Int} (hm : 0 ≤ many) (hm2 : many ≤ 9) (hg : 0 ≤ gates) (hg2 : gates ≤ 5) (hc : 0 ≤ count) (hc2 : count ≤ 21) :
    (t__law_lists s many gates count).Sat fun p => BdP p ∧ p.a.length = many.toNat ∧ p.b.length = gates.toNat ∧ p.c.length ≤ count.toNat ∧ (∀ x ∈ p.a, Sm 12 x.a ∧ 2 ≤ x.a.length) ∧ (∀ x ∈ p.b, Sm 12 x ∧ 2 ≤ x.length) ∧ (∀ x ∈ p.c, Sm 12 x.a ∧ 2 ≤ x.a.length) ∧ (1 ≤ many → 1 ≤ gates → many ≤ 8 → gates ≤ 4 → count ≤ 20 → okHouse p.a p.b p.c = true) := by
  unfold t__law_lists
  dsimp only
  rw [rng1_ok hm (by omega), R.bind_ok]
  refine Sat.bind (P := fun l : List Room => l.length = many.toNat ∧ ∀ (i : Nat) x, l[i]? = some x → Good s i x.a ∧ 0 ≤ x.b ∧ x.b ≤ 200) ?_ fun rs hrs => ?_
  · refine Sat.imp (Sat.foldR (fun (d : List Int) (l : List Room) => l.length = d.length ∧ ∀ (i : Nat) x, l[i]? = some x → Good s i x.a ∧ 0 ≤ x.b ∧ x.b ≤ 200) ⟨rfl, fun i x h => by simp at h⟩ ?_) ?_
    · rintro d y r l e ⟨i1, i2⟩
      obtain ⟨y1, y2, _⟩ := rngI_split e
      unfold t__law_lists_b2
      simp only [R.bind_assoc, R.bind_ok]
      refine Sat.bind (dr_sat s hn (by omega) (by omega) (by decide)) fun v hv => ?_
      refine Sat.bind (dr_sat s hn (by omega) (by omega) (by decide)) fun v2 hv2 => ?_
      refine Sat.bind (ix_all (fun v : Int => 0 ≤ v ∧ v ≤ 200) hv2 rfl fun x hx => ?_) fun hold hhold => ?_
      · simp only [List.mem_cons, List.not_mem_nil, or_false] at hx
        rcases hx with rfl | rfl | rfl | rfl <;> omega
      · refine Sat.bind (name_sat s hn y (by omega) (by omega)) fun w hw => ?_
        rw [appR_ok (by omega)]
        refine Sat.ok ⟨by simp [i1], fun i x h => ?_⟩
        rcases Nat.lt_or_ge i l.length with q | q
        · rw [List.getElem?_append_left q] at h
          exact i2 i x h
        · rw [List.getElem?_append_right q] at h
          cases k : i - l.length with
          | zero =>
            rw [k] at h
            simp at h
            subst h
            have : y = (i : Int) := by omega
            rw [← this]
            exact ⟨hw, hhold⟩
          | succ m => rw [k] at h; simp at h
    · rintro l ⟨i1, i2⟩
      rw [rngI_len] at i1
      exact ⟨i1, i2⟩
  · obtain ⟨r1, r2⟩ := hrs
    rw [rng1_ok hg (by omega), R.bind_ok]
    refine Sat.bind (Sat.cmpR (Q := fun y w => Good s (many + y) w) (by rw [rngI_len]; omega) fun y hy => ?_) fun es hes => ?_
    · rw [mem_rngI] at hy
      exact name_sat s hn _ (by omega) (by omega)
    obtain ⟨e1, e2⟩ := hes
    rw [rngI_len] at e1
    have e2 : ∀ (i : Nat) x, es[i]? = some x → Good s (many + i) x := fun i x h => by
      have hi : i < es.length := (List.getElem?_eq_some_iff.mp h).1
      have q : (rngI 0 gates.toNat)[i]? = some (0 + (i : Int)) := by
        unfold rngI
        rw [List.getElem?_map, List.getElem?_range (by omega)]
        rfl
      have := e2 i _ x q h
      rwa [Int.zero_add] at this
    rw [cmpR_ok (L := rs) (f := fun y => R.ok y.a) (fun r => r.a) (by omega) (fun _ _ => rfl), R.bind_ok, catL_ok (by rw [List.length_map]; omega), R.bind_ok]
    rw [show rs.map (fun r => r.a) = rN rs from rfl]
    have l1 : (rN rs).length = rs.length := List.length_map _
    have n1 : ∀ (i : Nat) x, (rN rs)[i]? = some x → Good s i x := fun i x h => by
      unfold rN at h
      rw [List.getElem?_map] at h
      cases q : rs[i]? with
      | none => rw [q] at h; cases h
      | some r => rw [q] at h; cases h; exact (r2 i r q).1
    have pn : ∀ (i : Nat) x, (rN rs ++ es)[i]? = some x → Good s i x := fun i x h => by
      rcases Nat.lt_or_ge i (rN rs).length with q | q
      · rw [List.getElem?_append_left q] at h
        exact n1 i x h
      · rw [List.getElem?_append_right q] at h
        have := e2 _ x h
        rwa [show many + ((i - (rN rs).length : Nat) : Int) = (i : Int) by omega] at this
    rw [rng1_ok hc (by omega), R.bind_ok]
    refine Sat.bind (P := fun l : List Way => l.length ≤ count.toNat ∧ ∀ (i : Nat) x, l[i]? = some x → (∃ j : Nat, i ≤ j ∧ j < 21 ∧ Good s (many + gates + i) x.a) ∧ (x.b ∈ rN rs ∧ x.c ∈ rN rs ++ es ∧ (many + gates ≤ 13 → x.c ≠ x.b)) ∧ (0 ≤ x.d ∧ x.d ≤ 50 ∧ 1 ≤ x.e ∧ x.e ≤ 5)) ?_ fun ws hws => ?_
    · refine Sat.imp (Sat.foldR (fun (d : List Int) (l : List Way) => l.length ≤ d.length ∧ ((0 < many ∧ 1 < (rN rs ++ es).length → l.length = d.length) ∧ (¬ (0 < many ∧ 1 < (rN rs ++ es).length) → l = [])) ∧ ∀ (i : Nat) x, l[i]? = some x → (∃ j : Nat, i ≤ j ∧ j < 21 ∧ Good s (many + gates + i) x.a) ∧ (x.b ∈ rN rs ∧ x.c ∈ rN rs ++ es ∧ (many + gates ≤ 13 → x.c ≠ x.b)) ∧ (0 ≤ x.d ∧ x.d ≤ 50 ∧ 1 ≤ x.e ∧ x.e ≤ 5)) ⟨Nat.le_refl _, ⟨fun _ => rfl, fun _ => rfl⟩, fun i x h => by simp at h⟩ ?_) ?_
      · rintro d y r l e ⟨i0, ⟨i1, i1'⟩, i2⟩
        obtain ⟨y1, y2, _⟩ := rngI_split e
        unfold t__law_lists_b8
        simp only [len_eq, R.bind_assoc, R.bind_ok]
        refine Sat.ite (fun hp => ?_) (fun hp => ?_)
        · simp only [Bool.and_eq_true, decide_eq_true_eq] at hp
          have hp' : 0 < many ∧ 1 < (rN rs ++ es).length := ⟨hp.1, by omega⟩
          have i1 := i1 hp'
          have lp : (rN rs ++ es).length ≤ 14 := by rw [List.length_append]; omega
          refine Sat.bind (dr_sat s hn (by omega) (by omega) (by omega)) fun start hst => ?_
          refine Sat.bind (dr_sat s hn (by omega) (by omega) (by omega)) fun v0 hv0 => ?_
          refine Sat.bind (P := fun v : Int => 0 ≤ v ∧ v < (rN rs ++ es).length ∧ v ≠ start) ?_ fun nd hnd => ?_
          · rw [modR_ok (by omega)]
            refine Sat.ok ⟨Int.emod_nonneg _ (by omega), Int.emod_lt_of_pos _ (by omega), fun q => ?_⟩
            have hs2 : start < (rN rs ++ es).length := by rw [List.length_append]; omega
            have q2 : (start + 1 + v0) % ((rN rs ++ es).length : Int) = start % ((rN rs ++ es).length : Int) := by rw [q, Int.emod_eq_of_lt hst.1 hs2]
            have q3 : ((start + 1 + v0) - start) % ((rN rs ++ es).length : Int) = 0 := Int.emod_eq_emod_iff_emod_sub_eq_zero.mp q2
            rw [Int.emod_eq_of_lt (by omega) (by omega)] at q3
            omega
          refine Sat.bind (dr_sat s hn (by omega) (by omega) (by decide)) fun v1 hv1 => ?_
          refine Sat.bind (dr_sat s hn (by omega) (by omega) (by decide)) fun v2 hv2 => ?_
          refine Sat.bind (ix_all (fun v : Int => 0 ≤ v ∧ v ≤ 50) hv2 rfl fun x hx => ?_) fun width hwd => ?_
          · simp only [List.mem_cons, List.not_mem_nil, or_false] at hx
            rcases hx with rfl | rfl | rfl | rfl <;> omega
          refine Sat.bind (dr_sat s hn (by omega) (by omega) (by decide)) fun v3 hv3 => ?_
          refine Sat.bind (name_sat s hn _ (by omega) (by omega)) fun w hw => ?_
          refine Sat.bind (Sat.ixL hst.1 (by rw [List.length_append]; omega)) fun b hb => ?_
          refine Sat.bind (Sat.ixL hnd.1 hnd.2.1) fun c hcc => ?_
          have hx : Good s (many + gates + y) w ∧ (b ∈ rN rs ∧ c ∈ rN rs ++ es ∧ (many + gates ≤ 13 → c ≠ b)) ∧ (0 ≤ width ∧ width ≤ 50 ∧ 1 ≤ 1 + v3 ∧ 1 + v3 ≤ 5) := by
            refine ⟨hw, ⟨?_, hcc.1, fun h13 q => ?_⟩, ⟨hwd.1, hwd.2, by omega, by omega⟩⟩
            · have := hb.2
              rw [List.getElem?_append_left (by omega)] at this
              exact List.mem_of_getElem? this
            · have g1 := pn _ _ hb.2
              have g2 := pn _ _ hcc.2
              rw [q] at g2
              have := Good.inj hn (by omega) (by omega) (by omega) (by omega) g1 g2
              omega
          rw [appR_ok (by omega)]
          refine Sat.ok ⟨by simp [i1], ⟨fun _ => by simp [i1], fun q => absurd hp' q⟩, fun i z h => ?_⟩
          rcases Nat.lt_or_ge i l.length with q | q
          · rw [List.getElem?_append_left q] at h
            exact i2 i z h
          · rw [List.getElem?_append_right q] at h
            cases k : i - l.length with
            | zero =>
              rw [k] at h
              simp at h
              subst h
              have e3 : y = (i : Int) := by omega
              rw [e3] at hx
              exact ⟨⟨i, Nat.le_refl _, by omega, hx.1⟩, hx.2⟩
            | succ m => rw [k] at h; simp at h
        · have hp' : ¬ (0 < many ∧ 1 < (rN rs ++ es).length) := fun q => by
            have : (decide (0 < many) && decide ((1 : Int) < ((rN rs ++ es).length : Int))) = true := by
              simp only [Bool.and_eq_true, decide_eq_true_eq]
              omega
            rw [this] at hp
            cases hp
          rw [i1' hp']
          exact Sat.ok ⟨by simp, ⟨fun q => absurd q hp', fun _ => rfl⟩, fun i x h => by simp at h⟩
      · rintro l ⟨i1, _, i2⟩
        rw [rngI_len] at i1
        exact ⟨i1, i2⟩
    · obtain ⟨w1, w2⟩ := hws
      have gr : ∀ x ∈ rs, ∃ i : Nat, Good s i x.a ∧ 0 ≤ x.b ∧ x.b ≤ 200 := fun x hx => by
        obtain ⟨i, hi⟩ := List.mem_iff_getElem?.mp hx
        exact ⟨i, r2 i x hi⟩
      have ge : ∀ x ∈ es, ∃ i : Nat, Good s (many + i) x := fun x hx => by
        obtain ⟨i, hi⟩ := List.mem_iff_getElem?.mp hx
        exact ⟨i, e2 i x hi⟩
      have gw : ∀ x ∈ ws, (∃ i : Nat, Good s (many + gates + i) x.a) ∧ (x.b ∈ rN rs ∧ x.c ∈ rN rs ++ es ∧ (many + gates ≤ 13 → x.c ≠ x.b)) ∧ (0 ≤ x.d ∧ x.d ≤ 50 ∧ 1 ≤ x.e ∧ x.e ≤ 5) := fun x hx => by
        obtain ⟨i, hi⟩ := List.mem_iff_getElem?.mp hx
        obtain ⟨⟨_, _, _, g⟩, q⟩ := w2 i x hi
        exact ⟨⟨i, g⟩, q⟩
      have gp : ∀ x ∈ rN rs ++ es, Sm 12 x := fun x hx => by
        obtain ⟨i, hi⟩ := List.mem_iff_getElem?.mp hx
        exact (pn i x hi).sm
      refine Sat.ok ⟨⟨by show rs.length ≤ 60; omega, by show es.length ≤ 60; omega, by show ws.length ≤ 60; omega, fun x hx => ?_, fun x hx => ?_, fun x hx => ?_⟩, r1, e1, w1, fun x hx => ?_, fun x hx => ?_, fun x hx => ?_, fun q1 q2 q3 q4 q5 => ?_⟩
      · obtain ⟨i, g, _⟩ := gr x hx
        exact g.sm.sh (by decide)
      · obtain ⟨i, g⟩ := ge x hx
        exact g.sm.sh (by decide)
      · obtain ⟨⟨i, g⟩, ⟨a, b, _⟩, _⟩ := gw x hx
        exact ⟨g.sm.sh (by decide), (gp _ (List.mem_append_left _ a)).sh (by decide), (gp _ b).sh (by decide)⟩
      · obtain ⟨i, g, _⟩ := gr x hx
        exact ⟨g.sm, g.lo⟩
      · obtain ⟨i, g⟩ := ge x hx
        exact ⟨g.sm, g.lo⟩
      · obtain ⟨⟨i, g⟩, _⟩ := gw x hx
        exact ⟨g.sm, g.lo⟩
      · unfold okHouse okRooms okExits okWays
        simp only [Bool.and_eq_true, decide_eq_true_eq, List.all_eq_true]
        refine ⟨⟨⟨⟨⟨by omega, by omega⟩, fun r hr => ?_⟩, ⟨⟨by omega, by omega⟩, fun r hr => ?_⟩⟩, ⟨by omega, fun w hw => ?_⟩⟩, ?_⟩
        · obtain ⟨i, g, b1, b2⟩ := gr r hr
          simp only [okRoom, Bool.and_eq_true, decide_eq_true_eq]
          exact ⟨⟨g.name, b1⟩, b2⟩
        · obtain ⟨i, g⟩ := ge r hr
          exact g.name
        · obtain ⟨⟨i, g⟩, ⟨a, b, c⟩, ⟨d1, d2, d3, d4⟩⟩ := gw w hw
          simp only [okWay, Bool.and_eq_true, decide_eq_true_eq, Bool.not_eq_true', decide_eq_false_iff_not]
          exact ⟨⟨⟨⟨⟨⟨⟨g.name, a⟩, c (by omega)⟩, b⟩, d1⟩, d2⟩, d3⟩, d4⟩
        · rw [List.Nodup, List.pairwise_iff_getElem]
          have all : ∀ (i : Nat) x, (rN rs ++ es ++ wN ws)[i]? = some x → Good s i x := fun i x h => by
            rcases Nat.lt_or_ge i (rN rs ++ es).length with q | q
            · rw [List.getElem?_append_left q] at h
              exact pn i x h
            · rw [List.getElem?_append_right q] at h
              unfold wN at h
              rw [List.getElem?_map] at h
              cases k : ws[i - (rN rs ++ es).length]? with
              | none => rw [k] at h; cases h
              | some w =>
                rw [k] at h
                cases h
                obtain ⟨⟨_, _, _, g⟩, _⟩ := w2 _ w k
                have : (rN rs ++ es).length = many.toNat + gates.toNat := by rw [List.length_append]; omega
                rwa [show many + gates + ((i - (rN rs ++ es).length : Nat) : Int) = (i : Int) by omega] at g
          intro i j hi hj hij q
          have lw : (wN ws).length = ws.length := List.length_map _
          have ll : (rN rs ++ es ++ wN ws).length ≤ 32 := by rw [List.length_append, List.length_append]; omega
          have g1 := all i _ (List.getElem?_eq_getElem hi)
          have g2 := all j _ (List.getElem?_eq_getElem hj)
          rw [← q] at g2
          have := Good.inj hn (by omega) (by omega) (by omega) (by omega) g1 g2
          omega

/-! ### one change -/
/-- the drawn lists that are changed -/
structure Base (p : Parts) : Prop where
  b : BdP p
  r1 : 1 ≤ p.a.length
  r8 : p.a.length ≤ 8
  e1 : 1 ≤ p.b.length
  e4 : p.b.length ≤ 4
  w20 : p.c.length ≤ 20
  nr : ∀ x ∈ p.a, Sm 12 x.a ∧ 2 ≤ x.a.length
  ne : ∀ x ∈ p.b, Sm 12 x ∧ 2 ≤ x.length
  nw : ∀ x ∈ p.c, Sm 12 x.a ∧ 2 ≤ x.a.length
theorem mem_set {α : Type} {l : List α} {i : Nat} {a x : α} (h : x ∈ l.set i a) : x ∈ l ∨ x = a := by
  rcases List.mem_or_eq_of_mem_set h with h | h
  · exact .inl h
  · exact .inr h
/-- a way that is bounded -/
def ShW (x : Way) : Prop := Sh x.a ∧ Sh x.b ∧ Sh x.c
theorem six {α : Type} {a b c d e f x : α} (h : x ∈ [a, b, c, d, e, f]) : x = a ∨ x = b ∨ x = c ∨ x = d ∨ x = e ∨ x = f := by
  simpa only [List.mem_cons, List.not_mem_nil, or_false] using h
theorem sh_empty : Sh "" := ⟨by decide +kernel, by decide +kernel⟩
theorem way_changed_sat (s : Scr) (hn : s.l.length ≤ 63) {k kind : Int} (hk : 0 ≤ k) (hk2 : k < 10000) {p : Parts} (hp : Base p) (hc : 1 ≤ p.c.length) : (t__law_way_changed s k p kind).Sat BdP := by
  have a1 := hp.r1
  have a2 := hp.e1
  have a3 := hp.r8
  have a4 := hp.e4
  have a5 := hp.w20
  unfold t__law_way_changed
  simp only [len_eq]
  refine Sat.bind (dr_sat s hn hk (by omega) (by omega)) fun at' hat => ?_
  refine Sat.bind (Sat.ixL hat.1 hat.2) fun way hway => ?_
  refine Sat.bind (dr_sat s hn (by omega) (by omega) (by decide)) fun far hfar => ?_
  refine Sat.bind (dr_sat s hn (by omega) (by omega) (by decide)) fun choice hch => ?_
  refine Sat.bind (P := Sh) (Sat.bind (dr_sat s hn (by omega) (by omega) (by omega)) fun v hv => Sat.imp (Sat.ixL hv.1 hv.2) fun a ha => hp.b.ne a ha.1) fun gate hgate => ?_
  have hw0 : ShW way := hp.b.nw way hway.1
  refine Sat.bind (P := ShW) (Sat.ite (fun _ => ?_) fun _ => Sat.ok hw0) fun w1 h1 => ?_
  · simp only [R.bind_assoc, R.bind_ok]
    exact Sat.bind (Sat.ixL hch.1 (by simpa using hch.2)) fun v _ => Sat.ok hw0
  refine Sat.bind (P := ShW) (Sat.ite (fun _ => ?_) fun _ => Sat.ok h1) fun w2 h2 => ?_
  · simp only [R.bind_assoc, R.bind_ok]
    exact Sat.bind (Sat.ixL hch.1 (by simpa using hch.2)) fun v _ => Sat.ok h1
  refine Sat.bind (P := ShW) (Sat.ite (fun _ => ?_) fun _ => Sat.ok h2) fun w3 h3 => ?_
  · simp only [R.bind_assoc, R.bind_ok]
    refine Sat.bind (name_sat s hn 35 (by decide) (by decide)) fun nm hnm => ?_
    refine Sat.bind (ix_all Sh hch rfl fun x hx => ?_) fun v hv => ?_
    · rcases six hx with rfl | rfl | rfl | rfl | rfl | rfl
      · exact hgate
      · exact hgate
      · exact hnm.sm.sh (by decide)
      · exact h2.1
      · exact hgate
      · exact sh_empty
    · refine Sat.ite (fun _ => ?_) fun _ => Sat.ok ⟨h2.1, hv, h2.2.2⟩
      refine Sat.bind (Sat.ixL (by decide) (by omega)) fun r hr => Sat.ok ⟨h2.1, hv, hp.b.nr r hr.1⟩
  refine Sat.bind (P := ShW) (Sat.ite (fun _ => ?_) fun _ => Sat.ok h3) fun w4 h4 => ?_
  · simp only [R.bind_assoc, R.bind_ok]
    refine Sat.bind (dr_sat s hn (by omega) (by omega) (by omega)) fun j hj => ?_
    refine Sat.bind (Sat.ixL hj.1 hj.2) fun o ho => ?_
    refine Sat.bind (name_sat s hn 35 (by decide) (by decide)) fun nm hnm => ?_
    refine Sat.bind (ix_all Sh hch rfl fun x hx => ?_) fun v hv => Sat.ok ⟨h3.1, h3.2.1, hv⟩
    rcases six hx with rfl | rfl | rfl | rfl | rfl | rfl
    · exact h3.2.1
    · exact h3.2.1
    · exact hnm.sm.sh (by decide)
    · exact h3.1
    · exact (hp.b.nw o ho.1).1
    · exact sh_empty
  rw [putR_ok hat.1 hat.2, R.bind_ok]
  refine Sat.ok ⟨by show p.a.length ≤ 60; omega, by show p.b.length ≤ 60; omega, by show (p.c.set _ _).length ≤ 60; rw [List.length_set]; omega, hp.b.nr, hp.b.ne, fun x hx => ?_⟩
  rcases mem_set hx with hx | hx
  · exact hp.b.nw x hx
  · rw [hx]
    exact h4
theorem changed_sat (s : Scr) (hn : s.l.length ≤ 63) {k : Int} (hk : 0 ≤ k) (hk2 : k < 9000) {p : Parts} (hp : Base p) : (t__law_changed s k p).Sat BdP := by
  have a1 := hp.r1
  have a2 := hp.e1
  have a3 := hp.r8
  have a4 := hp.e4
  have a5 := hp.w20
  unfold t__law_changed
  simp only [len_eq]
  refine Sat.bind (dr_sat s hn hk (by omega) (by decide)) fun kind hkind => ?_
  rw [cmpR_ok (L := p.a) (f := fun y => R.ok y.a) (fun r => r.a) (by omega) (fun _ _ => rfl), R.bind_ok, cmpR_ok (L := p.c) (f := fun y => R.ok y.a) (fun r => r.a) (by omega) (fun _ _ => rfl)]
  rw [show p.a.map (fun r => r.a) = rN p.a from rfl, show p.c.map (fun r => r.a) = wN p.c from rfl]
  have l1 : (rN p.a).length = p.a.length := List.length_map _
  have l2 : (wN p.c).length = p.c.length := List.length_map _
  rw [catL_ok (by omega), R.bind_ok, R.bind_ok, catL_ok (by rw [List.length_append]; omega), R.bind_ok]
  have lW : (rN p.a ++ p.b ++ wN p.c).length = p.a.length + p.b.length + p.c.length := by rw [List.length_append, List.length_append]; omega
  have nW : ∀ x ∈ rN p.a ++ p.b ++ wN p.c, Sm 12 x ∧ 2 ≤ x.length := fun x hx => by
    rcases List.mem_append.mp hx with hx | hx
    · rcases List.mem_append.mp hx with hx | hx
      · obtain ⟨r, hr, rfl⟩ := List.mem_map.mp hx
        exact hp.nr r hr
      · exact hp.ne x hx
    · obtain ⟨r, hr, rfl⟩ := List.mem_map.mp hx
      exact hp.nw r hr
  generalize rN p.a ++ p.b ++ wN p.c = W at *
  refine Sat.bind (dr_sat s hn (by omega) (by omega) (by omega)) fun at' hat => ?_
  obtain ⟨w, ew, hw, _⟩ := Sat.ixL (l := W) hat.1 hat.2
  obtain ⟨n1, n2⟩ := nW w hw
  refine Sat.ite (fun _ => ?_) fun q1 => ?_
  · rw [ew, R.bind_ok, R.bind_ok]
    simp only [R.bind_assoc, R.bind_ok]
    refine Sat.bind (odd_sat s hn (by omega) (by omega) n1 (by omega)) fun o ho => ?_
    refine Sat.bind (renamed_sat hp.b _ _ ho) fun v hv => Sat.ok hv
  refine Sat.ite (fun _ => ?_) fun q2 => ?_
  · refine Sat.bind (P := fun v : Int => 0 ≤ v ∧ v < W.length) ?_ fun o ho => ?_
    · simp only [R.bind_assoc, R.bind_ok]
      refine Sat.bind (dr_sat s hn (by omega) (by omega) (by omega)) fun v hv => ?_
      rw [modR_ok (by omega)]
      exact Sat.ok ⟨Int.emod_nonneg _ (by omega), Int.emod_lt_of_pos _ (by omega)⟩
    · rw [ew, R.bind_ok]
      simp only [R.bind_assoc, R.bind_ok]
      refine Sat.bind (Sat.ixL ho.1 ho.2) fun x hx => ?_
      refine Sat.bind (renamed_sat hp.b _ _ ((nW x hx.1).1.sh (by decide))) fun v hv => Sat.ok hv
  refine Sat.ite (fun _ => ?_) fun q3 => ?_
  · refine Sat.bind (dr_sat s hn (by omega) (by omega) (by decide)) fun far hfar => ?_
    refine Sat.bind (dr_sat s hn (by omega) (by omega) (by omega)) fun at2 hat2 => ?_
    simp only [R.bind_assoc, R.bind_ok]
    refine Sat.bind (Sat.ixL hat2.1 hat2.2) fun r hr => ?_
    refine Sat.bind (dr_sat s hn (by omega) (by omega) (by decide)) fun c hc => ?_
    refine Sat.bind (Sat.ixL hc.1 (by simpa using hc.2)) fun v hv => ?_
    rw [putR_ok hat2.1 hat2.2, R.bind_ok]
    refine Sat.ok ⟨by show (p.a.set _ _).length ≤ 60; rw [List.length_set]; omega, by show p.b.length ≤ 60; omega, by show p.c.length ≤ 60; omega, fun x hx => ?_, hp.b.ne, hp.b.nw⟩
    rcases mem_set hx with hx | hx
    · exact hp.b.nr x hx
    · rw [hx]
      exact hp.b.nr r hr.1
  simp only [eqC_int, decide_eq_false_iff_not] at q1 q2 q3
  refine Sat.ite (fun q4 => ?_) fun q4 => ?_
  · rw [decide_eq_true_iff] at q4
    rw [eqC_int]
    refine Sat.ite (fun _ => Sat.ok hp.b) fun q5 => ?_
    rw [decide_eq_false_iff_not] at q5
    simp only [R.bind_assoc, R.bind_ok]
    refine Sat.bind (Sat.ixL (by omega) (by simp only [List.length_cons, List.length_nil]; omega)) fun c _ => ?_
    exact Sat.bind (way_changed_sat s hn (by omega) (by omega) hp (by omega)) fun v hv => Sat.ok hv
  have pick4 : ∀ {l : List Int}, l.length = 4 → (∀ x ∈ l, 0 ≤ x ∧ x ≤ 21) → ∀ {k : R Int → R Parts}, True := fun _ _ _ => trivial
  refine Sat.ite (fun _ => ?_) fun _ => ?_
  · simp only [R.bind_assoc, R.bind_ok]
    refine Sat.bind (dr_sat s hn (by omega) (by omega) (by decide)) fun c hc => ?_
    refine Sat.bind (ix_all (fun v : Int => 0 ≤ v ∧ v ≤ 9) hc rfl fun x hx => ?_) fun m hm => ?_
    · simp only [List.mem_cons, List.not_mem_nil, or_false] at hx
      rcases hx with rfl | rfl | rfl | rfl <;> omega
    · exact Sat.bind (lists_sat s hn hm.1 hm.2 (by omega) (by omega) (by omega) (by omega)) fun v hv => Sat.ok hv.1
  refine Sat.ite (fun _ => ?_) fun _ => ?_
  · simp only [R.bind_assoc, R.bind_ok]
    refine Sat.bind (dr_sat s hn (by omega) (by omega) (by decide)) fun c hc => ?_
    refine Sat.bind (ix_all (fun v : Int => 0 ≤ v ∧ v ≤ 5) hc rfl fun x hx => ?_) fun m hm => ?_
    · simp only [List.mem_cons, List.not_mem_nil, or_false] at hx
      rcases hx with rfl | rfl | rfl | rfl <;> omega
    · exact Sat.bind (lists_sat s hn (by omega) (by omega) hm.1 hm.2 (by omega) (by omega)) fun v hv => Sat.ok hv.1
  · simp only [R.bind_assoc, R.bind_ok]
    refine Sat.bind (dr_sat s hn (by omega) (by omega) (by decide)) fun c hc => ?_
    refine Sat.bind (ix_all (fun v : Int => 0 ≤ v ∧ v ≤ 21) hc rfl fun x hx => ?_) fun m hm => ?_
    · simp only [List.mem_cons, List.not_mem_nil, or_false] at hx
      rcases hx with rfl | rfl | rfl | rfl <;> omega
    · exact Sat.bind (lists_sat s hn (by omega) (by omega) (by omega) (by omega) hm.1 hm.2) fun v hv => Sat.ok hv.1
theorem law_ok (s : Scr) (hn : s.l.length ≤ 63) : t_law s = .ok true := by
  have main : (t_law s).Sat fun b => b = true := by
    unfold t_law
    simp only [len_eq, R.bind_assoc, R.bind_ok]
    refine Sat.bind (dr_sat s hn (by decide) (by decide) (by decide)) fun many hm => ?_
    refine Sat.bind (dr_sat s hn (by decide) (by decide) (by decide)) fun gates hg => ?_
    refine Sat.bind (dr_sat s hn (by decide) (by decide) (by decide)) fun count hc => ?_
    refine Sat.bind (lists_sat s hn (by omega) (by omega) (by omega) (by omega) hc.1 (by omega)) fun p hp => ?_
    obtain ⟨h1, h2, h3, h4, h5, h6, h7, h8⟩ := hp
    have hb : Base p := ⟨h1, by omega, by omega, by omega, by omega, by omega, h5, h6, h7⟩
    have ok := h8 (by omega) (by omega) (by omega) (by omega) (by omega)
    have bd := h1.bd
    have c1 := h1.r
    have c2 := h1.e
    have c3 := h1.w
    rw [init_ok p.a p.b p.c (by omega) (by omega) (by omega) (fun x hx => by have := bd.n x hx; omega), ok, if_pos rfl, R.bind_ok, kept_ok (by omega) (by omega) (by omega), R.bind_ok]
    rw [iteR_ok, if_neg (by decide), rng1_ok (by decide) (by decide), R.bind_ok, forR_all (fun a ha => ?_), R.then_nx, made_ok bd, R.bind_ok, iteR_ok, if_neg (by decide)]
    · exact Sat.ok rfl
    · rw [mem_rngI] at ha
      have ha2 : a < 6 := by simpa using ha.2
      have ha1 := ha.1
      unfold t_law_b7
      rw [mulR_ok (by decide) (by decide), R.bind_ok, R.bind_ok]
      obtain ⟨q, e, hq⟩ := changed_sat s hn (k := 210 + 10 * a) (by omega) (by omega) hb
      rw [e, R.bind_ok, made_ok hq.bd, R.bind_ok, iteR_ok, if_neg (by decide)]
  obtain ⟨b, e, hb⟩ := main
  rw [e, hb]

theorem plain_law {K : PySem.W.Frag} (k : Ks K) (ns : List Int) (h : ns.length ≤ 63) : ∃ cs, F_law K [.klst (ns.map P.int)] [] = .ok (.bl true) cs := by
  have := f_law k ⟨ns⟩ [] [.klst (ns.map P.int)] (fun n x e => by simp at e) ⟨_, [], rfl, rfl, rfl⟩
  rw [law_ok ⟨ns⟩ h] at this
  obtain ⟨p, e, hq⟩ := this
  exact ⟨[], by rw [e, hq]; rfl⟩

section
open PyProof.Rows
section
variable {P : Program} {w : World} {K : PySem.W.Frag} {h : Heap} {mg : Str → Option Value}
theorem gs_of (X : K.In h) (G : h.Ns mainGlobals mg) (c : He.SaysD faL fnL K) : Gs K mg where
  n_ValueError := He.free_ok X G (c.fact 0 rfl)
  n_abs := He.free_ok X G (c.fact 1 rfl)
  n_bool := He.free_ok X G (c.fact 2 rfl)
  n_enumerate := He.free_ok X G (c.fact 3 rfl)
  n_int := He.free_ok X G (c.fact 4 rfl)
  n_isinstance := He.free_ok X G (c.fact 5 rfl)
  n_len := He.free_ok X G (c.fact 6 rfl)
  n_list := He.free_ok X G (c.fact 7 rfl)
  n_min := He.free_ok X G (c.fact 8 rfl)
  n_range := He.free_ok X G (c.fact 9 rfl)
  n_set := He.free_ok X G (c.fact 10 rfl)
  n_str := He.free_ok X G (c.fact 11 rfl)
  n_tuple := He.free_ok X G (c.fact 12 rfl)
  c_LETTERS := He.str_ok X G (c.fact 13 rfl)
  c_LONGEST_NAME := He.int_ok X G (c.fact 14 rfl)
  c_MOST_EXITS := He.int_ok X G (c.fact 15 rfl)
  c_MOST_HOLD := He.int_ok X G (c.fact 16 rfl)
  c_MOST_ROOMS := He.int_ok X G (c.fact 17 rfl)
  c_MOST_TIME := He.int_ok X G (c.fact 18 rfl)
  c_MOST_WAYS := He.int_ok X G (c.fact 19 rfl)
  c_MOST_WIDTH := He.int_ok X G (c.fact 20 rfl)
  c_SIGNS := He.str_ok X G (c.fact 21 rfl)
  g_AlarmOver := He.glo_ok X G (c.fact 22 rfl)
  g_BadBook := He.glo_ok X G (c.fact 23 rfl)
  g_BadBounds := He.glo_ok X G (c.fact 24 rfl)
  g_BadClosing := He.glo_ok X G (c.fact 25 rfl)
  g_BadCourse := He.glo_ok X G (c.fact 26 rfl)
  g_BadCover := He.glo_ok X G (c.fact 27 rfl)
  g_BadCrowd := He.glo_ok X G (c.fact 28 rfl)
  g_BadCut := He.glo_ok X G (c.fact 29 rfl)
  g_BadDeed := He.glo_ok X G (c.fact 30 rfl)
  g_BadFire := He.glo_ok X G (c.fact 31 rfl)
  g_BadFloor := He.glo_ok X G (c.fact 32 rfl)
  g_BadHour := He.glo_ok X G (c.fact 33 rfl)
  g_BadHouse := He.glo_ok X G (c.fact 34 rfl)
  g_BadLimit := He.glo_ok X G (c.fact 35 rfl)
  g_BadLinks := He.glo_ok X G (c.fact 36 rfl)
  g_BadMinutes := He.glo_ok X G (c.fact 37 rfl)
  g_BadMovement := He.glo_ok X G (c.fact 38 rfl)
  g_BadNeeds := He.glo_ok X G (c.fact 39 rfl)
  g_BadNet := He.glo_ok X G (c.fact 40 rfl)
  g_BadOffers := He.glo_ok X G (c.fact 41 rfl)
  g_BadReport := He.glo_ok X G (c.fact 42 rfl)
  g_BadSigns := He.glo_ok X G (c.fact 43 rfl)
  g_BadTable := He.glo_ok X G (c.fact 44 rfl)
  g_BadTeams := He.glo_ok X G (c.fact 45 rfl)
  g_BadText := He.glo_ok X G (c.fact 46 rfl)
  g_BadTroubles := He.glo_ok X G (c.fact 47 rfl)
  g_BadWalk := He.glo_ok X G (c.fact 48 rfl)
  g_EverybodyError := He.glo_ok X G (c.fact 49 rfl)
  g_House := He.glo_ok X G (c.fact 50 rfl)
  g_NoFlow := He.glo_ok X G (c.fact 51 rfl)
  g_NoHistory := He.glo_ok X G (c.fact 52 rfl)
  g_NothingToRedo := He.glo_ok X G (c.fact 53 rfl)
  g_NothingToUndo := He.glo_ok X G (c.fact 54 rfl)
  g_ReportClash := He.glo_ok X G (c.fact 55 rfl)
  g_TooLarge := He.glo_ok X G (c.fact 56 rfl)
  g_UnknownName := He.glo_ok X G (c.fact 57 rfl)
  g_UnknownReport := He.glo_ok X G (c.fact 58 rfl)
  g__check_exits := He.glo_ok X G (c.fact 59 rfl)
  g__check_rooms := He.glo_ok X G (c.fact 60 rfl)
  g__check_ways := He.glo_ok X G (c.fact 61 rfl)
  g__law_changed := He.glo_ok X G (c.fact 62 rfl)
  g__law_draw := He.glo_ok X G (c.fact 63 rfl)
  g__law_is_house := He.glo_ok X G (c.fact 64 rfl)
  g__law_is_word := He.glo_ok X G (c.fact 65 rfl)
  g__law_kept := He.glo_ok X G (c.fact 66 rfl)
  g__law_lists := He.glo_ok X G (c.fact 67 rfl)
  g__law_made := He.glo_ok X G (c.fact 68 rfl)
  g__law_name := He.glo_ok X G (c.fact 69 rfl)
  g__law_odd := He.glo_ok X G (c.fact 70 rfl)
  g__law_renamed := He.glo_ok X G (c.fact 71 rfl)
  g__law_same := He.glo_ok X G (c.fact 72 rfl)
  g__law_swap := He.glo_ok X G (c.fact 73 rfl)
  g__law_way_changed := He.glo_ok X G (c.fact 74 rfl)
  g_is_name := He.glo_ok X G (c.fact 75 rfl)
  g_law := He.glo_ok X G (c.fact 76 rfl)
  x_BadHouse := He.exc_ok (c.fact 77 rfl)
  cl_House := He.cls_ok (c.fact 78 rfl)
  mk_House := He.mkr_ok (c.fact 79 rfl)
theorem ks_of (c : He.SaysD faL fnL K) (ce : exB K = true) : Ks K where
  fo_House_rooms := ⟨He.cls_ok (c.fact 78 rfl), He.noat_ok (c.fact 80 rfl)⟩
  fo_House_exits := ⟨He.cls_ok (c.fact 78 rfl), He.noat_ok (c.fact 81 rfl)⟩
  fo_House_ways := ⟨He.cls_ok (c.fact 78 rfl), He.noat_ok (c.fact 82 rfl)⟩
  fo_House__way_at := ⟨He.cls_ok (c.fact 78 rfl), He.noat_ok (c.fact 83 rfl)⟩
  fo_House__exit_at := ⟨He.cls_ok (c.fact 78 rfl), He.noat_ok (c.fact 84 rfl)⟩
  fo_House__room_at := ⟨He.cls_ok (c.fact 78 rfl), He.noat_ok (c.fact 85 rfl)⟩
  is1_House := of_decide_eq_true (List.all_eq_true.mp ce _ (List.mem_of_getElem? (i := 0) rfl))
  is2 := of_decide_eq_true (List.all_eq_true.mp ce _ (List.mem_of_getElem? (i := 1) rfl))
  is3 := of_decide_eq_true (List.all_eq_true.mp ce _ (List.mem_of_getElem? (i := 2) rfl))
  is4_House := of_decide_eq_true (List.all_eq_true.mp ce _ (List.mem_of_getElem? (i := 3) rfl))
  ki_House_House := of_decide_eq_true (List.all_eq_true.mp ce _ (List.mem_of_getElem? (i := 4) rfl))
  xm_BadHouse_BadHouse := of_decide_eq_true (List.all_eq_true.mp ce _ (List.mem_of_getElem? (i := 5) rfl))
  xc_BadHouse := List.all_eq_true.mp ce _ (List.mem_of_getElem? (i := 6) rfl)
  isx1_BadHouse := of_decide_eq_true (List.all_eq_true.mp ce _ (List.mem_of_getElem? (i := 7) rfl))
  isx3_BadHouse := of_decide_eq_true (List.all_eq_true.mp ce _ (List.mem_of_getElem? (i := 8) rfl))
  isx5_BadHouse := of_decide_eq_true (List.all_eq_true.mp ce _ (List.mem_of_getElem? (i := 9) rfl))
theorem law_cal (Y : Gs K mg) (c : He.SaysD faL fnL K) : ∃ fd : FuncData, (∀ (s : Shared) (v : Value), BindsTo s fd ⟨[v], []⟩ [("script", v)]) ∧ ∀ base : Heap, Cal P w K mg base 6 (He.ga K "law") fd [("script" : Str)] (F_law K) := by
  obtain ⟨d_is_name, fD_is_name⟩ := c.def_ 0 (d := dd_is_name) rfl
  obtain ⟨d__check_exits, fD__check_exits⟩ := c.def_ 1 (d := dd__check_exits) rfl
  obtain ⟨d__check_rooms, fD__check_rooms⟩ := c.def_ 2 (d := dd__check_rooms) rfl
  obtain ⟨d__check_ways, fD__check_ways⟩ := c.def_ 3 (d := dd__check_ways) rfl
  obtain ⟨d_House___init__, fD_House___init__⟩ := c.def_ 4 (d := dd_House___init__) rfl
  obtain ⟨d__law_draw, fD__law_draw⟩ := c.def_ 5 (d := dd__law_draw) rfl
  obtain ⟨d__law_name, fD__law_name⟩ := c.def_ 6 (d := dd__law_name) rfl
  obtain ⟨d__law_lists, fD__law_lists⟩ := c.def_ 7 (d := dd__law_lists) rfl
  obtain ⟨d__law_odd, fD__law_odd⟩ := c.def_ 8 (d := dd__law_odd) rfl
  obtain ⟨d__law_swap, fD__law_swap⟩ := c.def_ 9 (d := dd__law_swap) rfl
  obtain ⟨d__law_renamed, fD__law_renamed⟩ := c.def_ 10 (d := dd__law_renamed) rfl
  obtain ⟨d__law_way_changed, fD__law_way_changed⟩ := c.def_ 11 (d := dd__law_way_changed) rfl
  obtain ⟨d__law_changed, fD__law_changed⟩ := c.def_ 12 (d := dd__law_changed) rfl
  obtain ⟨d__law_same, fD__law_same⟩ := c.def_ 13 (d := dd__law_same) rfl
  obtain ⟨d__law_kept, fD__law_kept⟩ := c.def_ 14 (d := dd__law_kept) rfl
  obtain ⟨d__law_is_word, fD__law_is_word⟩ := c.def_ 15 (d := dd__law_is_word) rfl
  obtain ⟨d__law_is_house, fD__law_is_house⟩ := c.def_ 16 (d := dd__law_is_house) rfl
  obtain ⟨d__law_made, fD__law_made⟩ := c.def_ 17 (d := dd__law_made) rfl
  obtain ⟨d_law, fD_law⟩ := c.def_ 18 (d := dd_law) rfl
  have b := FunD.bindsA (ps := ["script"]) fD_law fun _ _ _ _ _ _ us hl => match us, hl with | [_], _ => rfl
  refine ⟨d_law, fun s v => b s [v] rfl, fun base => ?_⟩
  have c_is_name := ok_is_name (P := P) (w := w) (base := base) Y (f := He.ga K ("is_name" : Str)) fD_is_name
  have c__check_exits := ok__check_exits (P := P) (w := w) (base := base) Y c_is_name (f := He.ga K ("_check_exits" : Str)) fD__check_exits
  have c__check_rooms := ok__check_rooms (P := P) (w := w) (base := base) Y c_is_name (f := He.ga K ("_check_rooms" : Str)) fD__check_rooms
  have c__check_ways := ok__check_ways (P := P) (w := w) (base := base) Y c_is_name (f := He.ga K ("_check_ways" : Str)) fD__check_ways
  have c_House___init__ := ok_House___init__ (P := P) (w := w) (base := base) Y c__check_exits c__check_rooms c__check_ways (f := He.ma K (He.ga K ("House" : Str)) ("__init__" : Str)) fD_House___init__
  have c__law_draw := ok__law_draw (P := P) (w := w) (base := base) Y (f := He.ga K ("_law_draw" : Str)) fD__law_draw
  have c__law_name := ok__law_name (P := P) (w := w) (base := base) Y c__law_draw (f := He.ga K ("_law_name" : Str)) fD__law_name
  have c__law_lists := ok__law_lists (P := P) (w := w) (base := base) Y c__law_draw c__law_name (f := He.ga K ("_law_lists" : Str)) fD__law_lists
  have c__law_odd := ok__law_odd (P := P) (w := w) (base := base) Y c__law_draw (f := He.ga K ("_law_odd" : Str)) fD__law_odd
  have c__law_swap := ok__law_swap (P := P) (w := w) (base := base) Y (f := He.ga K ("_law_swap" : Str)) fD__law_swap
  have c__law_renamed := ok__law_renamed (P := P) (w := w) (base := base) Y c__law_swap (f := He.ga K ("_law_renamed" : Str)) fD__law_renamed
  have c__law_way_changed := ok__law_way_changed (P := P) (w := w) (base := base) Y c__law_draw c__law_name (f := He.ga K ("_law_way_changed" : Str)) fD__law_way_changed
  have c__law_changed := ok__law_changed (P := P) (w := w) (base := base) Y c__law_draw c__law_lists c__law_odd c__law_renamed c__law_way_changed (f := He.ga K ("_law_changed" : Str)) fD__law_changed
  have c__law_same := ok__law_same (P := P) (w := w) (base := base) Y (f := He.ga K ("_law_same" : Str)) fD__law_same
  have c__law_kept := ok__law_kept (P := P) (w := w) (base := base) Y c__law_same (f := He.ga K ("_law_kept" : Str)) fD__law_kept
  have c__law_is_word := ok__law_is_word (P := P) (w := w) (base := base) Y (f := He.ga K ("_law_is_word" : Str)) fD__law_is_word
  have c__law_is_house := ok__law_is_house (P := P) (w := w) (base := base) Y c__law_is_word (f := He.ga K ("_law_is_house" : Str)) fD__law_is_house
  have c__law_made := ok__law_made (P := P) (w := w) (base := base) Y c_House___init__ c__law_is_house c__law_kept (f := He.ga K ("_law_made" : Str)) fD__law_made
  have c_law := ok_law (P := P) (w := w) (base := base) Y c_House___init__ c__law_changed c__law_draw c__law_kept c__law_lists c__law_made (f := He.ga K ("law" : Str)) fD_law
  exact c_law
end
end
end K01
open PySem PySem.W PySem.Calls PyProof.Rows in
set_option maxRecDepth 100000 in
set_option maxHeartbeats 0 in
theorem PySem.Challenge.cw_everybodyout_k01_house_refused_or_kept_holds : PySem.Challenge.rw_everybodyout_k01_house_refused_or_kept.Holds := by
  w_on; o_law
  refine HandSHeadRun.head_any (r := OpenLaw.row PySem.Challenge.rw_everybodyout_k01_house_refused_or_kept) (q := K01.qv) (H := K01.hk) (ob := K01.ob) (M := 15000) (loose := K01.namesL) (d := HandSHeadRun.topDef (OpenLaw.row PySem.Challenge.rw_everybodyout_k01_house_refused_or_kept).prog 68) (kwd := []) K01.ob_eq
    (by kernel_rfl) (fun s => by kernel_rfl) K01.run (by kernel_rfl) (by kernel_rfl) (by kernel_rfl) (by rfl) (by first | assumption | decide +kernel) (by decide +kernel) ⟨rfl, rfl, rfl, rfl, rfl, by decide +kernel⟩ ?hw ?hc
  case hw => w_witness2
  case hc =>
    refine L2.walk_ofE (l := PySem.Challenge.rw_everybodyout_k01_house_refused_or_kept) (n := 63) (k := 6) (x := "script") (CX := DL.CXA PySem.Challenge.pw_everybodyout_k01_house_refused_or_kept) rfl (by decide) (by kernel_rfl) ⟨rfl, by decide, by decide⟩ ?F DL.cxa_none
    intro w mg fa h Y G hmg0
    obtain ⟨K, KX, c⟩ := Y
    have hmg : mg ("law" : PySem.Str) = some (.ref fa) := by
      have e : (HandSHeadRun.topDef (OpenLaw.row PySem.Challenge.rw_everybodyout_k01_house_refused_or_kept).prog 68).name = ("law" : PySem.Str) := by kernel_rfl
      rw [← e]
      exact hmg0
    have Ys := K01.gs_of KX G c.t.d
    have e := hmg.symm.trans Ys.g_law
    cases e
    obtain ⟨fd, hb, hF⟩ := K01.law_cal (P := PySem.Challenge.pw_everybodyout_k01_house_refused_or_kept) (w := w) Ys c.t.d
    refine ⟨K, fd, DL.spD K 1 (K01.F_law K), KX, hb, fun H a ns hl _ hS => DL.law_sp (K01.plain_law (K01.ks_of c.t.d c.more)) H a ns hl hS, fun base _ _ => DL.FnOk.cxa (hF base).ok⟩



import PyProof.Rows.All
import HandS.ForMost
import HandS.Wide
import HandS.TupAny
import HandS.TupMul
import HandS.Deep
import HandS.Style
import HandS.IsInst
import HandS.Conv
import HandS.TupLe
import HandS.RaiseMore
import KE.KTupSum
import KE.DataMinMax
import HandS.SetIn
import KE.SortData
import HandS.SortInts
import KE.GoesEnum
import HandS.DictTup
import KE.KDictWalk
import HandS.Iter
import KE.KDictKeyed
import KE.KDictCopyH
import KE.KDictDisplayH
import PyProof.P3In
import HandS.Star
import KE.KDictPairs
import HandS.TupLen
import HandS.DictComp
import HandS.Gcd
import KE.GoesEnumKw
import HandS.DictSubView0
import PySem.Challenge.RW_restsandparts_k00_whole_gaps_cores_and_p
set_option Elab.async false
set_option linter.all false
set_option maxRecDepth 100000
namespace DL
noncomputable section
open PySem PySem.Spec PyProof.Rows L2

/-! ### data -/
inductive Kd where
  | k (q : Key) | t (ks : List Key)
  deriving DecidableEq
inductive D where
  | non | bl (b : Bool) | int (i : Int) | str (s : Str)
  | tup (xs : List D) | lst (xs : List D) | dct (tk : Bool) (kvs : List (Kd × D))
  | txt (d : D) | src

mutual
def toPy : D → PyData
  | .non => .none
  | .bl b => .bool b
  | .int i => .int i
  | .str s => .str s
  | .tup ds => .tuple (toPys ds)
  | .lst ds => .list (toPys ds)
  | _ => .none
def toPys : List D → List PyData
  | [] => []
  | d :: r => toPy d :: toPys r
end
/-- what repr tells of it -/
def rpr (d : D) : Str := (toPy d).shown

mutual
def Rep (sa : Option Addr) (R : Addr → HO → Prop) : D → V → Prop
  | .non, v => v = .non
  | .bl b, v => v = .bl b
  | .int i, v => v = .int i
  | .str s, v => v = .str s
  | .tup ds, v => ∃ a vs, v = .ref a ∧ R a (.tup vs) ∧ Reps sa R ds vs
  | .lst ds, v => ∃ a vs, v = .ref a ∧ R a (.lst vs) ∧ Reps sa R ds vs
  | .dct false kvs, v => ∃ a l, v = .ref a ∧ R a (.dK l) ∧ RepK sa R kvs l
  | .dct true kvs, v => ∃ a l, v = .ref a ∧ R a (.dT l) ∧ RepT sa R kvs l
  | .txt d, v => v = .str (rpr d)
  | .src, v => ∃ a, sa = some a ∧ v = .ref a
def Reps (sa : Option Addr) (R : Addr → HO → Prop) : List D → List V → Prop
  | [], vs => vs = []
  | d :: ds, vs => ∃ v r, vs = v :: r ∧ Rep sa R d v ∧ Reps sa R ds r
def RepK (sa : Option Addr) (R : Addr → HO → Prop) : List (Kd × D) → List (Key × V) → Prop
  | [], l => l = []
  | (k, d) :: ds, l => ∃ q v r, l = (q, v) :: r ∧ k = .k q ∧ Rep sa R d v ∧ RepK sa R ds r
def RepT (sa : Option Addr) (R : Addr → HO → Prop) : List (Kd × D) → List (List Key × V) → Prop
  | [], l => l = []
  | (k, d) :: ds, l => ∃ q v r, l = (q, v) :: r ∧ k = .t q ∧ Rep sa R d v ∧ RepT sa R ds r
end
section
variable {sa : Option Addr} {R R' : Addr → HO → Prop}
mutual
theorem Rep.mono (h : ∀ a u, R a u → R' a u) : ∀ {d : D} {v : V}, Rep sa R d v → Rep sa R' d v
  | .non, _, r => r
  | .bl _, _, r => r
  | .int _, _, r => r
  | .str _, _, r => r
  | .tup _, _, ⟨a, vs, e, q, r⟩ => ⟨a, vs, e, h _ _ q, Reps.mono h r⟩
  | .lst _, _, ⟨a, vs, e, q, r⟩ => ⟨a, vs, e, h _ _ q, Reps.mono h r⟩
  | .dct false _, _, ⟨a, l, e, q, r⟩ => ⟨a, l, e, h _ _ q, RepK.mono h r⟩
  | .dct true _, _, ⟨a, l, e, q, r⟩ => ⟨a, l, e, h _ _ q, RepT.mono h r⟩
  | .txt _, _, r => r
  | .src, _, r => r
theorem Reps.mono (h : ∀ a u, R a u → R' a u) : ∀ {d : List D} {v : List V}, Reps sa R d v → Reps sa R' d v
  | [], _, r => r
  | _ :: _, _, ⟨v, r, e, q, w⟩ => ⟨v, r, e, Rep.mono h q, Reps.mono h w⟩
theorem RepK.mono (h : ∀ a u, R a u → R' a u) : ∀ {d : List (Kd × D)} {v : List (Key × V)}, RepK sa R d v → RepK sa R' d v
  | [], _, r => r
  | (_, _) :: _, _, ⟨q, v, r, e, k, w, t⟩ => ⟨q, v, r, e, k, Rep.mono h w, RepK.mono h t⟩
theorem RepT.mono (h : ∀ a u, R a u → R' a u) : ∀ {d : List (Kd × D)} {v : List (List Key × V)}, RepT sa R d v → RepT sa R' d v
  | [], _, r => r
  | (_, _) :: _, _, ⟨q, v, r, e, k, w, t⟩ => ⟨q, v, r, e, k, Rep.mono h w, RepT.mono h t⟩
end
end

/-! ### computations with draws -/
inductive T (α : Type) where
  | ok (a : α) | no | pk (n : Int) (k : Int → T α)
def T.bind {α β : Type} (m : T α) (f : α → T β) : T β := T.rec (motive := fun _ => T β) (fun a => f a) .no (fun n _ ih => .pk n ih) m
def WP {α : Type} : T α → (α → Prop) → Prop
  | .ok a, Q => Q a
  | .no, _ => False
  | .pk n k, Q => ∀ r : Int, 0 ≤ r → (r < n ∨ r = 0) → WP (k r) Q
theorem WP.mono {α : Type} : ∀ {m : T α} {Q Q' : α → Prop}, WP m Q → (∀ a, Q a → Q' a) → WP m Q'
  | .ok _, _, _, h, f => f _ h
  | .no, _, _, h, _ => h.elim
  | .pk _ k, _, _, h, f => fun r h0 h1 => WP.mono (h r h0 h1) f
theorem WP.bind {α β : Type} : ∀ {m : T α} {f : α → T β} {Q : β → Prop}, WP (m.bind f) Q → WP m fun a => WP (f a) Q
  | .ok _, _, _, h => h
  | .no, _, _, h => h.elim
  | .pk _ k, _, _, h => fun r h0 h1 => WP.bind (h r h0 h1)
theorem WP.bind' {α β : Type} : ∀ {m : T α} {f : α → T β} {Q : β → Prop}, (WP m fun a => WP (f a) Q) → WP (m.bind f) Q
  | .ok _, _, _, h => h
  | .no, _, _, h => h.elim
  | .pk _ k, _, _, h => fun r h0 h1 => WP.bind' (h r h0 h1)

theorem WP.ok {α : Type} {a : α} {Q : α → Prop} (h : WP (.ok a) Q) : Q a := h

/-! ### the state -/
inductive Sl where
  | non | sh (d : D) | own (d : D) | lent (d : D)
abbrev Ev := List Sl
abbrev Zr := Option (Addr × Addr)
def inS (z : Zr) (b : Addr) : Prop := match z with
  | none => False
  | some (a, c) => b = a ∨ b = c
def Src (z : Zr) (H : Hp) : Prop := match z with
  | none => True
  | some (a, c) => a ≠ c ∧ ∃ (cells : List Int) (l m t : Int), H a = some (.dK [(.inr "cells", .ref c), (.inr "left", .int l), (.inr "mixed", .int m), (.inr "turn", .int t)]) ∧ H c = some (.lst (cells.map V.int)) ∧ ∀ x ∈ cells, 0 ≤ x
abbrev sa (z : Zr) : Option Addr := z.map (·.1)
def SameS (z : Zr) (H H' : Hp) : Prop := ∀ b o, ¬ inS z b → H b = some o → H' b = some o
theorem SameS.refl {z : Zr} {H : Hp} : SameS z H H := fun _ _ _ h => h
theorem SameS.trans {z : Zr} {H H1 H2 : Hp} (a : SameS z H H1) (b : SameS z H1 H2) : SameS z H H2 := fun c o n h => b c o n (a c o n h)
def dk : HO → Prop
  | .dK _ => True
  | .dT _ => True
  | _ => False
/-- an object as it stands, or a dict that a walk locks -/
def Rx (H : Hp) (a : Addr) (u : HO) : Prop := H a = some u ∨ (dk u ∧ ∃ o, H a = some (.frz o u))
theorem Rx.rd {H : Hp} {a : Addr} {u : HO} (h : Rx H a u) : Rd H a u := by
  rcases h with h | ⟨_, o, h⟩
  · exact .inl h
  · exact .inr ⟨o, h⟩
theorem Rx.lst {H : Hp} {a : Addr} {xs : List V} (h : Rx H a (.lst xs)) : H a = some (.lst xs) := by
  rcases h with h | ⟨q, _⟩
  · exact h
  · exact q.elim
theorem Rx.tup {H : Hp} {a : Addr} {xs : List V} (h : Rx H a (.tup xs)) : H a = some (.tup xs) := by
  rcases h with h | ⟨q, _⟩
  · exact h
  · exact q.elim
/-- what is seen: not owned, not shut off, not the source -/
def Vw (z : Zr) (P O : Addr → Prop) (H : Hp) (a : Addr) (u : HO) : Prop := ¬ O a ∧ ¬ P a ∧ ¬ inS z a ∧ Rx H a u
section
variable {z : Zr} {P O P' O' : Addr → Prop} {H H' H1 : Hp} {a : Addr} {u : HO} {o : HO}
theorem Rx.grow (g : SameS z H H') (n : ¬ inS z a) (h : Rx H a u) : Rx H' a u := by
  rcases h with h | ⟨q, o, h⟩
  · exact .inl (g _ _ n h)
  · exact .inr ⟨q, o, g _ _ n h⟩
theorem Vw.grow (g : SameS z H H') : ∀ a u, Vw z P O H a u → Vw z P O H' a u := fun _ _ ⟨h1, h2, h3, h4⟩ => ⟨h1, h2, h3, Rx.grow g h3 h4⟩
theorem same_new {p : Addr} (h : H p = none) : SameS z H (upd H p o) := fun b u _ e => by
  rw [upd_ne (ne_of_none e h)]; exact e
theorem src_keep (s : Src z H) (g : ∀ b, inS z b → H' b = H b) : Src z H' := by
  cases z with
  | none => trivial
  | some ac =>
    obtain ⟨a, c⟩ := ac
    obtain ⟨ne, cells, l, m, t, h1, h2, h3⟩ := s
    exact ⟨ne, cells, l, m, t, (g a (.inl rfl)).trans h1, (g c (.inr rfl)).trans h2, h3⟩
theorem src_there (s : Src z H) {b : Addr} (h : inS z b) : H b ≠ none := by
  cases z with
  | none => exact h.elim
  | some ac =>
    obtain ⟨a, c⟩ := ac
    obtain ⟨ne, cells, l, m, t, h1, h2, h3⟩ := s
    rcases h with rfl | rfl
    · rw [h1]; exact fun q => nomatch q
    · rw [h2]; exact fun q => nomatch q
theorem src_new {p : Addr} (s : Src z H) (h : H p = none) : Src z (upd H p o) := src_keep s fun b hb => upd_ne fun e => src_there s hb (e ▸ h)
theorem not_src {p : Addr} (s : Src z H) (h : H p = none) : ¬ inS z p := fun q => src_there s q h
end

/-- an owned object: a list, a dict; its parts are seen -/
def Top (z : Zr) (V : Addr → HO → Prop) (E : HO → Prop) : D → Prop
  | .lst ds => ∃ vs, E (.lst vs) ∧ Reps (sa z) V ds vs
  | .dct false kvs => ∃ l, E (.dK l) ∧ RepK (sa z) V kvs l
  | .dct true kvs => ∃ l, E (.dT l) ∧ RepT (sa z) V kvs l
  | _ => False
theorem Top.mono {z : Zr} {V V' : Addr → HO → Prop} {E E' : HO → Prop} {d : D} (h : Top z V E d) (hv : ∀ a u, V a u → V' a u) (he : ∀ u, E u → E' u) : Top z V' E' d := by
  cases d with
  | lst ds => obtain ⟨vs, e, r⟩ := h; exact ⟨vs, he _ e, r.mono hv⟩
  | dct t kvs =>
    cases t
    · obtain ⟨vs, e, r⟩ := h; exact ⟨vs, he _ e, r.mono hv⟩
    · obtain ⟨vs, e, r⟩ := h; exact ⟨vs, he _ e, r.mono hv⟩
  | _ => exact h.elim
/-- a slot -/
def SlOk (z : Zr) (P O : Addr → Prop) (H : Hp) (x : Option V) : Sl → Prop
  | .non => True
  | .sh d => ∃ v, x = some v ∧ Rep (sa z) (Vw z P O H) d v
  | .own d => ∃ p, x = some (.ref p) ∧ O p ∧ Top z (Vw z P O H) (fun u => H p = some u) d
  | .lent d => ∃ p, x = some (.ref p) ∧ O p ∧ Top z (Vw z P O H) (fun u => Rx H p u) d
def Sl.mine : Sl → Bool
  | .own _ => true
  | .lent _ => true
  | _ => false

/-- something stands there, no tuple -/
def Nt (H : Hp) (b : Addr) : Prop := ∃ u, H b = some u ∧ ∀ xs, u ≠ .tup xs
theorem Nt.ne {H : Hp} {b : Addr} (h : Nt H b) : H b ≠ none := by
  obtain ⟨u, e, _⟩ := h
  rw [e]; exact fun q => nomatch q
theorem Nt.grow {z : Zr} {H H' : Hp} {b : Addr} (h : Nt H b) (g : SameS z H H') (n : ¬ inS z b) : Nt H' b := by
  obtain ⟨u, e, q⟩ := h
  exact ⟨u, g b u n e, q⟩
theorem Nt.src {z : Zr} {H : Hp} (s : Src z H) {b : Addr} (h : inS z b) : Nt H b := by
  cases z with
  | none => exact h.elim
  | some ac =>
    obtain ⟨a, c⟩ := ac
    obtain ⟨ne, cells, l, m, t, h1, h2, h3⟩ := s
    rcases h with rfl | rfl
    · exact ⟨_, h1, fun _ q => nomatch q⟩
    · exact ⟨_, h2, fun _ q => nomatch q⟩
structure Rel (z : Zr) (P O : Addr → Prop) (ρ : Ev) (σ : L2.St) (H : Hp) : Prop where
  len : ρ.length = σ.length
  src : Src z H
  own : ∀ b, O b → Nt H b ∧ ¬ inS z b ∧ ¬ P b
  prt : ∀ b, P b → Nt H b
  at_ : ∀ (i : Nat) (s : Sl) (x : Option V), ρ[i]? = some s → σ[i]? = some x → SlOk z P O H x s
  one : ∀ (i j : Nat) (s t : Sl) (p : Addr), ρ[i]? = some s → ρ[j]? = some t → s.mine = true → t.mine = true → σ[i]? = some (some (.ref p)) → σ[j]? = some (some (.ref p)) → i = j
section
variable {z : Zr} {P O : Addr → Prop} {H H' : Hp} {ρ : Ev} {σ : L2.St}
theorem SlOk.grow {x : Option V} {s : Sl} (h : SlOk z P O H x s) (g : SameS z H H') (ho : ∀ b, O b → ¬ inS z b) : SlOk z P O H' x s := by
  cases s with
  | non => trivial
  | sh d => obtain ⟨v, e, r⟩ := h; exact ⟨v, e, r.mono (Vw.grow g)⟩
  | own d => obtain ⟨p, e, o, t⟩ := h; exact ⟨p, e, o, t.mono (Vw.grow g) fun u => g p u (ho p o)⟩
  | lent d => obtain ⟨p, e, o, t⟩ := h; exact ⟨p, e, o, t.mono (Vw.grow g) fun u => Rx.grow g (ho p o)⟩
theorem Rel.grow (R : Rel z P O ρ σ H) (g : SameS z H H') (s : Src z H') : Rel z P O ρ σ H' where
  len := R.len
  src := s
  own := fun b hb => ⟨(R.own b hb).1.grow g (R.own b hb).2.1, (R.own b hb).2⟩
  prt := fun b hb => by
    by_cases q : inS z b
    · exact Nt.src s q
    · exact (R.prt b hb).grow g q
  at_ := fun i s x h1 h2 => (R.at_ i s x h1 h2).grow g fun b hb => (R.own b hb).2.1
  one := R.one
end
/-- borrowed: the top object may be owned, its parts are seen -/
def RepB (z : Zr) (P O : Addr → Prop) (H : Hp) (d : D) (v : V) : Prop :=
  Rep (sa z) (Vw z P O H) d v ∨ ∃ p, v = .ref p ∧ O p ∧ ¬ P p ∧ ¬ inS z p ∧ Top z (Vw z P O H) (fun u => Rx H p u) d
theorem RepB.grow {z : Zr} {P O : Addr → Prop} {H H' : Hp} {d : D} {v : V} (h : RepB z P O H d v) (g : SameS z H H') : RepB z P O H' d v := by
  rcases h with h | ⟨p, e, o, h1, h2, t⟩
  · exact .inl (h.mono (Vw.grow g))
  · exact .inr ⟨p, e, o, h1, h2, t.mono (Vw.grow g) fun u => Rx.grow g h2⟩

/-! ### readings by data -/
abbrev KD (z : Zr) (P O : Addr → Prop) (H : Hp) (Q : VK) : D → Prop := fun d => ∀ v H', SameS z H H' → Src z H' → Rep (sa z) (Vw z P O H') d v → Q v H'
abbrev KB (z : Zr) (P O : Addr → Prop) (H : Hp) (Q : VK) : D → Prop := fun d => ∀ v H', SameS z H H' → Src z H' → RepB z P O H' d v → Q v H'
def tD (f : Ev → T D) : TE := fun σ H Q => ∃ z P O ρ, Rel z P O ρ σ H ∧ WP (f ρ) (KD z P O H Q)
def tB (f : Ev → T D) : TE := fun σ H Q => ∃ z P O ρ, Rel z P O ρ σ H ∧ WP (f ρ) (KB z P O H Q)
def tT (f : Ev → T Bool) : TT := fun σ H Q => ∃ z P O ρ, Rel z P O ρ σ H ∧ WP (f ρ) fun b => ∀ H', SameS z H H' → Src z H' → Q b H'
/-- with one more owned -/
abbrev Ow (O : Addr → Prop) (p : Addr) : Addr → Prop := fun b => O b ∨ b = p
theorem Vw.un {z : Zr} {P O : Addr → Prop} {H : Hp} {p : Addr} : ∀ a u, Vw z P (Ow O p) H a u → Vw z P O H a u := fun _ _ ⟨h1, h2⟩ => ⟨fun h => h1 (.inl h), h2⟩
/-- what was there ahead of p is no p -/
theorem Vw.old {z : Zr} {P O : Addr → Prop} {H H' : Hp} {p : Addr} (hp : H p = none) (g : SameS z H H') : ∀ a u, Vw z P O H a u → Vw z P (Ow O p) H' a u := by
  intro a u h
  obtain ⟨h1, h2, h3, h4⟩ := h
  refine ⟨fun h => ?_, h2, h3, Rx.grow g h3 h4⟩
  rcases h with h | e
  · exact h1 h
  · subst e
    rcases h4 with h4 | ⟨_, o, h4⟩
    · rw [hp] at h4; cases h4
    · rw [hp] at h4; cases h4
/-- a new list or dict -/
def tF (f : Ev → T D) : TE := fun σ H Q => ∃ z P O ρ, Rel z P O ρ σ H ∧ WP (f ρ) fun d => ∀ p H', H p = none → SameS z H H' → Src z H' → Top z (Vw z P (Ow O p) H') (fun u => H' p = some u) d → Q (.ref p) H'
def tDs (f : Ev → T (List D)) : TA := fun σ H Q => ∃ z P O ρ, Rel z P O ρ σ H ∧ WP (f ρ) fun ds => ∀ vs H', SameS z H H' → Src z H' → Reps (sa z) (Vw z P O H') ds vs → Q vs H'
def RepBs (z : Zr) (P O : Addr → Prop) (H : Hp) : List D → List V → Prop
  | [], vs => vs = []
  | d :: ds, vs => ∃ v r, vs = v :: r ∧ RepB z P O H d v ∧ RepBs z P O H ds r
theorem RepBs.grow {z : Zr} {P O : Addr → Prop} {H H' : Hp} (g : SameS z H H') : ∀ {ds : List D} {vs : List V}, RepBs z P O H ds vs → RepBs z P O H' ds vs
  | [], _, h => h
  | _ :: _, _, ⟨v, r, e, q, w⟩ => ⟨v, r, e, q.grow g, w.grow g⟩
def tBs (f : Ev → T (List D)) : TA := fun σ H Q => ∃ z P O ρ, Rel z P O ρ σ H ∧ WP (f ρ) fun ds => ∀ vs H', SameS z H H' → Src z H' → RepBs z P O H' ds vs → Q vs H'
theorem PE.imp {X : Cx} {e : Expr} {t t' : TE} (h : PE X e t) (hi : ∀ σ H Q, t' σ H Q → t σ H Q) : PE X e t' := ⟨fun pins s σ H Q I q => h.run pins s σ H Q I (hi σ H Q q)⟩
theorem PT.imp {X : Cx} {e : Expr} {t t' : TT} (h : PT X e t) (hi : ∀ σ H Q, t' σ H Q → t σ H Q) : PT X e t' := ⟨fun pins s σ H Q I q => h.run pins s σ H Q I (hi σ H Q q)⟩
theorem PA.imp {X : Cx} {e : List Expr} {t t' : TA} (h : PA X e t) (hi : ∀ σ H Q, t' σ H Q → t σ H Q) : PA X e t' := ⟨fun pos pins s σ H Q I q => h.run pos pins s σ H Q I (hi σ H Q q)⟩
theorem PS.imp {X : Cx} {e : Stmt} {t t' : TS} (h : PS X e t) (hi : ∀ D σ H, t' D σ H → t D σ H) : PS X e t' := ⟨fun pins s σ H D I q => h.run pins s σ H D I (hi D σ H q)⟩
theorem PSs.imp {X : Cx} {e : List Stmt} {t t' : TS} (h : PSs X e t) (hi : ∀ D σ H, t' D σ H → t D σ H) : PSs X e t' := ⟨fun pins s σ H D I q => h.run pins s σ H D I (hi D σ H q)⟩
section
variable {X : Cx} {e : Expr} {f : Ev → T D}
/-- what may be kept may be lent -/
theorem sb (h : PE X e (tD f)) : PE X e (tB f) := PE.imp h fun σ H Q ⟨z, P, O, ρ, R, w⟩ => ⟨z, P, O, ρ, R, w.mono fun d k v H' g s r => k v H' g s (.inl r)⟩
/-- a new list or dict may be kept -/
theorem top_rep {z : Zr} {P O : Addr → Prop} {H : Hp} {p : Addr} {d : D} (ho : ¬ O p) (hp : ¬ P p) (hs : ¬ inS z p) (t : Top z (Vw z P O H) (fun u => H p = some u) d) : Rep (sa z) (Vw z P O H) d (.ref p) := by
  cases d with
  | lst ds => obtain ⟨vs, e, r⟩ := t; exact ⟨p, vs, rfl, ⟨ho, hp, hs, .inl e⟩, r⟩
  | dct b kvs =>
    cases b
    · obtain ⟨vs, e, r⟩ := t; exact ⟨p, vs, rfl, ⟨ho, hp, hs, .inl e⟩, r⟩
    · obtain ⟨vs, e, r⟩ := t; exact ⟨p, vs, rfl, ⟨ho, hp, hs, .inl e⟩, r⟩
  | _ => exact t.elim
theorem fd (h : PE X e (tF f)) : PE X e (tD f) := PE.imp h fun σ H Q ⟨z, P, O, ρ, R, w⟩ => ⟨z, P, O, ρ, R, w.mono fun d k p H' hp g s t =>
  k (.ref p) H' g s (top_rep (fun o => (R.own p o).1.ne hp) (fun o => (R.prt p o).ne hp) (not_src R.src hp) (t.mono Vw.un fun _ h => h))⟩
theorem fb (h : PE X e (tF f)) : PE X e (tB f) := sb (fd h)
end

/-! ### names, constants -/
def Ev.at (ρ : Ev) (i : Nat) : Sl := match ρ, i with
  | [], _ => .non
  | x :: _, 0 => x
  | _ :: r, n + 1 => Ev.at r n
theorem Ev.at_get : ∀ {ρ : Ev} {i : Nat} {s : Sl}, ρ.at i = s → s ≠ .non → ρ[i]? = some s
  | [], _, _, h, n => (n (h ▸ rfl)).elim
  | x :: _, 0, _, h, _ => congrArg some h
  | _ :: r, i + 1, s, h, n => by
    show r[i]? = some s
    exact Ev.at_get (ρ := r) (i := i) h n
def fV (i : Nat) : Ev → T D := fun ρ => match ρ.at i with
  | .sh d => .ok d
  | _ => .no
def fVb (i : Nat) : Ev → T D := fun ρ => match ρ.at i with
  | .sh d => .ok d
  | .own d => .ok d
  | .lent d => .ok d
  | .non => .no
def fC (d : D) : Ev → T D := fun _ => .ok d
section
variable {X : Cx} {x : Str} {pos : Pos} {z : Zr} {P O : Addr → Prop} {H : Hp} {ρ : Ev} {σ : L2.St}
theorem Rel.slot (R : Rel z P O ρ σ H) {i : Nat} {s : Sl} (h : ρ[i]? = some s) : ∃ y, σ[i]? = some y ∧ SlOk z P O H y s := by
  have hi : i < ρ.length := (List.getElem?_eq_some_iff.mp h).1
  have hi' : i < σ.length := R.len ▸ hi
  exact ⟨σ[i], List.getElem?_eq_getElem hi', R.at_ i s _ h (List.getElem?_eq_getElem hi')⟩
theorem dv (i : Nat) (hN : X.N[i]? = some x := by rfl) (hv : Vis X.env.scope x := by first | exact Or.inl rfl | exact Or.inr (Or.inl rfl) | exact Or.inr (Or.inr rfl)) (hd : (x == ("__debug__" : Str)) = false := by decide)
    (hcd : (x == ("__classdict__" : Str)) = false := by decide) : PE X (.Name x pos) (tD (fV i)) := PE.imp (pe_var hN hv hd hcd) fun σ H Q ⟨z, P, O, ρ, R, w⟩ => by
  unfold fV at w
  cases e : ρ.at i with
  | sh d =>
    rw [e] at w
    obtain ⟨y, h1, v, h2, r⟩ := R.slot (Ev.at_get e (by intro q; cases q))
    exact ⟨v, by rw [h1, h2], w v H SameS.refl R.src r⟩
  | _ => rw [e] at w; exact w.elim
theorem dvb (i : Nat) (hN : X.N[i]? = some x := by rfl) (hv : Vis X.env.scope x := by first | exact Or.inl rfl | exact Or.inr (Or.inl rfl) | exact Or.inr (Or.inr rfl)) (hd : (x == ("__debug__" : Str)) = false := by decide)
    (hcd : (x == ("__classdict__" : Str)) = false := by decide) : PE X (.Name x pos) (tB (fVb i)) := PE.imp (pe_var hN hv hd hcd) fun σ H Q ⟨z, P, O, ρ, R, w⟩ => by
  unfold fVb at w
  cases e : ρ.at i with
  | sh d =>
    rw [e] at w
    obtain ⟨y, h1, v, h2, r⟩ := R.slot (Ev.at_get e (by intro q; cases q))
    exact ⟨v, by rw [h1, h2], w v H SameS.refl R.src (.inl r)⟩
  | own d =>
    rw [e] at w
    obtain ⟨y, h1, p, h2, o, t⟩ := R.slot (Ev.at_get e (by intro q; cases q))
    exact ⟨.ref p, by rw [h1, h2], w _ H SameS.refl R.src (.inr ⟨p, rfl, o, (R.own p o).2.2, (R.own p o).2.1, t.mono (fun _ _ h => h) fun _ h => .inl h⟩)⟩
  | lent d =>
    rw [e] at w
    obtain ⟨y, h1, p, h2, o, t⟩ := R.slot (Ev.at_get e (by intro q; cases q))
    exact ⟨.ref p, by rw [h1, h2], w _ H SameS.refl R.src (.inr ⟨p, rfl, o, (R.own p o).2.2, (R.own p o).2.1, t⟩)⟩
  | non => rw [e] at w; exact w.elim
theorem di {i j} : PE X (.Constant (.int i) j pos) (tD (fC (.int i))) := PE.imp pe_int fun σ H Q ⟨z, P, O, ρ, R, w⟩ => WP.ok w _ H SameS.refl R.src rfl
theorem dbl {b j} : PE X (.Constant (.bool b) j pos) (tD (fC (.bl b))) := PE.imp pe_bl fun σ H Q ⟨z, P, O, ρ, R, w⟩ => WP.ok w _ H SameS.refl R.src rfl
theorem dno {j} : PE X (.Constant .none j pos) (tD (fC .non)) := PE.imp pe_non fun σ H Q ⟨z, P, O, ρ, R, w⟩ => WP.ok w _ H SameS.refl R.src rfl
theorem dst {s j} : PE X (.Constant (.str s) j pos) (tD (fC (.str s))) := PE.imp pe_str fun σ H Q ⟨z, P, O, ρ, R, w⟩ => WP.ok w _ H SameS.refl R.src rfl
end

/-! ### argument lists -/
def fNil : Ev → T (List D) := fun _ => .ok []
def fCons (f : Ev → T D) (g : Ev → T (List D)) : Ev → T (List D) := fun ρ => (f ρ).bind fun a => (g ρ).bind fun r => .ok (a :: r)
section
variable {X : Cx} {e : Expr} {es : List Expr} {f : Ev → T D} {g : Ev → T (List D)} {pos : Pos}
theorem an : PA X [] (tDs fNil) := PA.imp pa_nil fun σ H Q ⟨z, P, O, ρ, R, w⟩ => WP.ok w [] H SameS.refl R.src rfl
theorem ac (h : PE X e (tD f)) (r : PA X es (tDs g)) (hs : starEach (e :: es) X.env = (false, eval e X.env) :: starEach es X.env := by rfl) : PA X (e :: es) (tDs (fCons f g)) := PA.imp (pa_cons h r hs) fun σ H Q ⟨z, P, O, ρ, R, w⟩ =>
  ⟨z, P, O, ρ, R, (WP.bind w).mono fun d w2 v H1 g1 s1 r1 => ⟨z, P, O, ρ, R.grow g1 s1, (WP.bind w2).mono fun ds w3 vs H2 g2 s2 r2 => WP.ok w3 _ H2 (g1.trans g2) s2 ⟨v, vs, rfl, r1.mono (Vw.grow g2), r2⟩⟩⟩
theorem bn : PA X [] (tBs fNil) := PA.imp pa_nil fun σ H Q ⟨z, P, O, ρ, R, w⟩ => WP.ok w [] H SameS.refl R.src rfl
theorem bc (h : PE X e (tB f)) (r : PA X es (tBs g)) (hs : starEach (e :: es) X.env = (false, eval e X.env) :: starEach es X.env := by rfl) : PA X (e :: es) (tBs (fCons f g)) := PA.imp (pa_cons h r hs) fun σ H Q ⟨z, P, O, ρ, R, w⟩ =>
  ⟨z, P, O, ρ, R, (WP.bind w).mono fun d w2 v H1 g1 s1 r1 => ⟨z, P, O, ρ, R.grow g1 s1, (WP.bind w2).mono fun ds w3 vs H2 g2 s2 r2 => WP.ok w3 _ H2 (g1.trans g2) s2 ⟨v, vs, rfl, r1.grow g2, r2⟩⟩⟩
end
end
end DL

set_option Elab.async false
set_option linter.all false
set_option maxRecDepth 100000
namespace DL
noncomputable section
open PySem PySem.Spec PyProof.Rows L2

/-! ### data: equality -/
def ieq : Int → Int → Bool
  | .ofNat a, .ofNat b => Nat.beq a b
  | .negSucc a, .negSucc b => Nat.beq a b
  | _, _ => false
theorem ieq_iff : ∀ {a b : Int}, ieq a b = true ↔ a = b
  | .ofNat a, .ofNat b => by show Nat.beq a b = true ↔ _; rw [Nat.beq_eq]; exact ⟨fun h => by rw [h], fun h => Int.ofNat.inj h⟩
  | .negSucc a, .negSucc b => by show Nat.beq a b = true ↔ _; rw [Nat.beq_eq]; exact ⟨fun h => by rw [h], fun h => Int.negSucc.inj h⟩
  | .ofNat a, .negSucc b => ⟨fun h => absurd (show false = true from h) Bool.false_ne_true, fun h => by cases h⟩
  | .negSucc a, .ofNat b => ⟨fun h => absurd (show false = true from h) Bool.false_ne_true, fun h => by cases h⟩
theorem ieq_eq {a b : Int} : ieq a b = decide (a = b) := by
  by_cases h : a = b
  · rw [decide_eq_true h]; exact ieq_iff.mpr h
  · rw [decide_eq_false h]; exact Bool.eq_false_iff.mpr fun q => h (ieq_iff.mp q)
def ilt (a b : Int) : Bool := match a, b with
  | .ofNat a, .ofNat b => Nat.blt a b
  | .negSucc _, .ofNat _ => true
  | .ofNat _, .negSucc _ => false
  | .negSucc a, .negSucc b => Nat.blt b a
theorem nblt {a b : Nat} : (Nat.blt a b = true) ↔ a < b := by
  unfold Nat.blt
  rw [Nat.ble_eq]
  exact Iff.rfl
theorem ilt_iff : ∀ {a b : Int}, ilt a b = true ↔ a < b
  | .ofNat a, .ofNat b => by show Nat.blt a b = true ↔ _; rw [nblt]; exact Int.ofNat_lt.symm
  | .negSucc a, .ofNat b => ⟨fun _ => Int.lt_of_lt_of_le (Int.negSucc_lt_zero a) (Int.natCast_nonneg b), fun _ => rfl⟩
  | .ofNat a, .negSucc b => ⟨fun h => absurd (show false = true from h) Bool.false_ne_true, fun h => by have h1 : (Int.ofNat a) < Int.negSucc b := h; have := Int.negSucc_lt_zero b; have h2 : (0 : Int) ≤ Int.ofNat a := Int.natCast_nonneg a; omega⟩
  | .negSucc a, .negSucc b => by show Nat.blt b a = true ↔ _; rw [nblt]; omega
theorem ilt_eq {a b : Int} : ilt a b = decide (a < b) := by
  by_cases h : a < b
  · rw [decide_eq_true h]; exact ilt_iff.mpr h
  · rw [decide_eq_false h]; exact Bool.eq_false_iff.mpr fun q => h (ilt_iff.mp q)
def ile (a b : Int) : Bool := !ilt b a
theorem ile_eq {a b : Int} : ile a b = decide (a ≤ b) := by
  unfold ile; rw [ilt_eq]
  by_cases h : a ≤ b
  · rw [decide_eq_true h, decide_eq_false (by omega)]; rfl
  · rw [decide_eq_false h, decide_eq_true (by omega)]; rfl
theorem ile_iff {a b : Int} : ile a b = true ↔ a ≤ b := by rw [ile_eq]; exact decide_eq_true_iff

mutual
def D.beq : D → D → Bool
  | .non, .non => true
  | .bl a, .bl b => a == b
  | .int a, .int b => ieq a b
  | .str a, .str b => decide (a = b)
  | .tup a, .tup b => D.beqs a b
  | .lst a, .lst b => D.beqs a b
  | .dct s a, .dct t b => s == t && D.beqk a b
  | .txt a, .txt b => D.beq a b
  | .src, .src => true
  | _, _ => false
def D.beqs : List D → List D → Bool
  | [], [] => true
  | a :: r, b :: s => D.beq a b && D.beqs r s
  | _, _ => false
def D.beqk : List (Kd × D) → List (Kd × D) → Bool
  | [], [] => true
  | (k, a) :: r, (j, b) :: s => decide (k = j) && (D.beq a b && D.beqk r s)
  | _, _ => false
end
mutual
theorem D.beq_eq : ∀ {a b : D}, D.beq a b = true → a = b := fun {a b} h => by
  cases a with
  | non => cases b <;> first | rfl | exact absurd (show false = true from h) Bool.false_ne_true
  | bl x => cases b <;> first | exact absurd (show false = true from h) Bool.false_ne_true | skip
            rename_i y; exact congrArg D.bl (by simpa [D.beq] using h)
  | int x => cases b <;> first | exact absurd (show false = true from h) Bool.false_ne_true | skip
             rename_i y; exact congrArg D.int (ieq_iff.mp (by simpa [D.beq] using h))
  | str x => cases b <;> first | exact absurd (show false = true from h) Bool.false_ne_true | skip
             rename_i y; exact congrArg D.str (by simpa [D.beq] using h)
  | tup x => cases b <;> first | exact absurd (show false = true from h) Bool.false_ne_true | skip
             rename_i y; exact congrArg D.tup (D.beqs_eq (by simpa [D.beq] using h))
  | lst x => cases b <;> first | exact absurd (show false = true from h) Bool.false_ne_true | skip
             rename_i y; exact congrArg D.lst (D.beqs_eq (by simpa [D.beq] using h))
  | dct s x => cases b <;> first | exact absurd (show false = true from h) Bool.false_ne_true | skip
               rename_i t y
               rw [D.beq, Bool.and_eq_true] at h
               rw [show s = t by simpa using h.1, D.beqk_eq h.2]
  | txt x => cases b <;> first | exact absurd (show false = true from h) Bool.false_ne_true | skip
             rename_i y; exact congrArg D.txt (D.beq_eq (by simpa [D.beq] using h))
  | src => cases b <;> first | rfl | exact absurd (show false = true from h) Bool.false_ne_true
theorem D.beqs_eq : ∀ {a b : List D}, D.beqs a b = true → a = b
  | [], [], _ => rfl
  | [], _ :: _, h => absurd (show false = true from h) Bool.false_ne_true
  | _ :: _, [], h => absurd (show false = true from h) Bool.false_ne_true
  | a :: r, b :: s, h => by
    rw [D.beqs, Bool.and_eq_true] at h
    rw [D.beq_eq h.1, D.beqs_eq h.2]
theorem D.beqk_eq : ∀ {a b : List (Kd × D)}, D.beqk a b = true → a = b
  | [], [], _ => rfl
  | [], _ :: _, h => absurd (show false = true from h) Bool.false_ne_true
  | _ :: _, [], h => absurd (show false = true from h) Bool.false_ne_true
  | (k, a) :: r, (j, b) :: s, h => by
    rw [D.beqk, Bool.and_eq_true, Bool.and_eq_true] at h
    rw [D.beq_eq h.2.1, D.beqk_eq h.2.2, of_decide_eq_true h.1]
end
mutual
theorem D.beq_self : ∀ (a : D), D.beq a a = true
  | .non => rfl
  | .bl a => by simp [D.beq]
  | .int a => by rw [D.beq]; exact ieq_iff.mpr rfl
  | .str a => by simp [D.beq]
  | .tup a => by rw [D.beq]; exact D.beqs_self a
  | .lst a => by rw [D.beq]; exact D.beqs_self a
  | .dct s a => by rw [D.beq, D.beqk_self a]; simp
  | .txt a => by rw [D.beq]; exact D.beq_self a
  | .src => rfl
theorem D.beqs_self : ∀ (a : List D), D.beqs a a = true
  | [] => rfl
  | a :: r => by rw [D.beqs, D.beq_self a, D.beqs_self r]; rfl
theorem D.beqk_self : ∀ (a : List (Kd × D)), D.beqk a a = true
  | [] => rfl
  | (k, a) :: r => by rw [D.beqk, D.beq_self a, D.beqk_self r]; simp
end

/-! == of data -/
mutual
def deq : D → D → Bool
  | .non, .non => true
  | .bl a, .bl b => a == b
  | .bl a, .int b => ieq (if a then 1 else 0) b
  | .int a, .bl b => ieq a (if b then 1 else 0)
  | .int a, .int b => ieq a b
  | .str a, .str b => decide (a = b)
  | .tup a, .tup b => deqs a b
  | .lst a, .lst b => deqs a b
  | _, _ => false
def deqs : List D → List D → Bool
  | [], [] => true
  | a :: r, b :: s => deq a b && deqs r s
  | _, _ => false
end
/-! no dict, no told text; texts in order; at most n deep -/
mutual
def pl : Nat → D → Bool
  | _, .non => true
  | _, .bl _ => true
  | _, .int _ => true
  | _, .str s => PyData.strOk s
  | n + 1, .tup ds => pls n ds
  | n + 1, .lst ds => pls n ds
  | _, _ => false
def pls : Nat → List D → Bool
  | _, [] => true
  | n, d :: r => pl n d && pls n r
end

/-! ### worlds -/
structure Ws (z : Zr) (P O : Addr → Prop) (H : Hp) : Prop where
  src : Src z H
  own : ∀ b, O b → Nt H b
  prt : ∀ b, P b → Nt H b
section
variable {z : Zr} {P O : Addr → Prop} {H H' : Hp} {ρ : Ev} {σ : L2.St} {p : Addr} {o : HO} {d : D} {ds : List D} {v : V} {vs : List V}
theorem Rel.ws (R : Rel z P O ρ σ H) : Ws z P O H := ⟨R.src, fun b h => (R.own b h).1, R.prt⟩
theorem Ws.new (W : Ws z P O H) (hp : H p = none) : ∀ {u}, Rx (upd H p o) p u → Vw z P O (upd H p o) p u := fun r =>
  ⟨fun h => (W.own p h).ne hp, fun h => (W.prt p h).ne hp, not_src W.src hp, r⟩
theorem Ws.seen (W : Ws z P O H) (hp : H p = none) : Vw z P O (upd H p o) p o := W.new hp (.inl upd_same)
theorem Ws.lst (W : Ws z P O H) (hp : H p = none) (r : Reps (sa z) (Vw z P O H) ds vs) : Rep (sa z) (Vw z P O (upd H p (.lst vs))) (.lst ds) (.ref p) :=
  ⟨p, vs, rfl, W.seen hp, r.mono (Vw.grow (same_new hp))⟩
theorem Ws.tup (W : Ws z P O H) (hp : H p = none) (r : Reps (sa z) (Vw z P O H) ds vs) : Rep (sa z) (Vw z P O (upd H p (.tup vs))) (.tup ds) (.ref p) :=
  ⟨p, vs, rfl, W.seen hp, r.mono (Vw.grow (same_new hp))⟩
theorem KD.new {Q : VK} (W : Ws z P O H) (k : KD z P O H Q d) (hp : H p = none) (r : Rep (sa z) (Vw z P O (upd H p o)) d (.ref p)) : Q (.ref p) (upd H p o) := k _ _ (same_new hp) (src_new W.src hp) r
theorem KD.lst {Q : VK} (W : Ws z P O H) (k : KD z P O H Q (.lst ds)) (r : Reps (sa z) (Vw z P O H) ds vs) : ∀ p, H p = none → Q (.ref p) (upd H p (.lst vs)) := fun p hp => KD.new W k hp (W.lst hp r)
theorem KD.tup {Q : VK} (W : Ws z P O H) (k : KD z P O H Q (.tup ds)) (r : Reps (sa z) (Vw z P O H) ds vs) : ∀ p, H p = none → Q (.ref p) (upd H p (.tup vs)) := fun p hp => KD.new W k hp (W.tup hp r)
theorem KD.self {Q : VK} (W : Ws z P O H) (k : KD z P O H Q d) (r : Rep (sa z) (Vw z P O H) d v) : Q v H := k v H SameS.refl W.src r
end
section
variable {sa' : Option Addr} {R : Addr → HO → Prop}
theorem Reps.length : ∀ {ds : List D} {vs : List V}, Reps sa' R ds vs → vs.length = ds.length
  | [], _, r => by have e : _ = [] := r; rw [e]; rfl
  | _ :: _, _, ⟨v, r, e, _, w⟩ => by rw [e, List.length_cons, List.length_cons, Reps.length w]
theorem Reps.append : ∀ {ds es : List D} {vs ws : List V}, Reps sa' R ds vs → Reps sa' R es ws → Reps sa' R (ds ++ es) (vs ++ ws)
  | [], _, _, _, r, q => by have e : _ = [] := r; rw [e]; exact q
  | _ :: _, _, _, _, ⟨v, r, e, h, w⟩, q => by rw [e]; exact ⟨v, _, rfl, h, Reps.append w q⟩
theorem Reps.take : ∀ {ds : List D} {vs : List V} (n : Nat), Reps sa' R ds vs → Reps sa' R (ds.take n) (vs.take n)
  | ds, vs, 0, _ => by rw [List.take_zero, List.take_zero]; rfl
  | [], _, _ + 1, r => by have e : _ = [] := r; rw [e]; rfl
  | _ :: _, _, n + 1, ⟨v, r, e, h, w⟩ => by rw [e]; exact ⟨v, _, rfl, h, Reps.take n w⟩
theorem Reps.drop : ∀ {ds : List D} {vs : List V} (n : Nat), Reps sa' R ds vs → Reps sa' R (ds.drop n) (vs.drop n)
  | _, _, 0, r => r
  | [], _, _ + 1, r => by have e : _ = [] := r; rw [e]; rfl
  | _ :: _, _, n + 1, ⟨v, r, e, h, w⟩ => by rw [e]; exact Reps.drop n w
theorem Reps.get : ∀ {ds : List D} {vs : List V} {i : Nat} {d : D}, Reps sa' R ds vs → ds[i]? = some d → ∃ v, vs[i]? = some v ∧ Rep sa' R d v
  | [], _, _, _, _, h => by simp at h
  | _ :: _, _, 0, _, ⟨v, r, e, q, w⟩, h => by
    rw [e]; simp at h; subst h; exact ⟨v, rfl, q⟩
  | _ :: _, _, i + 1, d, ⟨v, r, e, q, w⟩, h => by
    rw [e]; simp at h
    obtain ⟨x, h1, h2⟩ := Reps.get w h
    exact ⟨x, by simpa using h1, h2⟩
theorem Reps.getV : ∀ {ds : List D} {vs : List V} {i : Nat} {v : V}, Reps sa' R ds vs → vs[i]? = some v → ∃ d, ds[i]? = some d ∧ Rep sa' R d v
  | [], _, _, _, r, h => by have e : _ = [] := r; rw [e] at h; simp at h
  | d :: _, _, 0, _, ⟨v, r, e, q, w⟩, h => by
    rw [e] at h; simp at h; subst h; exact ⟨d, rfl, q⟩
  | _ :: _, _, i + 1, _, ⟨v, r, e, q, w⟩, h => by
    rw [e] at h; simp at h
    obtain ⟨x, h1, h2⟩ := Reps.getV w h
    exact ⟨x, by simpa using h1, h2⟩
theorem Reps.reverse : ∀ {ds : List D} {vs : List V}, Reps sa' R ds vs → Reps sa' R ds.reverse vs.reverse
  | [], _, r => by have e : _ = [] := r; rw [e]; rfl
  | _ :: _, _, ⟨v, r, e, q, w⟩ => by
    rw [e, List.reverse_cons, List.reverse_cons]
    exact Reps.append (Reps.reverse w) ⟨v, [], rfl, q, rfl⟩
theorem Reps.one {d : D} {v : V} (r : Rep sa' R d v) : Reps sa' R [d] [v] := ⟨v, [], rfl, r, rfl⟩
end
section
variable {z : Zr} {P O : Addr → Prop} {H : Hp} {v : V} {ds : List D} {kvs : List (Kd × D)}
theorem RepB.int {i : Int} (h : RepB z P O H (.int i) v) : v = .int i := h.elim id fun ⟨_, _, _, _, _, t⟩ => t.elim
theorem RepB.bl {i : Bool} (h : RepB z P O H (.bl i) v) : v = .bl i := h.elim id fun ⟨_, _, _, _, _, t⟩ => t.elim
theorem RepB.non (h : RepB z P O H .non v) : v = .non := h.elim id fun ⟨_, _, _, _, _, t⟩ => t.elim
theorem RepB.str {i : Str} (h : RepB z P O H (.str i) v) : v = .str i := h.elim id fun ⟨_, _, _, _, _, t⟩ => t.elim
theorem RepB.txt {i : D} (h : RepB z P O H (.txt i) v) : v = .str (rpr i) := h.elim id fun ⟨_, _, _, _, _, t⟩ => t.elim
theorem RepB.src (h : RepB z P O H .src v) : ∃ a, sa z = some a ∧ v = .ref a := h.elim id fun ⟨_, _, _, _, _, t⟩ => t.elim
theorem RepB.lst (h : RepB z P O H (.lst ds) v) : ∃ a vs, v = .ref a ∧ H a = some (.lst vs) ∧ Reps (sa z) (Vw z P O H) ds vs := by
  rcases h with ⟨a, vs, e, q, r⟩ | ⟨p, e, _, _, _, vs, q, r⟩
  · exact ⟨a, vs, e, q.2.2.2.lst, r⟩
  · exact ⟨p, vs, e, q.lst, r⟩
theorem RepB.tup (h : RepB z P O H (.tup ds) v) : ∃ a vs, v = .ref a ∧ Vw z P O H a (.tup vs) ∧ H a = some (.tup vs) ∧ Reps (sa z) (Vw z P O H) ds vs := by
  rcases h with ⟨a, vs, e, q, r⟩ | ⟨p, e, _, _, _, t⟩
  · exact ⟨a, vs, e, q, q.2.2.2.tup, r⟩
  · exact t.elim
theorem RepB.dctK (h : RepB z P O H (.dct false kvs) v) : ∃ a l, v = .ref a ∧ Rx H a (.dK l) ∧ RepK (sa z) (Vw z P O H) kvs l := by
  rcases h with ⟨a, vs, e, q, r⟩ | ⟨p, e, _, _, _, vs, q, r⟩
  · exact ⟨a, vs, e, q.2.2.2, r⟩
  · exact ⟨p, vs, e, q, r⟩
theorem RepB.dctT (h : RepB z P O H (.dct true kvs) v) : ∃ a l, v = .ref a ∧ Rx H a (.dT l) ∧ RepT (sa z) (Vw z P O H) kvs l := by
  rcases h with ⟨a, vs, e, q, r⟩ | ⟨p, e, _, _, _, vs, q, r⟩
  · exact ⟨a, vs, e, q.2.2.2, r⟩
  · exact ⟨p, vs, e, q, r⟩
end

/-! ### an operator -/
def fBin (fo : D → D → T D) (f g : Ev → T D) : Ev → T D := fun ρ => (f ρ).bind fun a => (g ρ).bind fun b => fo a b
def BinOk (fo : D → D → T D) (r : R2) : Prop := ∀ (z : Zr) (P O : Addr → Prop) (H : Hp) (a b : D) (x y : V) (Q : VK), Ws z P O H → RepB z P O H a x → RepB z P O H b y → WP (fo a b) (KD z P O H Q) → r x y H Q
section
variable {X : Cx} {a b : Expr} {f g : Ev → T D} {pos : Pos} {r : R2} {fo : D → D → T D}
theorem tOp_D (hr : BinOk fo r) {σ : L2.St} {H : Hp} {Q : VK} (h : tD (fBin fo f g) σ H Q) : tOp r (tB f) (tB g) σ H Q := by
  obtain ⟨z, P, O, ρ, R, w⟩ := h
  refine ⟨z, P, O, ρ, R, (WP.bind w).mono fun d w2 x H1 g1 s1 r1 => ?_⟩
  refine ⟨z, P, O, ρ, R.grow g1 s1, (WP.bind w2).mono fun e w3 y H2 g2 s2 r2 => ?_⟩
  exact hr z P O H2 d e x y Q ((R.grow g1 s1).grow g2 s2).ws (r1.grow g2) r2 (w3.mono fun c k v H' g3 s3 r3 => k v H' ((g1.trans g2).trans g3) s3 r3)
theorem d_op {op : Operator} (ho : OpR X (binaryOp op) r) (hr : BinOk fo r) (ha : PE X a (tB f)) (hb : PE X b (tB g)) : PE X (.BinOp a op b pos) (tD (fBin fo f g)) := PE.imp (pe_op ho ha hb) fun _ _ _ => tOp_D hr
theorem d_cmp {op : CmpOp} (ho : OpR X (compareOp op) r) (hr : BinOk fo r) (ha : PE X a (tB f)) (hb : PE X b (tB g)) (hm : behindInMarks op b = false) : PE X (.Compare a [op] [b] pos) (tD (fBin fo f g)) := PE.imp (pe_cmpR ho ha hb hm) fun _ _ _ => tOp_D hr
theorem d_ix (ho : IxR X r) (hr : BinOk fo r) (ha : PE X a (tB f)) (hb : PE X b (tB g)) (hs : PlainIx b) : PE X (.Subscript a b pos) (tD (fBin fo f g)) := PE.imp (pe_ix ho ha hb hs) fun _ _ _ => tOp_D hr
end
def lenOk (n : Nat) : Bool := Nat.ble n sizeLine
theorem lenOk_le {n : Nat} (h : lenOk n = true) : n ≤ sizeLine := Nat.ble_eq ▸ h
def tIf {α : Type} (c : Bool) (m : T α) : T α := match c with
  | true => m
  | false => .no
theorem tIf_w {α : Type} {c : Bool} {m : T α} {Q : α → Prop} (h : WP (tIf c m) Q) : c = true ∧ WP m Q := by
  cases c
  · exact h.elim
  · exact ⟨rfl, h⟩

def dAdd : D → D → T D
  | .int a, .int b => .ok (.int (a + b))
  | .tup a, .tup b => tIf (lenOk (a.length + b.length)) (.ok (.tup (a ++ b)))
  | .lst a, .lst b => tIf (lenOk (a.length + b.length)) (.ok (.lst (a ++ b)))
  | _, _ => .no
def rAdd (X : Cx) : R2 := fun x y H Q => (∃ i j, x = .int i ∧ y = .int j ∧ Q (.int (i + j)) H) ∨ rCatA X.K x y H Q ∨ rCat x y H Q
section
variable {X : Cx}
theorem op_addD : OpR X (binaryOp .Add) (rAdd X) := OpR.or op_add (OpR.or op_catA op_cat)
theorem add_ok : BinOk dAdd (rAdd X) := fun z P O H a b x y Q W ra rb w => by
  cases a <;> cases b <;> first | exact w.elim | skip
  · rename_i i j
    exact .inl ⟨i, j, ra.int, rb.int, KD.self W w rfl⟩
  · rename_i ds es
    obtain ⟨hl, k⟩ := tIf_w w
    have k := k.ok
    obtain ⟨p, vs, ex, vw, hp, rp⟩ := ra.tup
    obtain ⟨q, ws, ey, vw2, hq, rq⟩ := rb.tup
    refine .inr (.inl ⟨p, q, vs, ws, ex, ey, SqT.of hp, SqT.of hq, by rw [rp.length, rq.length]; exact lenOk_le hl, fun e => ?_, fun _ e => ?_, fun _ _ => KD.tup W k (rp.append rq)⟩)
    · have e1 : ds = [] := List.length_eq_zero_iff.mp (by rw [← rp.length, e]; rfl)
      rw [e1] at k
      exact KD.self W k ⟨q, ws, rfl, vw2, rq⟩
    · have e1 : es = [] := List.length_eq_zero_iff.mp (by rw [← rq.length, e]; rfl)
      rw [e1, List.append_nil] at k
      exact KD.self W k ⟨p, vs, rfl, vw, rp⟩
  · rename_i ds es
    obtain ⟨hl, k⟩ := tIf_w w
    obtain ⟨p, vs, ex, hp, rp⟩ := ra.lst
    obtain ⟨q, ws, ey, hq, rq⟩ := rb.lst
    exact .inr (.inr ⟨p, q, vs, ws, ex, ey, hp, hq, by rw [rp.length, rq.length]; exact lenOk_le hl, KD.lst W k.ok (rp.append rq)⟩)
end

/-! ### arithmetic -/
def dSub : D → D → T D
  | .int a, .int b => .ok (.int (a - b))
  | _, _ => .no
def mulOk (a b : Int) : Bool := Nat.blt (a.natAbs.log2 + b.natAbs.log2) 1000000
/-- a list, a tuple repeated -/
def rep {α : Type} (l : List α) : Nat → List α
  | 0 => []
  | n + 1 => l ++ rep l n
def dMul : D → D → T D
  | .int a, .int b => tIf (mulOk a b) (.ok (.int (a * b)))
  | .lst a, .int b => tIf (ilt b 1000000 && ile 0 b && lenOk (a.length * b.toNat)) (.ok (.lst (rep a b.toNat)))
  | _, _ => .no
def dDiv : D → D → T D
  | .int a, .int b => tIf (ilt 0 b && Nat.blt b.natAbs.log2 9000) (.ok (.int (a / b)))
  | _, _ => .no
def dMod : D → D → T D
  | .int a, .int b => tIf (ilt 0 b) (.ok (.int (a % b)))
  | _, _ => .no
def dPow : D → D → T D
  | .int a, .int b => tIf (ile 0 b && ile b 1000000 && ilt a.natAbs 18446744073709551616) (.ok (.int (a ^ b.toNat)))
  | _, _ => .no
def dShl : D → D → T D
  | .int a, .int b => tIf (ile 0 b && ile b 1000000 && ilt a.natAbs 18446744073709551616) (.ok (.int (a * 2 ^ b.toNat)))
  | _, _ => .no
theorem rep_flat {α : Type} (l : List α) : ∀ n, rep l n = (List.replicate n l).flatten
  | 0 => rfl
  | n + 1 => by rw [List.replicate_succ, List.flatten_cons, ← rep_flat l n]; rfl
theorem Reps.rep {sa' : Option Addr} {R : Addr → HO → Prop} {ds : List D} {vs : List V} (h : Reps sa' R ds vs) : ∀ n, Reps sa' R (rep ds n) (DL.rep vs n)
  | 0 => rfl
  | n + 1 => Reps.append h (Reps.rep h n)
section
variable {X : Cx}
theorem op_subD : OpR X (binaryOp .Sub) (rI0 fun i j => .int (i - j)) := op_sub
theorem sub_ok : BinOk dSub (rI0 fun i j => .int (i - j)) := fun z P O H a b x y Q W ra rb w => by
  cases a <;> cases b <;> first | exact w.elim | skip
  exact ⟨_, _, ra.int, rb.int, KD.self W w rfl⟩
def rMul : R2 := fun x y H Q => rI CMulW (fun i j => .int (i * j)) x y H Q ∨ rRep x y H Q
theorem op_mulD : OpR X (binaryOp .Mult) rMul := OpR.or op_mulW op_rep
theorem mul_ok : BinOk dMul rMul := fun z P O H a b x y Q W ra rb w => by
  cases a <;> cases b <;> first | exact w.elim | skip
  · obtain ⟨c, k⟩ := tIf_w w
    exact .inl ⟨_, _, ra.int, rb.int, nblt.mp c, KD.self W k.ok rfl⟩
  · rename_i ds j
    obtain ⟨c, k⟩ := tIf_w w
    rw [Bool.and_eq_true, Bool.and_eq_true] at c
    obtain ⟨⟨c1, c2⟩, c3⟩ := c
    obtain ⟨p, vs, ex, hp, rp⟩ := ra.lst
    have h1 := ilt_iff.mp c1
    have h2 := ile_iff.mp c2
    refine .inr ⟨p, j, vs, ex, rb.int, hp, by omega, by omega, by rw [rp.length]; exact lenOk_le c3, ?_⟩
    rw [← rep_flat]
    exact KD.lst W k.ok (rp.rep _)
theorem div_ok : BinOk dDiv (rI CDivW fun i j => .int (i / j)) := fun z P O H a b x y Q W ra rb w => by
  cases a <;> cases b <;> first | exact w.elim | skip
  obtain ⟨c, k⟩ := tIf_w w
  rw [Bool.and_eq_true] at c
  exact ⟨_, _, ra.int, rb.int, ⟨ilt_iff.mp c.1, nblt.mp c.2⟩, KD.self W k.ok rfl⟩
theorem mod_ok : BinOk dMod (rI (fun _ j => 0 < j) fun i j => .int (i % j)) := fun z P O H a b x y Q W ra rb w => by
  cases a <;> cases b <;> first | exact w.elim | skip
  obtain ⟨c, k⟩ := tIf_w w
  exact ⟨_, _, ra.int, rb.int, ilt_iff.mp c, KD.self W k.ok rfl⟩
theorem pow_cond {i j : Int} (c : (ile 0 j && ile j 1000000 && ilt i.natAbs 18446744073709551616) = true) : CPow i j := by
  rw [Bool.and_eq_true, Bool.and_eq_true] at c
  have h1 := ile_iff.mp c.1.1
  have h2 := ile_iff.mp c.1.2
  have h3 := ilt_iff.mp c.2
  exact ⟨h1, h2, by omega⟩
theorem pow_ok : BinOk dPow (rI CPow fun i j => .int (i ^ j.toNat)) := fun z P O H a b x y Q W ra rb w => by
  cases a <;> cases b <;> first | exact w.elim | skip
  obtain ⟨c, k⟩ := tIf_w w
  exact ⟨_, _, ra.int, rb.int, pow_cond c, KD.self W k.ok rfl⟩
theorem shl_ok : BinOk dShl (rI CPow fun i j => .int (i * 2 ^ j.toNat)) := fun z P O H a b x y Q W ra rb w => by
  cases a <;> cases b <;> first | exact w.elim | skip
  obtain ⟨c, k⟩ := tIf_w w
  exact ⟨_, _, ra.int, rb.int, pow_cond c, KD.self W k.ok rfl⟩
end
/-- a value of one part -/
def fUn (fo : D → T D) (f : Ev → T D) : Ev → T D := fun ρ => (f ρ).bind fo
def dNeg : D → T D
  | .int a => .ok (.int (-a))
  | _ => .no
def UnOk (fo : D → T D) (r : V → Hp → VK → Prop) : Prop := ∀ (z : Zr) (P O : Addr → Prop) (H : Hp) (a : D) (x : V) (Q : VK), Ws z P O H → RepB z P O H a x → WP (fo a) (KD z P O H Q) → r x H Q
section
variable {X : Cx} {a b : Expr} {f g : Ev → T D} {pos : Pos} {r : V → Hp → VK → Prop} {fo : D → T D}
theorem tUn_D (hr : UnOk fo r) {σ : L2.St} {H : Hp} {Q : VK} (h : tD (fUn fo f) σ H Q) : tUn r (tB f) σ H Q := by
  obtain ⟨z, P, O, ρ, R, w⟩ := h
  refine ⟨z, P, O, ρ, R, (WP.bind w).mono fun d w2 x H1 g1 s1 r1 => ?_⟩
  exact hr z P O H1 d x Q (R.grow g1 s1).ws r1 (w2.mono fun c k v H' g3 s3 r3 => k v H' (g1.trans g3) s3 r3)
theorem d_un {op : UnaryOp} (ho : UnR X (unaryOp op) r) (hr : UnOk fo r) (ha : PE X a (tB f)) : PE X (.UnaryOp op a pos) (tD (fUn fo f)) := PE.imp (pe_un ho ha) fun _ _ _ => tUn_D hr
theorem neg_ok : UnOk dNeg (rU fun i => .int (-i)) := fun z P O H a x Q W ra w => by
  cases a <;> first | exact w.elim | skip
  exact ⟨_, ra.int, KD.self W w rfl⟩
end

/-! ### order of ints -/
def dLt : D → D → T D
  | .int a, .int b => .ok (.bl (ilt a b))
  | _, _ => .no
def dLe : D → D → T D
  | .int a, .int b => .ok (.bl (ile a b))
  | _, _ => .no
def dGt : D → D → T D
  | .int a, .int b => .ok (.bl (ilt b a))
  | _, _ => .no
def dGe : D → D → T D
  | .int a, .int b => .ok (.bl (ile b a))
  | _, _ => .no
theorem lt_ok : BinOk dLt (rI0 fun i j => .bl (decide (i < j))) := fun z P O H a b x y Q W ra rb w => by
  cases a <;> cases b <;> first | exact w.elim | skip
  have k := WP.ok w
  rw [ilt_eq] at k
  exact ⟨_, _, ra.int, rb.int, KD.self W k rfl⟩
theorem le_ok : BinOk dLe (rI0 fun i j => .bl (decide (i ≤ j))) := fun z P O H a b x y Q W ra rb w => by
  cases a <;> cases b <;> first | exact w.elim | skip
  have k := WP.ok w
  rw [ile_eq] at k
  exact ⟨_, _, ra.int, rb.int, KD.self W k rfl⟩
theorem gt_ok : BinOk dGt (rI0 fun i j => .bl (decide (j < i))) := fun z P O H a b x y Q W ra rb w => by
  cases a <;> cases b <;> first | exact w.elim | skip
  have k := WP.ok w
  rw [ilt_eq] at k
  exact ⟨_, _, ra.int, rb.int, KD.self W k rfl⟩
theorem ge_ok : BinOk dGe (rI0 fun i j => .bl (decide (j ≤ i))) := fun z P O H a b x y Q W ra rb w => by
  cases a <;> cases b <;> first | exact w.elim | skip
  have k := WP.ok w
  rw [ile_eq] at k
  exact ⟨_, _, ra.int, rb.int, KD.self W k rfl⟩

/-! ### == -/
section
variable {z : Zr} {P O : Addr → Prop} {H : Hp} {K : PySem.W.Frag}
mutual
theorem Rep.dp : ∀ {d : D} {n : Nat} {v : V}, pl n d = true → Rep (sa z) (Vw z P O H) d v → Dp K H v (toPy d)
  | .non, _, _, _, r => by rw [show _ = V.non from r]; exact .non
  | .bl b, _, _, _, r => by rw [show _ = V.bl b from r]; exact .bl b
  | .int i, _, _, _, r => by rw [show _ = V.int i from r]; exact .int i
  | .str s, _, _, _, r => by rw [show _ = V.str s from r]; exact .str s
  | .tup ds, n + 1, _, h, ⟨a, vs, e, q, r⟩ => by
    rw [e]
    exact .tup (SqT.of q.2.2.2.tup) (Reps.dp (n := n) h r)
  | .lst ds, n + 1, _, h, ⟨a, vs, e, q, r⟩ => by
    rw [e]
    exact .lst (SqL.of q.2.2.2.lst) (Reps.dp (n := n) h r)
  | .tup ds, 0, _, h, _ => absurd (show false = true from h) Bool.false_ne_true
  | .lst ds, 0, _, h, _ => absurd (show false = true from h) Bool.false_ne_true
  | .dct _ _, 0, _, h, _ => absurd (show false = true from h) Bool.false_ne_true
  | .txt _, 0, _, h, _ => absurd (show false = true from h) Bool.false_ne_true
  | .src, 0, _, h, _ => absurd (show false = true from h) Bool.false_ne_true
  | .dct _ _, _ + 1, _, h, _ => absurd (show false = true from h) Bool.false_ne_true
  | .txt _, _ + 1, _, h, _ => absurd (show false = true from h) Bool.false_ne_true
  | .src, _ + 1, _, h, _ => absurd (show false = true from h) Bool.false_ne_true
theorem Reps.dp : ∀ {ds : List D} {n : Nat} {vs : List V}, pls n ds = true → Reps (sa z) (Vw z P O H) ds vs → DpAll K H vs (toPys ds)
  | [], _, _, _, r => by rw [show _ = [] from r]; exact .nil
  | d :: ds, n, _, h, ⟨v, r, e, q, w⟩ => by
    rw [pls, Bool.and_eq_true] at h
    rw [e]
    exact .cons (Rep.dp h.1 q) (Reps.dp h.2 w)
end
theorem RepB.dp {d : D} {n : Nat} {v : V} (h : pl n d = true) (r : RepB z P O H d v) : Dp K H v (toPy d) := by
  cases d with
  | lst ds =>
    obtain ⟨a, vs, e, q, r⟩ := r.lst
    cases n with
    | zero => exact absurd (show false = true from h) Bool.false_ne_true
    | succ n => rw [e]; exact .lst (SqL.of q) (Reps.dp (n := n) h r)
  | dct _ _ => cases n <;> exact absurd (show false = true from h) Bool.false_ne_true
  | _ => exact Rep.dp h (r.elim id fun ⟨_, _, _, _, _, t⟩ => t.elim)
end
mutual
theorem pl_lay : ∀ {d : D} {n : Nat}, pl n d = true → (toPy d).canLay0 = true ∧ (toPy d).depth ≤ n
  | .non, _, _ => ⟨rfl, Nat.zero_le _⟩
  | .bl b, _, _ => ⟨rfl, Nat.zero_le _⟩
  | .int i, _, _ => ⟨rfl, Nat.zero_le _⟩
  | .str s, n, h => ⟨by cases n <;> exact h, Nat.zero_le _⟩
  | .tup ds, n + 1, h => by
    obtain ⟨h1, h2⟩ := pls_lay (ds := ds) (n := n) h
    exact ⟨h1, Nat.succ_le_succ h2⟩
  | .lst ds, n + 1, h => by
    obtain ⟨h1, h2⟩ := pls_lay (ds := ds) (n := n) h
    exact ⟨h1, Nat.succ_le_succ h2⟩
  | .tup ds, 0, h => absurd (show false = true from h) Bool.false_ne_true
  | .lst ds, 0, h => absurd (show false = true from h) Bool.false_ne_true
  | .dct _ _, 0, h => absurd (show false = true from h) Bool.false_ne_true
  | .txt _, 0, h => absurd (show false = true from h) Bool.false_ne_true
  | .src, 0, h => absurd (show false = true from h) Bool.false_ne_true
  | .dct _ _, _ + 1, h => absurd (show false = true from h) Bool.false_ne_true
  | .txt _, _ + 1, h => absurd (show false = true from h) Bool.false_ne_true
  | .src, _ + 1, h => absurd (show false = true from h) Bool.false_ne_true
theorem pls_lay : ∀ {ds : List D} {n : Nat}, pls n ds = true → PyData.canLayAll0 (toPys ds) = true ∧ PyData.depthAll (toPys ds) ≤ n
  | [], _, _ => ⟨rfl, Nat.zero_le _⟩
  | d :: ds, n, h => by
    rw [pls, Bool.and_eq_true] at h
    obtain ⟨h1, h2⟩ := pl_lay h.1
    obtain ⟨h3, h4⟩ := pls_lay h.2
    refine ⟨?_, Nat.max_le.mpr ⟨h2, h4⟩⟩
    show (PyData.canLay0 (toPy d) && PyData.canLayAll0 (toPys ds)) = true
    rw [h1, h3]; rfl
end
theorem pl_shaped {d : D} (h : pl 60 d = true) : SeqAt.shaped (toPy d) = true := by
  obtain ⟨h1, h2⟩ := pl_lay h
  unfold SeqAt.shaped
  rw [h1, decide_eq_true (Nat.le_trans h2 (by decide))]; rfl
theorem ieq_beq {a b : Int} : (a == b) = ieq a b := by
  rw [ieq_eq]; rfl
mutual
theorem eqv_deq : ∀ {a b : D} {n m : Nat}, pl n a = true → pl m b = true → PyData.eqv (toPy a) (toPy b) = deq a b := fun {a b n m} ha hb => by
  cases a with
  | non => cases b <;> first | rfl | (cases m <;> exact absurd (show false = true from hb) Bool.false_ne_true)
  | bl x =>
    cases b <;> first | rfl | exact ieq_beq | (cases m <;> exact absurd (show false = true from hb) Bool.false_ne_true)
  | int x =>
    cases b <;> first | rfl | exact ieq_beq | (cases m <;> exact absurd (show false = true from hb) Bool.false_ne_true)
  | str x =>
    cases b <;> first | rfl | skip | (cases m <;> exact absurd (show false = true from hb) Bool.false_ne_true)
  | tup x =>
    cases n with
    | zero => exact absurd (show false = true from ha) Bool.false_ne_true
    | succ n =>
      cases b <;> first | rfl | (cases m <;> exact absurd (show false = true from hb) Bool.false_ne_true) | skip
      cases m with
      | zero => exact absurd (show false = true from hb) Bool.false_ne_true
      | succ m => exact eqvs_deqs (n := n) (m := m) ha hb
  | lst x =>
    cases n with
    | zero => exact absurd (show false = true from ha) Bool.false_ne_true
    | succ n =>
      cases b <;> first | rfl | (cases m <;> exact absurd (show false = true from hb) Bool.false_ne_true) | skip
      cases m with
      | zero => exact absurd (show false = true from hb) Bool.false_ne_true
      | succ m => exact eqvs_deqs (n := n) (m := m) ha hb
  | _ => cases n <;> exact absurd (show false = true from ha) Bool.false_ne_true
theorem eqvs_deqs : ∀ {a b : List D} {n m : Nat}, pls n a = true → pls m b = true → PyData.eqvAll (toPys a) (toPys b) = deqs a b
  | [], [], _, _, _, _ => rfl
  | [], _ :: _, _, _, _, _ => rfl
  | _ :: _, [], _, _, _, _ => rfl
  | a :: r, b :: s, n, m, ha, hb => by
    rw [pls, Bool.and_eq_true] at ha hb
    show (PyData.eqv (toPy a) (toPy b) && PyData.eqvAll (toPys r) (toPys s)) = (deq a b && deqs r s)
    rw [eqv_deq ha.1 hb.1, eqvs_deqs ha.2 hb.2]
end
/-- x == y: data; told texts of the same -/
def eqT (neg : Bool) : D → D → T D
  | .txt a, .txt b => tIf (D.beq a b) (.ok (.bl (!neg)))
  | a, b => tIf (pl 60 a && pl 60 b) (.ok (.bl (if neg then !deq a b else deq a b)))
def dEq : D → D → T D := eqT false
def dNe : D → D → T D := eqT true
def rEqA (X : Cx) : R2 := fun x y H Q => rEqD X.K x y H Q ∨ rEq x y H Q
def rNeA (X : Cx) : R2 := fun x y H Q => rNeD X.K x y H Q ∨ rNe x y H Q
theorem op_eqA {X : Cx} (hu : X.A.units + 64 < cLine) : OpR X (compareOp .Eq) (rEqA X) := OpR.or (op_eqD hu) op_eq
theorem op_neA {X : Cx} (hu : X.A.units + 64 < cLine) : OpR X (compareOp .NotEq) (rNeA X) := OpR.or (op_neD hu) op_ne
theorem eqT_plain {neg : Bool} {a b : D} {Q : D → Prop} (w : WP (eqT neg a b) Q) : (∃ c, a = .txt c ∧ b = .txt c ∧ Q (.bl (!neg))) ∨ (pl 60 a = true ∧ pl 60 b = true ∧ Q (.bl (if neg then !deq a b else deq a b))) := by
  unfold eqT at w
  split at w
  · obtain ⟨c, k⟩ := tIf_w w
    rw [D.beq_eq c]
    exact .inl ⟨_, rfl, rfl, k⟩
  · obtain ⟨c, k⟩ := tIf_w w
    rw [Bool.and_eq_true] at c
    exact .inr ⟨c.1, c.2, k⟩
theorem eq_ok {X : Cx} : BinOk dEq (rEqA X) := fun z P O H a b x y Q W ra rb w => by
  rcases eqT_plain w with ⟨c, rfl, rfl, k⟩ | ⟨c1, c2, k⟩
  · refine .inr ⟨?_, ?_⟩
    · rw [ra.txt, rb.txt]; rfl
    · rw [ra.txt, rb.txt, decide_eq_true rfl]
      exact KD.self W k rfl
  · refine .inl ⟨_, _, ra.dp c1, rb.dp c2, pl_shaped c1, pl_shaped c2, ?_⟩
    rw [eqv_deq c1 c2]
    exact KD.self W k rfl
theorem ne_ok {X : Cx} : BinOk dNe (rNeA X) := fun z P O H a b x y Q W ra rb w => by
  rcases eqT_plain w with ⟨c, rfl, rfl, k⟩ | ⟨c1, c2, k⟩
  · refine .inr ⟨?_, ?_⟩
    · rw [ra.txt, rb.txt]; rfl
    · rw [ra.txt, rb.txt, decide_eq_true rfl]
      exact KD.self W k rfl
  · refine .inl ⟨_, _, ra.dp c1, rb.dp c2, pl_shaped c1, pl_shaped c2, ?_⟩
    rw [eqv_deq c1 c2]
    exact KD.self W k rfl
end
end DL

set_option Elab.async false
set_option linter.all false
set_option maxRecDepth 100000
namespace DL
noncomputable section
open PySem PySem.Spec PyProof.Rows L2

/-! ### dicts by data -/
def keyq : Key → Key → Bool
  | .inl a, .inl b => ieq a b
  | .inr a, .inr b => decide (a = b)
  | _, _ => false
theorem keyq_iff {a b : Key} : keyq a b = true ↔ a = b := by
  cases a <;> cases b
  · exact ⟨fun h => congrArg Sum.inl (ieq_iff.mp h), fun h => ieq_iff.mpr (Sum.inl.inj h)⟩
  · exact ⟨fun h => absurd (show false = true from h) Bool.false_ne_true, fun h => by cases h⟩
  · exact ⟨fun h => absurd (show false = true from h) Bool.false_ne_true, fun h => by cases h⟩
  · exact ⟨fun h => congrArg Sum.inr (of_decide_eq_true h), fun h => decide_eq_true (Sum.inr.inj h)⟩
def keyqs : List Key → List Key → Bool
  | [], [] => true
  | a :: r, b :: s => keyq a b && keyqs r s
  | _, _ => false
theorem keyqs_iff : ∀ {a b : List Key}, keyqs a b = true ↔ a = b
  | [], [] => ⟨fun _ => rfl, fun _ => rfl⟩
  | [], _ :: _ => ⟨fun h => absurd (show false = true from h) Bool.false_ne_true, fun h => by cases h⟩
  | _ :: _, [] => ⟨fun h => absurd (show false = true from h) Bool.false_ne_true, fun h => by cases h⟩
  | a :: r, b :: s => by
    rw [keyqs, Bool.and_eq_true, keyq_iff, keyqs_iff, List.cons.injEq]
def keq : Kd → Kd → Bool
  | .k a, .k b => keyq a b
  | .t a, .t b => keyqs a b
  | _, _ => false
theorem keq_k {a b : Key} : keq (.k a) (.k b) = decide (a = b) := by
  by_cases h : a = b
  · rw [decide_eq_true h]; exact keyq_iff.mpr h
  · rw [decide_eq_false h]; exact Bool.eq_false_iff.mpr fun q => h (keyq_iff.mp q)
theorem keq_t {a b : List Key} : keq (.t a) (.t b) = decide (a = b) := by
  by_cases h : a = b
  · rw [decide_eq_true h]; exact keyqs_iff.mpr h
  · rw [decide_eq_false h]; exact Bool.eq_false_iff.mpr fun q => h (keyqs_iff.mp q)
theorem keq_iff {a b : Kd} : keq a b = true ↔ a = b := by
  cases a <;> cases b
  · rw [keq_k]; simp
  · exact ⟨fun h => absurd (show false = true from h) Bool.false_ne_true, fun h => by cases h⟩
  · exact ⟨fun h => absurd (show false = true from h) Bool.false_ne_true, fun h => by cases h⟩
  · rw [keq_t]; simp
def lookD : List (Kd × D) → Kd → Option D
  | [], _ => none
  | (k, d) :: r, j => match keq k j with
    | true => some d
    | false => lookD r j
def hasD (l : List (Kd × D)) (j : Kd) : Bool := (lookD l j).isSome
def setD : List (Kd × D) → Kd → D → List (Kd × D)
  | [], _, _ => []
  | (k, d) :: r, j, e => (k, match keq k j with
    | true => e
    | false => d) :: setD r j e
def putD (l : List (Kd × D)) (j : Kd) (e : D) : List (Kd × D) := match hasD l j with
  | true => setD l j e
  | false => l ++ [(j, e)]
def mergeD (l : List (Kd × D)) : List (Kd × D) → List (Kd × D)
  | [] => l
  | (k, d) :: r => mergeD (putD l k d) r
/-- the key that a value is -/
def key1 : D → Option Key
  | .int i => some (.inl i)
  | .str s => some (.inr s)
  | _ => none
def key2 : List D → Option (List Key)
  | [] => some []
  | d :: r => match key1 d with
    | some k => (key2 r).map (k :: ·)
    | none => none
def keyOf (tk : Bool) : D → Option Kd
  | .tup ds => match tk with
    | true => (key2 ds).map Kd.t
    | false => none
  | d => match tk with
    | true => none
    | false => (key1 d).map Kd.k
section
variable {sa' : Option Addr} {R : Addr → HO → Prop}
theorem key1_v {d : D} {k : Key} {v : V} (h : key1 d = some k) (r : Rep sa' R d v) : v = kV k := by
  cases d <;> cases h <;> exact r
theorem key2_v : ∀ {ds : List D} {ks : List Key} {vs : List V}, key2 ds = some ks → Reps sa' R ds vs → vs = ks.map kV
  | [], _, _, h, r => by cases h; exact r
  | d :: ds, ks, vs, h, ⟨v, r, e, q, w⟩ => by
    unfold key2 at h
    cases h1 : key1 d with
    | none => rw [h1] at h; cases h
    | some k =>
      rw [h1] at h
      cases h2 : key2 ds with
      | none => rw [h2] at h; cases h
      | some ks' =>
        rw [h2] at h
        cases h
        rw [e, key1_v h1 q, key2_v h2 w]; rfl
theorem RepK.look : ∀ {kvs : List (Kd × D)} {l : List (Key × V)} (k : Key), RepK sa' R kvs l → (∃ d v, lookD kvs (.k k) = some d ∧ valV l k = some v ∧ Rep sa' R d v) ∨ (lookD kvs (.k k) = none ∧ valV l k = none)
  | [], _, k, r => by rw [show _ = [] from r]; exact .inr ⟨rfl, rfl⟩
  | (_, d) :: r, _, k, ⟨q, v, r', e, ek, w, t⟩ => by
    subst ek
    rw [e, lookD, keq_k]
    by_cases h : q = k
    · rw [decide_eq_true h, valV_pos (p := (q, v)) h]
      exact .inl ⟨d, v, rfl, rfl, w⟩
    · rw [decide_eq_false h, valV_neg (p := (q, v)) h]
      exact RepK.look k t
theorem RepT.look : ∀ {kvs : List (Kd × D)} {l : List (List Key × V)} (k : List Key), RepT sa' R kvs l → (∃ d v, lookD kvs (.t k) = some d ∧ valV l k = some v ∧ Rep sa' R d v) ∨ (lookD kvs (.t k) = none ∧ valV l k = none)
  | [], _, k, r => by rw [show _ = [] from r]; exact .inr ⟨rfl, rfl⟩
  | (_, d) :: r, _, k, ⟨q, v, r', e, ek, w, t⟩ => by
    subst ek
    rw [e, lookD, keq_t]
    by_cases h : q = k
    · rw [decide_eq_true h, valV_pos (p := (q, v)) h]
      exact .inl ⟨d, v, rfl, rfl, w⟩
    · rw [decide_eq_false h, valV_neg (p := (q, v)) h]
      exact RepT.look k t
theorem RepK.setK {e : D} {y : V} (re : Rep sa' R e y) (k : Key) : ∀ {kvs : List (Kd × D)} {l : List (Key × V)}, RepK sa' R kvs l → RepK sa' R (setD kvs (.k k) e) (l.map fun kv => if kv.1 = k then (kv.1, y) else kv)
  | [], _, r => by rw [show _ = [] from r]; rfl
  | (_, d) :: r, _, ⟨q, v, r', ee, ek, w, t⟩ => by
    subst ek
    rw [ee, setD, keq_k, List.map_cons]
    by_cases h : q = k
    · rw [decide_eq_true h, if_pos h]
      exact ⟨q, y, _, rfl, rfl, re, RepK.setK re k t⟩
    · rw [decide_eq_false h, if_neg h]
      exact ⟨q, v, _, rfl, rfl, w, RepK.setK re k t⟩
theorem RepT.setK {e : D} {y : V} (re : Rep sa' R e y) (k : List Key) : ∀ {kvs : List (Kd × D)} {l : List (List Key × V)}, RepT sa' R kvs l → RepT sa' R (setD kvs (.t k) e) (l.map fun kv => if kv.1 = k then (kv.1, y) else kv)
  | [], _, r => by rw [show _ = [] from r]; rfl
  | (_, d) :: r, _, ⟨q, v, r', ee, ek, w, t⟩ => by
    subst ek
    rw [ee, setD, keq_t, List.map_cons]
    by_cases h : q = k
    · rw [decide_eq_true h, if_pos h]
      exact ⟨q, y, _, rfl, rfl, re, RepT.setK re k t⟩
    · rw [decide_eq_false h, if_neg h]
      exact ⟨q, v, _, rfl, rfl, w, RepT.setK re k t⟩
theorem RepK.app : ∀ {kvs kws : List (Kd × D)} {l m : List (Key × V)}, RepK sa' R kvs l → RepK sa' R kws m → RepK sa' R (kvs ++ kws) (l ++ m)
  | [], _, _, _, r, q => by rw [show _ = [] from r]; exact q
  | (_, d) :: r, _, _, _, ⟨q, v, r', ee, ek, w, t⟩, z => by rw [ee]; exact ⟨q, v, _, rfl, ek, w, RepK.app t z⟩
theorem RepT.app : ∀ {kvs kws : List (Kd × D)} {l m : List (List Key × V)}, RepT sa' R kvs l → RepT sa' R kws m → RepT sa' R (kvs ++ kws) (l ++ m)
  | [], _, _, _, r, q => by rw [show _ = [] from r]; exact q
  | (_, d) :: r, _, _, _, ⟨q, v, r', ee, ek, w, t⟩, z => by rw [ee]; exact ⟨q, v, _, rfl, ek, w, RepT.app t z⟩
theorem RepK.put {kvs : List (Kd × D)} {l : List (Key × V)} {e : D} {y : V} (h : RepK sa' R kvs l) (k : Key) (re : Rep sa' R e y) : RepK sa' R (putD kvs (.k k) e) (putK l k y) := by
  unfold putD putK hasD
  rw [valV_any]
  rcases h.look k with ⟨d, v, h1, h2, _⟩ | ⟨h1, h2⟩
  · rw [h1, h2]; exact h.setK re k
  · rw [h1, h2]; exact h.app ⟨k, y, [], rfl, rfl, re, rfl⟩
theorem RepT.put {kvs : List (Kd × D)} {l : List (List Key × V)} {e : D} {y : V} (h : RepT sa' R kvs l) (k : List Key) (re : Rep sa' R e y) : RepT sa' R (putD kvs (.t k) e) (putK l k y) := by
  unfold putD putK hasD
  rw [valV_any]
  rcases h.look k with ⟨d, v, h1, h2, _⟩ | ⟨h1, h2⟩
  · rw [h1, h2]; exact h.setK re k
  · rw [h1, h2]; exact h.app ⟨k, y, [], rfl, rfl, re, rfl⟩
theorem RepK.merge : ∀ {kws kvs : List (Kd × D)} {l m : List (Key × V)}, RepK sa' R kvs l → RepK sa' R kws m → RepK sa' R (mergeD kvs kws) (mergeK l m)
  | [], _, _, _, h, r => by rw [show _ = [] from r]; exact h
  | (_, d) :: r, _, _, _, h, ⟨q, v, r', ee, ek, w, t⟩ => by
    subst ek
    rw [ee]
    have z := RepK.merge (h.put q w) t
    exact z
theorem RepK.len : ∀ {kvs : List (Kd × D)} {l : List (Key × V)}, RepK sa' R kvs l → l.length = kvs.length
  | [], _, r => by rw [show _ = [] from r]; rfl
  | (_, d) :: r, _, ⟨q, v, r', ee, ek, w, t⟩ => by rw [ee, List.length_cons, List.length_cons, RepK.len t]
theorem RepT.len : ∀ {kvs : List (Kd × D)} {l : List (List Key × V)}, RepT sa' R kvs l → l.length = kvs.length
  | [], _, r => by rw [show _ = [] from r]; rfl
  | (_, d) :: r, _, ⟨q, v, r', ee, ek, w, t⟩ => by rw [ee, List.length_cons, List.length_cons, RepT.len t]
end
section
variable {z : Zr} {P O : Addr → Prop} {H : Hp} {x y : V} {tk : Bool} {kvs : List (Kd × D)} {k : Kd} {d : D}
/-- looking up in a dict -/
theorem RepB.get (h : RepB z P O H (.dct tk kvs) x) (hk : keyOf tk d = some k) (rd : RepB z P O H d y) : ∃ a, x = .ref a ∧ ((∃ e v, lookD kvs k = some e ∧ DGet H a y (some v) ∧ Rep (sa z) (Vw z P O H) e v) ∨ (lookD kvs k = none ∧ DGet H a y none)) := by
  cases tk
  · obtain ⟨a, l, e, q, r⟩ := h.dctK
    have hk' : (key1 d).map Kd.k = some k := by cases d <;> first | exact hk | (cases hk; done)
    cases h1 : key1 d with
    | none => rw [h1] at hk'; cases hk'
    | some j =>
      rw [h1] at hk'
      cases hk'
      have ey : y = kV j := key1_v (R := Vw z P O H) (sa' := sa z) h1 (by cases d <;> first | exact rd.int | exact rd.str | (cases h1; done))
      refine ⟨a, e, ?_⟩
      rcases r.look j with ⟨d', v, h2, h3, h4⟩ | ⟨h2, h3⟩
      · exact .inl ⟨d', v, h2, .inl ⟨l, j, q.rd, ey, h3.symm⟩, h4⟩
      · exact .inr ⟨h2, .inl ⟨l, j, q.rd, ey, h3.symm⟩⟩
  · obtain ⟨a, l, e, q, r⟩ := h.dctT
    cases d <;> first | (cases hk; done) | skip
    rename_i ds
    have hk' : (key2 ds).map Kd.t = some k := hk
    cases h1 : key2 ds with
    | none => rw [h1] at hk'; cases hk'
    | some j =>
      rw [h1] at hk'
      cases hk'
      obtain ⟨b, vs, eb, vw, hb, rb⟩ := rd.tup
      rw [key2_v h1 rb] at hb
      refine ⟨a, e, ?_⟩
      rcases r.look j with ⟨d', v, h2, h3, h4⟩ | ⟨h2, h3⟩
      · exact .inl ⟨d', v, h2, .inr ⟨l, j, b, q.rd, eb, hb, h3.symm⟩, h4⟩
      · exact .inr ⟨h2, .inr ⟨l, j, b, q.rd, eb, hb, h3.symm⟩⟩
end

/-! ### in -/
def flat : D → Bool
  | .non => true
  | .bl _ => true
  | .int _ => true
  | .str _ => true
  | _ => false
def anyq (x : D) : List D → Bool
  | [] => false
  | d :: r => match deq d x with
    | true => true
    | false => anyq x r
def dInN (neg : Bool) : D → D → T D
  | x, .dct tk kvs => match keyOf tk x with
    | some k => .ok (.bl (if neg then !hasD kvs k else hasD kvs k))
    | none => .no
  | x, .lst ds => tIf (pl 59 x && pls 59 ds) (.ok (.bl (if neg then !anyq x ds else anyq x ds)))
  | x, .tup ds => tIf (flat x && ds.all flat) (.ok (.bl (if neg then !anyq x ds else anyq x ds)))
  | _, _ => .no
def rDin (neg : Bool) : R2 := fun y x H Q => ∃ a o, x = .ref a ∧ DGet H a y o ∧ Q (.bl (if neg then !o.isSome else o.isSome)) H
section
variable {X : Cx}
theorem op_din (hu : X.A.units + 1 < cLine) : OpR X (compareOp .In) (rDin false) := fun pins s σ H y x u v Q I ry rx h => by
  obtain ⟨a, o, rfl, g, q⟩ := h
  cases rx
  exact d_in hu I g ry fun s' I' => ⟨.bl _, H, I', rfl, q⟩
theorem op_dnotin (hu : X.A.units + 1 < cLine) : OpR X (compareOp .NotIn) (rDin true) := fun pins s σ H y x u v Q I ry rx h => by
  obtain ⟨a, o, rfl, g, q⟩ := h
  cases rx
  exact d_notIn hu I g ry fun s' I' => ⟨.bl _, H, I', rfl, q⟩
def rInA (X : Cx) : R2 := fun x y H Q => rDin false x y H Q ∨ rInD X.K x y H Q ∨ rIn X.K false x y H Q
def rNotInA (X : Cx) : R2 := fun x y H Q => rDin true x y H Q ∨ rNotInD X.K x y H Q ∨ rIn X.K true x y H Q
theorem op_inA (hu : X.A.units + 65 < cLine) : OpR X (compareOp .In) (rInA X) := OpR.or (op_din (by omega)) (OpR.or (op_inD hu) op_in_seq)
theorem op_notInA (hu : X.A.units + 65 < cLine) : OpR X (compareOp .NotIn) (rNotInA X) := OpR.or (op_dnotin (by omega)) (OpR.or (op_notInD hu) op_notIn_seq)
end
theorem any_anyq {x : D} {n : Nat} (hx : pl n x = true) : ∀ {ds : List D} {m : Nat}, pls m ds = true → ((toPys ds).any fun z => PyData.eqv z (toPy x)) = anyq x ds
  | [], _, _ => rfl
  | d :: r, m, h => by
    rw [pls, Bool.and_eq_true] at h
    show (PyData.eqv (toPy d) (toPy x) || (toPys r).any fun z => PyData.eqv z (toPy x)) = _
    rw [eqv_deq h.1 hx, any_anyq hx h.2, anyq]
    cases deq d x <;> rfl
theorem flat_V {sa' : Option Addr} {R : Addr → HO → Prop} {d : D} {v : V} (h : flat d = true) (r : Rep sa' R d v) : flatV v = true := by
  cases d <;> first | (exact absurd (show false = true from h) Bool.false_ne_true) | (rw [show v = _ from r]; rfl)
theorem flat_eq {sa' : Option Addr} {R : Addr → HO → Prop} {d e : D} {v w : V} (h : flat d = true) (h' : flat e = true) (r : Rep sa' R d v) (r' : Rep sa' R e w) : eqV v w = deq d e := by
  cases d <;> first | (exact absurd (show false = true from h) Bool.false_ne_true) | skip
  all_goals cases e <;> first | (exact absurd (show false = true from h') Bool.false_ne_true) | skip
  all_goals rw [show v = _ from r, show w = _ from r']
  all_goals first | rfl | exact ieq_beq | exact Bool.beq_eq_decide_eq _ _
theorem flats_V {sa' : Option Addr} {R : Addr → HO → Prop} : ∀ {ds : List D} {vs : List V}, ds.all flat = true → Reps sa' R ds vs → vs.all flatV = true
  | [], _, _, r => by rw [show _ = [] from r]; rfl
  | d :: ds, _, h, ⟨v, r, e, q, w⟩ => by
    rw [List.all_cons, Bool.and_eq_true] at h
    rw [e, List.all_cons, flat_V h.1 q, flats_V h.2 w]; rfl
theorem inV_anyq {sa' : Option Addr} {R : Addr → HO → Prop} {x : D} {v : V} (hx : flat x = true) (rx : Rep sa' R x v) : ∀ {ds : List D} {vs : List V}, ds.all flat = true → Reps sa' R ds vs → inV v vs = anyq x ds
  | [], _, _, r => by rw [show _ = [] from r]; rfl
  | d :: ds, _, h, ⟨u, r, e, q, w⟩ => by
    rw [List.all_cons, Bool.and_eq_true] at h
    rw [e]
    show (eqV u v || inV v r) = anyq x (d :: ds)
    rw [flat_eq h.1 hx q rx, inV_anyq hx rx h.2 w, anyq]
    cases deq d x <;> rfl
theorem RepB.flat {z : Zr} {P O : Addr → Prop} {H : Hp} {d : D} {v : V} (h : flat d = true) (r : RepB z P O H d v) : Rep (sa z) (Vw z P O H) d v := by
  cases d <;> first | (exact absurd (show false = true from h) Bool.false_ne_true) | exact r.elim id fun ⟨_, _, _, _, _, t⟩ => t.elim
theorem pl_lst {n : Nat} {ds : List D} (h : pls n ds = true) : pl (n + 1) (.lst ds) = true := h
theorem pl_up : ∀ {d : D} {n : Nat}, pl n d = true → SeqAt.shaped (toPy d) = true ∨ 64 < n := fun {d n} h => by
  obtain ⟨h1, h2⟩ := pl_lay h
  by_cases q : n ≤ 64
  · left
    unfold SeqAt.shaped
    rw [h1, decide_eq_true (Nat.le_trans h2 q)]; rfl
  · right; omega
theorem pl_sh {d : D} {n : Nat} (hn : n ≤ 64) (h : pl n d = true) : SeqAt.shaped (toPy d) = true := (pl_up h).elim id fun q => absurd q (by omega)
theorem in_core {X : Cx} {neg : Bool} {z : Zr} {P O : Addr → Prop} {H : Hp} {a b : D} {x y : V} {Q : VK} (W : Ws z P O H) (ra : RepB z P O H a x) (rb : RepB z P O H b y) (w : WP (dInN neg a b) (KD z P O H Q)) :
    rDin neg x y H Q ∨ (∃ d ds, Dp X.K H x d ∧ Dp X.K H y (.list ds) ∧ SeqAt.shaped d = true ∧ SeqAt.shaped (.list ds) = true ∧ Q (.bl (if neg then !(ds.any fun z => PyData.eqv z d) else ds.any fun z => PyData.eqv z d)) H) ∨ rIn X.K neg x y H Q := by
  cases b <;> first | exact w.elim | skip
  · rename_i ds
    obtain ⟨c, k⟩ := tIf_w w
    rw [Bool.and_eq_true] at c
    obtain ⟨p, vs, e, vw, hp, r⟩ := rb.tup
    refine .inr (.inr ⟨p, vs, e, .inr (SqT.of hp), flat_V c.1 (ra.flat c.1), flats_V c.2 r, ?_⟩)
    rw [inV_anyq c.1 (ra.flat c.1) c.2 r]
    exact KD.self W k.ok rfl
  · rename_i ds
    obtain ⟨c, k⟩ := tIf_w w
    rw [Bool.and_eq_true] at c
    refine .inr (.inl ⟨toPy a, toPys ds, ra.dp c.1, RepB.dp (d := .lst ds) (pl_lst c.2) rb, pl_sh (by decide) c.1, pl_sh (d := .lst ds) (by decide) (pl_lst c.2), ?_⟩)
    rw [any_anyq c.1 c.2]
    exact KD.self W k.ok rfl
  · rename_i tk kvs
    have w' : WP (match keyOf tk a with
      | some k => T.ok (D.bl (if neg then !hasD kvs k else hasD kvs k))
      | none => .no) (KD z P O H Q) := w
    cases hk : keyOf tk a with
    | none => rw [hk] at w'; exact w'.elim
    | some k =>
      rw [hk] at w'
      have kk := w'.ok
      unfold hasD at kk
      obtain ⟨p, e, h⟩ := rb.get hk ra
      rcases h with ⟨d', v, h1, h2, h3⟩ | ⟨h1, h2⟩
      · rw [h1] at kk
        exact .inl ⟨p, _, e, h2, KD.self W kk rfl⟩
      · rw [h1] at kk
        exact .inl ⟨p, _, e, h2, KD.self W kk rfl⟩
theorem in_ok {X : Cx} : BinOk (dInN false) (rInA X) := fun z P O H a b x y Q W ra rb w => in_core W ra rb w
theorem notin_ok {X : Cx} : BinOk (dInN true) (rNotInA X) := fun z P O H a b x y Q W ra rb w => in_core W ra rb w

/-! ### is -/
def dIs (neg : Bool) : D → D → T D
  | .txt _, .non => .ok (.bl neg)
  | .src, .non => .no
  | .non, .non => .ok (.bl (!neg))
  | _, .non => .ok (.bl neg)
  | .bl a, .bl b => .ok (.bl (if neg then !(a == b) else a == b))
  | _, _ => .no
def rIsA (neg : Bool) : R2 := fun x y H Q => (y = .non ∧ Q (.bl (if neg then !decide (x = .non) else decide (x = .non))) H) ∨ ∃ a b, x = .bl a ∧ y = .bl b ∧ Q (.bl (if neg then !decide (a = b) else decide (a = b))) H
section
variable {X : Cx}
theorem op_isA : OpR X (compareOp .Is) (rIsA false) := OpR.or op_isN op_is_bl
theorem op_isnotA : OpR X (compareOp .IsNot) (rIsA true) := OpR.or op_notN op_isnot_bl
end
theorem is_ok {neg : Bool} : BinOk (dIs neg) (rIsA neg) := fun z P O H a b x y Q W ra rb w => by
  cases b <;> first | (cases a <;> exact (WP.ok w : False).elim) | (cases a <;> exact (show False from w).elim) | skip
  · have ey : y = .non := rb.non
    cases a <;> first | exact (show False from w).elim | skip
    · have e : x = .non := ra.non
      refine .inl ⟨ey, ?_⟩
      rw [e, decide_eq_true rfl]
      cases neg <;> exact KD.self W w rfl
    all_goals
      have e : x ≠ .non := by
        intro q
        subst q
        first
          | exact nomatch ra.bl
          | exact nomatch ra.int
          | exact nomatch ra.str
          | exact nomatch ra.txt
          | (obtain ⟨_, _, q, _⟩ := ra.tup; exact nomatch q)
          | (obtain ⟨_, _, q, _⟩ := ra.lst; exact nomatch q)
          | (rename_i t _; cases t; (obtain ⟨_, _, q, _⟩ := ra.dctK; exact nomatch q); (obtain ⟨_, _, q, _⟩ := ra.dctT; exact nomatch q))
      refine .inl ⟨ey, ?_⟩
      rw [decide_eq_false e]
      cases neg <;> exact KD.self W w rfl
  · cases a <;> first | exact (show False from w).elim | skip
    rename_i b a
    refine .inr ⟨a, b, ra.bl, rb.bl, ?_⟩
    rw [← Bool.beq_eq_decide_eq]
    exact KD.self W w rfl
end
end DL

set_option Elab.async false
set_option linter.all false
set_option maxRecDepth 100000
namespace DL
noncomputable section
open PySem PySem.Spec PyProof.Rows L2

/-! ### tests -/
def truD : D → T Bool
  | .non => .ok false
  | .bl b => .ok b
  | .int i => .ok (!ieq i 0)
  | .lst ds => .ok (!ds.isEmpty)
  | .tup ds => .ok (!ds.isEmpty)
  | _ => .no
def fTru (f : Ev → T D) : Ev → T Bool := fun ρ => (f ρ).bind truD
def blD : D → T Bool
  | .bl b => .ok b
  | _ => .no
def fTb (f : Ev → T D) : Ev → T Bool := fun ρ => (f ρ).bind blD
def fAnd (f g : Ev → T Bool) : Ev → T Bool := fun ρ => (f ρ).bind fun c => match c with
  | true => g ρ
  | false => .ok false
def fOr (f g : Ev → T Bool) : Ev → T Bool := fun ρ => (f ρ).bind fun c => match c with
  | true => .ok true
  | false => g ρ
def fNot (f : Ev → T Bool) : Ev → T Bool := fun ρ => (f ρ).bind fun c => .ok (!c)
def fAndV (f g : Ev → T D) : Ev → T D := fun ρ => (f ρ).bind fun d => (blD d).bind fun c => match c with
  | true => g ρ
  | false => .ok (.bl false)
def fOrV (f g : Ev → T D) : Ev → T D := fun ρ => (f ρ).bind fun d => (blD d).bind fun c => match c with
  | true => .ok (.bl true)
  | false => g ρ
def fNotV (f : Ev → T D) : Ev → T D := fun ρ => (f ρ).bind fun d => (blD d).bind fun c => .ok (.bl (!c))
def fIf (c : Ev → T Bool) (f g : Ev → T D) : Ev → T D := fun ρ => (c ρ).bind fun b => match b with
  | true => f ρ
  | false => g ρ
theorem nil_of_reps {sa' : Option Addr} {R : Addr → HO → Prop} {ds : List D} {vs : List V} (r : Reps sa' R ds vs) : vs.isEmpty = ds.isEmpty := by
  cases ds with
  | nil => rw [show vs = [] from r]; rfl
  | cons d r => obtain ⟨v, q, e, _⟩ := r; rw [e]; rfl
theorem ne0_ieq {i : Int} : (i != 0) = !ieq i 0 := by rw [ieq_eq, bne]; rfl
theorem blD_w {d : D} {Q : Bool → Prop} (w : WP (blD d) Q) : ∃ b, d = .bl b ∧ Q b := by
  cases d <;> first | exact (show False from w).elim | exact ⟨_, rfl, w⟩
section
variable {X : Cx} {a b c : Expr} {f g : Ev → T D} {t u : Ev → T Bool} {pos : Pos} {rest : List Expr}
theorem truD_ok {K : PySem.W.Frag} {z : Zr} {P O : Addr → Prop} {H : Hp} {d : D} {x : V} {Q : Bool → Prop} (r : RepB z P O H d x) (w : WP (truD d) Q) : ∃ k, TruV K x H k ∧ Q k := by
  cases d <;> first | exact (show False from w).elim | skip
  · exact ⟨false, by rw [r.non]; rfl, w⟩
  · rename_i b; exact ⟨b, by rw [r.bl]; rfl, w⟩
  · rename_i i; exact ⟨_, by rw [r.int]; exact ne0_ieq.symm, w⟩
  · obtain ⟨p, vs, e, vw, hp, rr⟩ := r.tup
    exact ⟨_, by rw [e]; exact .inr (.inl ⟨vs, SqT.of hp, by rw [nil_of_reps rr]⟩), w⟩
  · obtain ⟨p, vs, e, hp, rr⟩ := r.lst
    exact ⟨_, by rw [e]; exact .inl ⟨vs, SqL.of hp, by rw [nil_of_reps rr]⟩, w⟩
theorem dt (h : PE X a (tB f)) (he : ∀ whole, isTrue a X.env whole = (do let v ← whole; standAt a.pos; holding [v] (truthy v)) := by intro _; rfl) : PT X a (tT (fTru f)) := PT.imp (pt_truth h he) fun σ H Q ⟨z, P, O, ρ, R, w⟩ =>
  ⟨z, P, O, ρ, R, (WP.bind w).mono fun d w2 x H1 g1 s1 r1 => by
    obtain ⟨k, h1, h2⟩ := truD_ok (K := X.K) r1 w2
    exact ⟨k, h1, h2 H1 g1 s1⟩⟩
theorem tTest_D {F : Ev → T D} {σ : L2.St} {H : Hp} {Q : Bool → Hp → Prop} (h : tT (fTb F) σ H Q) : tD F σ H fun x H' => ∃ k, x = .bl k ∧ Q k H' := by
  obtain ⟨z, P, O, ρ, R, w⟩ := h
  refine ⟨z, P, O, ρ, R, (WP.bind w).mono fun d w2 x H1 g1 s1 r1 => ?_⟩
  obtain ⟨b, rfl, k⟩ := blD_w w2
  exact ⟨b, r1, k H1 g1 s1⟩
theorem dt_cmp {op : CmpOp} {r : R2} {fo : D → D → T D} (ho : OpR X (compareOp op) r) (hr : BinOk fo r) (ha : PE X a (tB f)) (hb : PE X b (tB g)) (hm : behindInMarks op b = false) : PT X (.Compare a [op] [b] pos) (tT (fTb (fBin fo f g))) :=
  PT.imp (pt_cmpR ho ha hb hm) fun _ _ _ h => tOp_D hr (tTest_D h)
def WT (t : Ev → T Bool) : TT := tT t
structure PWt (X : Cx) (e : Expr) (t : Ev → T Bool) : Prop where
  pw : PW X e (tT t)
theorem tAnd_D {t u : Ev → T Bool} {σ : L2.St} {H : Hp} {Q : Bool → Hp → Prop} (h : tT (fAnd t u) σ H Q) : tAnd (tT t) (tT u) σ H Q := by
  obtain ⟨z, P, O, ρ, R, w⟩ := h
  refine ⟨z, P, O, ρ, R, (WP.bind w).mono fun c w2 H1 g1 s1 => ?_⟩
  cases c
  · exact WP.ok w2 H1 g1 s1
  · exact ⟨z, P, O, ρ, R.grow g1 s1, w2.mono fun b k H2 g2 s2 => k H2 (g1.trans g2) s2⟩
theorem tOr_D {t u : Ev → T Bool} {σ : L2.St} {H : Hp} {Q : Bool → Hp → Prop} (h : tT (fOr t u) σ H Q) : tOr (tT t) (tT u) σ H Q := by
  obtain ⟨z, P, O, ρ, R, w⟩ := h
  refine ⟨z, P, O, ρ, R, (WP.bind w).mono fun c w2 H1 g1 s1 => ?_⟩
  cases c
  · exact ⟨z, P, O, ρ, R.grow g1 s1, w2.mono fun b k H2 g2 s2 => k H2 (g1.trans g2) s2⟩
  · exact WP.ok w2 H1 g1 s1
theorem PW.imp {X : Cx} {e : Expr} {t t' : TT} (h : PW X e t) (hi : ∀ σ H Q, t' σ H Q → t σ H Q) : PW X e t' := ⟨fun whole pins s σ H Q I q => h.run whole pins s σ H Q I (hi σ H Q q)⟩
theorem wa1 (ha : PT X a (tT t)) : PW X (.BoolOp .And [a] pos) (tT t) := pw_and1 ha
theorem wo1 (ha : PT X a (tT t)) : PW X (.BoolOp .Or [a] pos) (tT t) := pw_or1 ha
theorem wa (ha : PT X a (tT t)) (hb : PW X (.BoolOp .And (b :: rest) pos) (tT u)) : PW X (.BoolOp .And (a :: b :: rest) pos) (tT (fAnd t u)) := PW.imp (pw_and ha hb) fun _ _ _ => tAnd_D
theorem wo (ha : PT X a (tT t)) (hb : PW X (.BoolOp .Or (b :: rest) pos) (tT u)) : PW X (.BoolOp .Or (a :: b :: rest) pos) (tT (fOr t u)) := PW.imp (pw_or ha hb) fun _ _ _ => tOr_D
theorem dn (ha : PT X a (tT t)) : PT X (.UnaryOp .Not a pos) (tT (fNot t)) := PT.imp (pt_not ha) fun σ H Q ⟨z, P, O, ρ, R, w⟩ => ⟨z, P, O, ρ, R, (WP.bind w).mono fun _ w2 H1 g1 s1 => WP.ok w2 H1 g1 s1⟩
theorem vone {op} (h : PE X a (tD f)) : PE X (.BoolOp op [a] pos) (tD f) := pe_one h
theorem vand (ha : PE X a (tB f)) (hb : PE X (.BoolOp .And (b :: rest) pos) (tD g)) : PE X (.BoolOp .And (a :: b :: rest) pos) (tD (fAndV f g)) := PE.imp (pe_and ha hb) fun σ H Q ⟨z, P, O, ρ, R, w⟩ =>
  ⟨z, P, O, ρ, R, (WP.bind w).mono fun d w2 x H1 g1 s1 r1 => by
    obtain ⟨c, e, w3⟩ := blD_w (WP.bind w2)
    subst e
    refine ⟨c, r1.bl, ?_⟩
    cases c
    · exact WP.ok w3 _ H1 g1 s1 rfl
    · exact ⟨z, P, O, ρ, R.grow g1 s1, WP.mono (show WP (g ρ) _ from w3) fun b k v H2 g2 s2 => k v H2 (g1.trans g2) s2⟩⟩
theorem vor (ha : PE X a (tB f)) (hb : PE X (.BoolOp .Or (b :: rest) pos) (tD g)) : PE X (.BoolOp .Or (a :: b :: rest) pos) (tD (fOrV f g)) := PE.imp (pe_or ha hb) fun σ H Q ⟨z, P, O, ρ, R, w⟩ =>
  ⟨z, P, O, ρ, R, (WP.bind w).mono fun d w2 x H1 g1 s1 r1 => by
    obtain ⟨c, e, w3⟩ := blD_w (WP.bind w2)
    subst e
    refine ⟨c, r1.bl, ?_⟩
    cases c
    · exact ⟨z, P, O, ρ, R.grow g1 s1, WP.mono (show WP (g ρ) _ from w3) fun b k v H2 g2 s2 => k v H2 (g1.trans g2) s2⟩
    · exact WP.ok w3 _ H1 g1 s1 rfl⟩
theorem vnot (ha : PE X a (tB f)) : PE X (.UnaryOp .Not a pos) (tD (fNotV f)) := PE.imp (pe_not ha) fun σ H Q ⟨z, P, O, ρ, R, w⟩ =>
  ⟨z, P, O, ρ, R, (WP.bind w).mono fun d w2 x H1 g1 s1 r1 => by
    obtain ⟨c, e, w3⟩ := blD_w (WP.bind w2)
    subst e
    exact ⟨c, r1.bl, WP.ok w3 _ H1 g1 s1 rfl⟩⟩
theorem dif (hc : PT X c (tT t)) (ha : PE X a (tD f)) (hb : PE X b (tD g)) : PE X (.IfExp c a b pos) (tD (fIf t f g)) := PE.imp (pe_ifExp hc ha hb) fun σ H Q ⟨z, P, O, ρ, R, w⟩ =>
  ⟨z, P, O, ρ, R, (WP.bind w).mono fun c w2 H1 g1 s1 => by
    cases c
    · exact ⟨z, P, O, ρ, R.grow g1 s1, WP.mono (show WP (g ρ) _ from w2) fun b k v H2 g2 s2 => k v H2 (g1.trans g2) s2⟩
    · exact ⟨z, P, O, ρ, R.grow g1 s1, WP.mono (show WP (f ρ) _ from w2) fun b k v H2 g2 s2 => k v H2 (g1.trans g2) s2⟩⟩
/-- a < b < c -/
def fChain (fo fo' : D → D → T D) (f g h : Ev → T D) : Ev → T D := fun ρ => (f ρ).bind fun a => (g ρ).bind fun b => (fo a b).bind fun d => (blD d).bind fun k => match k with
  | true => (h ρ).bind fun c => fo' b c
  | false => .ok (.bl false)
theorem tChain_D {r r' : R2} {fo fo' : D → D → T D} {h : Ev → T D} (hr : BinOk fo r) (hr' : BinOk fo' r') {σ : L2.St} {H : Hp} {Q : VK} (q : tD (fChain fo fo' f g h) σ H Q) : tChain r r' (tB f) (tB g) (tB h) σ H Q := by
  obtain ⟨z, P, O, ρ, R, w⟩ := q
  refine ⟨z, P, O, ρ, R, (WP.bind w).mono fun d w2 x H1 g1 s1 r1 => ?_⟩
  refine ⟨z, P, O, ρ, R.grow g1 s1, (WP.bind w2).mono fun e w3 y H2 g2 s2 r2 => ?_⟩
  have R2 := (R.grow g1 s1).grow g2 s2
  refine hr z P O H2 d e x y _ R2.ws (r1.grow g2) r2 ((WP.bind w3).mono fun m w4 v H3 g3 s3 r3 => ?_)
  obtain ⟨k, em, w5⟩ := blD_w (WP.bind w4)
  subst em
  refine ⟨k, r3, ?_⟩
  cases k
  · exact WP.ok w5 _ H3 ((g1.trans g2).trans g3) s3 rfl
  · refine ⟨z, P, O, ρ, R2.grow g3 s3, (WP.bind (show WP ((h ρ).bind fun c => fo' e c) _ from w5)).mono fun c w6 u H4 g4 s4 r4 => ?_⟩
    exact hr' z P O H4 e c y u Q ((R2.grow g3 s3).grow g4 s4).ws ((r2.grow g3).grow g4) r4 (w6.mono fun c k v H5 g5 s5 r5 => k v H5 ((((g1.trans g2).trans g3).trans g4).trans g5) s5 r5)
theorem dchain {op op' : CmpOp} {r r' : R2} {fo fo' : D → D → T D} {h : Ev → T D} (ho : OpR X (compareOp op) r) (hr : BinOk fo r) (ho' : OpR X (compareOp op') r') (hr' : BinOk fo' r') (ha : PE X a (tB f)) (hb : PE X b (tB g)) (hc : PE X c (tB h))
    (hm : lastMarks [op, op'] [b, c] = false := by with_unfolding_all rfl) : PE X (.Compare a [op, op'] [b, c] pos) (tD (fChain fo fo' f g h)) := PE.imp (pe_chain ho ho' ha hb hc hm) fun _ _ _ => tChain_D hr hr'
theorem dt_chain {op op' : CmpOp} {r r' : R2} {fo fo' : D → D → T D} {h : Ev → T D} (ho : OpR X (compareOp op) r) (hr : BinOk fo r) (ho' : OpR X (compareOp op') r') (hr' : BinOk fo' r') (ha : PE X a (tB f)) (hb : PE X b (tB g)) (hc : PE X c (tB h))
    (hm : lastMarks [op, op'] [b, c] = false := by with_unfolding_all rfl) : PT X (.Compare a [op, op'] [b, c] pos) (tT (fTb (fChain fo fo' f g h))) := PT.imp (pt_chain ho ho' ha hb hc hm) fun _ _ _ q => tChain_D hr hr' (tTest_D q)
end

/-! ### subscripts -/
def atD (ds : List D) (i : Int) : T D := match atI ds i with
  | some d => .ok d
  | none => .no
def dItem : D → D → T D
  | .lst ds, .int i => atD ds i
  | .tup ds, .int i => atD ds i
  | .dct tk kvs, k => match (keyOf tk k).bind (lookD kvs) with
    | some d => .ok d
    | none => .no
  | _, _ => .no
theorem Reps.atI {sa' : Option Addr} {R : Addr → HO → Prop} {ds : List D} {vs : List V} {i : Int} {d : D} (r : Reps sa' R ds vs) (h : L2.atI ds i = some d) : ∃ v, L2.atI vs i = some v ∧ Rep sa' R d v := by
  unfold L2.atI at h ⊢
  rw [r.length]
  cases e : ixN ds.length i with
  | none => rw [e] at h; cases h
  | some j =>
    rw [e] at h
    exact r.get h
def rDix : R2 := fun x y H Q => ∃ a v, x = .ref a ∧ DGet H a y (some v) ∧ Q v H
theorem ix_dict {X : Cx} (hu : X.A.units + 1 < cLine) : IxR X rDix := by
  intro value slice pins s σ H x y v u Q I rx ry h hs
  obtain ⟨a, z, rfl, g, q⟩ := h
  cases rx
  exact tail_any (dict_typeIs I g) PySem.F.slot_dict_getitem.lookup (d_getItem hu I g ry fun w' s' I' rw' => ⟨z, H, I', rw', q⟩) hs
def rIxA (X : Cx) : R2 := fun x y H Q => rDix x y H Q ∨ rIxL X.K x y H Q ∨ rIxT X.K x y H Q
theorem ix_any {X : Cx} (hu : X.A.units + 1 < cLine) : IxR X (rIxA X) := (ix_dict hu).or (ix_list.or ix_tup)
theorem atD_w {ds : List D} {i : Int} {Q : D → Prop} (w : WP (atD ds i) Q) : ∃ d, atI ds i = some d ∧ Q d := by
  unfold atD at w
  cases e : atI ds i with
  | none => rw [e] at w; exact w.elim
  | some d => rw [e] at w; exact ⟨d, rfl, w⟩
theorem item_ok {X : Cx} : BinOk dItem (rIxA X) := fun z P O H a b x y Q W ra rb w => by
  cases a <;> first | exact (show False from w).elim | skip
  · cases b <;> first | exact (show False from w).elim | skip
    obtain ⟨d, e, k⟩ := atD_w w
    obtain ⟨p, vs, ex, vw, hp, r⟩ := ra.tup
    obtain ⟨v, e2, rv⟩ := r.atI e
    exact .inr (.inr ⟨p, vs, _, v, ex, rb.int, SqT.of hp, e2, KD.self W k rv⟩)
  · cases b <;> first | exact (show False from w).elim | skip
    obtain ⟨d, e, k⟩ := atD_w w
    obtain ⟨p, vs, ex, hp, r⟩ := ra.lst
    obtain ⟨v, e2, rv⟩ := r.atI e
    exact .inr (.inl ⟨p, vs, _, v, ex, rb.int, SqL.of hp, e2, KD.self W k rv⟩)
  · rename_i tk kvs
    have w' : WP (match (keyOf tk b).bind (lookD kvs) with
      | some d => T.ok d
      | none => .no) (KD z P O H Q) := w
    cases hk : keyOf tk b with
    | none => rw [hk] at w'; exact w'.elim
    | some j =>
      rw [hk, Option.bind_some] at w'
      obtain ⟨p, e, h⟩ := ra.get hk rb
      rcases h with ⟨d', v, h1, h2, h3⟩ | ⟨h1, h2⟩
      · rw [h1] at w'
        exact .inl ⟨p, v, e, h2, KD.self W w' h3⟩
      · rw [h1] at w'
        exact w'.elim

/-! ### slices -/
def cutD (xs : List D) (lo hi : Option Int) : List D := (xs.drop (HT.sIx xs.length 0 lo)).take (HT.sIx xs.length xs.length hi - HT.sIx xs.length 0 lo)
def fNo : Ev → T (Option Int) := fun _ => .ok none
def inD : D → T Int
  | .int i => .ok i
  | _ => .no
def fSo (f : Ev → T D) : Ev → T (Option Int) := fun ρ => (f ρ).bind fun d => (inD d).bind fun i => .ok (some i)
def tO (f : Ev → T (Option Int)) : TO := fun σ H Q => ∃ z P O ρ, Rel z P O ρ σ H ∧ WP (f ρ) fun o => ∀ H', SameS z H H' → Src z H' → Q o H'
def dCut : D → Option Int → Option Int → T D
  | .lst ds, l, u => .ok (.lst (cutD ds l u))
  | .tup ds, l, u => .ok (.tup (cutD ds l u))
  | _, _, _ => .no
def fSl (f : Ev → T D) (l u : Ev → T (Option Int)) : Ev → T D := fun ρ => (f ρ).bind fun d => (l ρ).bind fun a => (u ρ).bind fun b => dCut d a b
theorem Reps.cut {sa' : Option Addr} {R : Addr → HO → Prop} {ds : List D} {vs : List V} {l u : Option Int} (r : Reps sa' R ds vs) : Reps sa' R (cutD ds l u) (cutV vs l u) := by
  unfold cutD cutV
  rw [r.length]
  exact (r.drop _).take _
theorem inD_w {d : D} {Q : Int → Prop} (w : WP (inD d) Q) : ∃ b, d = .int b ∧ Q b := by
  cases d <;> first | exact (show False from w).elim | exact ⟨_, rfl, w⟩
section
variable {X : Cx} {e : Expr} {f : Ev → T D} {lo hi : Option Expr} {l u : Ev → T (Option Int)} {pos p2 : Pos}
theorem PO.imp {e : Option Expr} {t t' : TO} (h : PO X e t) (hi : ∀ σ H Q, t' σ H Q → t σ H Q) : PO X e t' := ⟨fun pins s σ H Q I q => h.run pins s σ H Q I (hi σ H Q q)⟩
theorem on : PO X none (tO fNo) := PO.imp po_none fun σ H Q ⟨z, P, O, ρ, R, w⟩ => WP.ok w H SameS.refl R.src
theorem os (h : PE X e (tB f)) : PO X (some e) (tO (fSo f)) := PO.imp (po_some h) fun σ H Q ⟨z, P, O, ρ, R, w⟩ => ⟨z, P, O, ρ, R, (WP.bind w).mono fun d w2 x H1 g1 s1 r1 => by
  obtain ⟨i, ei, w3⟩ := inD_w (WP.bind w2)
  subst ei
  exact ⟨i, r1.int, WP.ok w3 H1 g1 s1⟩⟩
theorem cut_ok {z : Zr} {P O : Addr → Prop} {H : Hp} {d : D} {x : V} {a b : Option Int} {Q : VK} (W : Ws z P O H) (r : RepB z P O H d x) (w : WP (dCut d a b) (KD z P O H Q)) : rSlA X.K x a b H Q ∨ rSlL X.K x a b H Q := by
  cases d <;> first | exact (show False from w).elim | skip
  · rename_i ds
    have k := WP.ok w
    obtain ⟨p, vs, e, vw, hp, rr⟩ := r.tup
    refine .inl ⟨p, vs, e, SqT.of hp, fun ⟨e1, e2⟩ => ?_, fun _ q hq => KD.tup W k rr.cut q hq⟩
    refine KD.self W k ⟨p, vs, rfl, vw, ?_⟩
    unfold cutD
    rw [← rr.length, e1, e2, List.drop_zero, Nat.sub_zero, rr.length, List.take_length]
    exact rr
  · rename_i ds
    have k := WP.ok w
    obtain ⟨p, vs, e, hp, rr⟩ := r.lst
    exact .inr ⟨p, vs, e, SqL.of hp, fun q hq => KD.lst W k rr.cut q hq⟩
theorem dsl (he : PE X e (tB f)) (hl : PO X lo (tO l)) (hu : PO X hi (tO u)) : PE X (.Subscript e (.Slice lo hi none p2) pos) (tD (fSl f l u)) := PE.imp (pe_slice (SlR.or sl_tupA sl_list) he hl hu) fun σ H Q ⟨z, P, O, ρ, R, w⟩ =>
  ⟨z, P, O, ρ, R, (WP.bind w).mono fun d w2 x H1 g1 s1 r1 => ⟨z, P, O, ρ, R.grow g1 s1, (WP.bind w2).mono fun a w3 H2 g2 s2 => ⟨z, P, O, ρ, (R.grow g1 s1).grow g2 s2, (WP.bind w3).mono fun b w4 H3 g3 s3 =>
    cut_ok (((R.grow g1 s1).grow g2 s2).grow g3 s3).ws ((r1.grow g2).grow g3) (w4.mono fun c k v H4 g4 s4 r4 => k v H4 (((g1.trans g2).trans g3).trans g4) s4 r4)⟩⟩⟩
end

/-! ### displays -/
def fTup (g : Ev → T (List D)) : Ev → T D := fun ρ => (g ρ).bind fun ds => tIf (lenOk ds.length) (.ok (.tup ds))
def fLst (g : Ev → T (List D)) : Ev → T D := fun ρ => (g ρ).bind fun ds => tIf (lenOk ds.length) (.ok (.lst ds))
section
variable {X : Cx} {es : List Expr} {g : Ev → T (List D)} {pos : Pos}
theorem dtup {x1} (h : PA X es (tDs g)) : PE X (.Tuple es x1 pos) (tD (fTup g)) := PE.imp (pe_tup h) fun σ H Q ⟨z, P, O, ρ, R, w⟩ => ⟨z, P, O, ρ, R, (WP.bind w).mono fun ds w2 vs H1 g1 s1 r1 => by
  obtain ⟨hl, k⟩ := tIf_w w2
  exact ⟨by rw [r1.length]; exact lenOk_le hl, fun p hp => KD.tup (R.grow g1 s1).ws (fun v H2 g2 => WP.ok k v H2 (g1.trans g2)) r1 p hp⟩⟩
theorem none_of {z : Zr} {H H' : Hp} (g : SameS z H H') (s : Src z H') {p : Addr} (h : H' p = none) : H p = none := by
  cases e : H p with
  | none => rfl
  | some o => rw [g p o (not_src s h) e] at h; cases h
theorem dlst (h : PA X es (tDs g)) : PE X (.List es pos) (tF (fLst g)) := PE.imp (pe_lst h) fun σ H Q ⟨z, P, O, ρ, R, w⟩ => ⟨z, P, O, ρ, R, (WP.bind w).mono fun ds w2 vs H1 g1 s1 r1 => by
  obtain ⟨hl, k⟩ := tIf_w w2
  refine ⟨by rw [r1.length]; exact lenOk_le hl, fun p hp => ?_⟩
  exact WP.ok k p _ (none_of g1 s1 hp) (g1.trans (same_new hp)) (src_new s1 hp) ⟨vs, upd_same, r1.mono (Vw.old hp (same_new hp))⟩⟩
def fDn (tk : Bool) : Ev → T D := fun _ => .ok (.dct tk [])
theorem dnewK : PE X (.Dict [] [] pos) (tF (fDn false)) := PE.imp pe_dnewK fun σ H Q ⟨z, P, O, ρ, R, w⟩ p hp => WP.ok w p _ hp (same_new hp) (src_new R.src hp) ⟨[], upd_same, rfl⟩
theorem dnewT : PE X (.Dict [] [] pos) (tF (fDn true)) := PE.imp pe_dnewT fun σ H Q ⟨z, P, O, ρ, R, w⟩ p hp => WP.ok w p _ hp (same_new hp) (src_new R.src hp) ⟨[], upd_same, rfl⟩
end

/-! ### built-ins by values -/
def fFn (fo : List D → T D) (g : Ev → T (List D)) : Ev → T D := fun ρ => (g ρ).bind fo
def CallOk (fo : List D → T D) (r : List V → Hp → VK → Prop) : Prop := ∀ (z : Zr) (P O : Addr → Prop) (H : Hp) (ds : List D) (vs : List V) (Q : VK), Ws z P O H → RepBs z P O H ds vs → WP (fo ds) (KD z P O H Q) → r vs H Q
/-- .. that makes a new list or dict -/
def CallOkF (fo : List D → T D) (r : List V → Hp → VK → Prop) : Prop := ∀ (z : Zr) (P O : Addr → Prop) (H : Hp) (ds : List D) (vs : List V) (Q : VK), Ws z P O H → RepBs z P O H ds vs → WP (fo ds) (fun d => ∀ p H', H p = none → SameS z H H' → Src z H' → Top z (Vw z P (Ow O p) H') (fun u => H' p = some u) d → Q (.ref p) H') → r vs H Q
section
variable {X : Cx} {x : Str} {p pos : Pos} {e : Expr} {es : List Expr} {g : Ev → T (List D)} {id T' : String} {r : List V → Hp → VK → Prop} {fo : List D → T D}
theorem tCB_D (hr : CallOk fo r) {σ : L2.St} {H : Hp} {Q : VK} (h : tD (fFn fo g) σ H Q) : tCB r (tBs g) σ H Q := by
  obtain ⟨z, P, O, ρ, R, w⟩ := h
  exact ⟨z, P, O, ρ, R, (WP.bind w).mono fun ds w2 vs H1 g1 s1 r1 => hr z P O H1 ds vs Q (R.grow g1 s1).ws r1 (w2.mono fun d k v H2 g2 s2 r2 => k v H2 (g1.trans g2) s2 r2)⟩
theorem tCB_F (hr : CallOkF fo r) {σ : L2.St} {H : Hp} {Q : VK} (h : tF (fFn fo g) σ H Q) : tCB r (tBs g) σ H Q := by
  obtain ⟨z, P, O, ρ, R, w⟩ := h
  exact ⟨z, P, O, ρ, R, (WP.bind w).mono fun ds w2 vs H1 g1 s1 r1 => hr z P O H1 ds vs Q (R.grow g1 s1).ws r1 (w2.mono fun d k p H2 hp g2 s2 t => k p H2 (none_of g1 s1 hp) (g1.trans g2) s2 t)⟩
theorem dcb (hc : CallR X (.builtin id) r) (hr : CallOk fo r) (hg : Gl X x) (hm : X.mg x = none) (hv : bootBuiltins x = some (.builtin id)) (ha : PA X (e :: es) (tBs g)) (hn : x ≠ "__name__" := by decide) (hdb : (x == ("__debug__" : Str)) = false := by decide)
    (he : starEach (e :: es) X.env = (false, eval e X.env) :: starEach es X.env := by rfl) (hpl : (backTo pos (starEach es X.env)).any (·.1) = false := by rfl) : PE X (.Call (.Name x p) (e :: es) [] pos) (tD (fFn fo g)) :=
  PE.imp (pe_callB hc hg hm hv ha hn hdb he hpl) fun _ _ _ => tCB_D hr
theorem dct' (hc : CallR X (.type T') r) (hr : CallOk fo r) (hg : Gl X x) (hm : X.mg x = none) (hv : bootBuiltins x = some (.type T')) (ha : PA X (e :: es) (tBs g)) (hn : x ≠ "__name__" := by decide) (hdb : (x == ("__debug__" : Str)) = false := by decide)
    (he : starEach (e :: es) X.env = (false, eval e X.env) :: starEach es X.env := by rfl) (hpl : (backTo pos (starEach es X.env)).any (·.1) = false := by rfl) : PE X (.Call (.Name x p) (e :: es) [] pos) (tD (fFn fo g)) :=
  PE.imp (pe_callTy hc hg hm hv ha hn hdb he hpl) fun _ _ _ => tCB_D hr
theorem dcbF (hc : CallR X (.builtin id) r) (hr : CallOkF fo r) (hg : Gl X x) (hm : X.mg x = none) (hv : bootBuiltins x = some (.builtin id)) (ha : PA X (e :: es) (tBs g)) (hn : x ≠ "__name__" := by decide) (hdb : (x == ("__debug__" : Str)) = false := by decide)
    (he : starEach (e :: es) X.env = (false, eval e X.env) :: starEach es X.env := by rfl) (hpl : (backTo pos (starEach es X.env)).any (·.1) = false := by rfl) : PE X (.Call (.Name x p) (e :: es) [] pos) (tF (fFn fo g)) :=
  PE.imp (pe_callB hc hg hm hv ha hn hdb he hpl) fun _ _ _ => tCB_F hr
theorem dctF (hc : CallR X (.type T') r) (hr : CallOkF fo r) (hg : Gl X x) (hm : X.mg x = none) (hv : bootBuiltins x = some (.type T')) (ha : PA X (e :: es) (tBs g)) (hn : x ≠ "__name__" := by decide) (hdb : (x == ("__debug__" : Str)) = false := by decide)
    (he : starEach (e :: es) X.env = (false, eval e X.env) :: starEach es X.env := by rfl) (hpl : (backTo pos (starEach es X.env)).any (·.1) = false := by rfl) : PE X (.Call (.Name x p) (e :: es) [] pos) (tF (fFn fo g)) :=
  PE.imp (pe_callTy hc hg hm hv ha hn hdb he hpl) fun _ _ _ => tCB_F hr
end
/-- one argument -/
def on1 (f : D → T D) : List D → T D
  | [d] => f d
  | _ => .no
theorem on1_w {f : D → T D} {ds : List D} {vs : List V} {Q : D → Prop} {z : Zr} {P O : Addr → Prop} {H : Hp} (r : RepBs z P O H ds vs) (w : WP (on1 f ds) Q) : ∃ d v, vs = [v] ∧ RepB z P O H d v ∧ WP (f d) Q := by
  match ds, w, r with
  | [d], w, ⟨v, q, e, rv, e2⟩ =>
    have e2' : q = [] := e2
    rw [e2'] at e
    exact ⟨d, v, e, rv, w⟩
def dLen : D → T D
  | .lst ds => .ok (.int ds.length)
  | .tup ds => .ok (.int ds.length)
  | .dct false ds => .ok (.int ds.length)
  | _ => .no
def rLenA (X : Cx) : List V → Hp → VK → Prop := fun xs H Q => (∃ p ys, xs = [.ref p] ∧ (SqL X.K H p ys ∨ SqT X.K H p ys) ∧ Q (.int ys.length) H) ∨ ∃ p kvs, xs = [.ref p] ∧ Rd H p (.dK kvs) ∧ Q (.int kvs.length) H
theorem call_lenA {X : Cx} : CallR X (.builtin "len") (rLenA X) := CallR.or call_len_seq fun pins s σ H xs us Q I r h => by
  obtain ⟨p, kvs, rfl, hd, q⟩ := h
  rw [Vals.ref1 r]
  exact d_len I hd fun t s' I' => ⟨.int _, H, I', ⟨_, rfl⟩, q⟩
theorem len_ok {X : Cx} : CallOk (on1 dLen) (rLenA X) := fun z P O H ds vs Q W r w => by
  obtain ⟨d, v, e, rv, w⟩ := on1_w r w
  subst e
  cases d <;> first | exact (show False from w).elim | skip
  · obtain ⟨p, us, ev, vw, hp, rr⟩ := rv.tup
    exact .inl ⟨p, us, by rw [ev], .inr (SqT.of hp), by rw [rr.length]; exact KD.self W (WP.ok w) rfl⟩
  · obtain ⟨p, us, ev, hp, rr⟩ := rv.lst
    exact .inl ⟨p, us, by rw [ev], .inl (SqL.of hp), by rw [rr.length]; exact KD.self W (WP.ok w) rfl⟩
  · rename_i tk kvs
    cases tk
    · obtain ⟨p, l, ev, hp, rr⟩ := rv.dctK
      exact .inr ⟨p, l, by rw [ev], hp.rd, by rw [rr.len]; exact KD.self W (WP.ok w) rfl⟩
    · exact (show False from w).elim
def dInt : D → T D
  | .int i => .ok (.int i)
  | .bl b => .ok (.int (if b then 1 else 0))
  | _ => .no
theorem int_ok : CallOk (on1 dInt) (fun xs H Q => (∃ i, xs = [.int i] ∧ Q (.int i) H) ∨ ∃ k, xs = [.bl k] ∧ Q (.int (if k then 1 else 0)) H) := fun z P O H ds vs Q W r w => by
  obtain ⟨d, v, e, rv, w⟩ := on1_w r w
  subst e
  cases d <;> first | exact (show False from w).elim | skip
  · exact .inr ⟨_, by rw [rv.bl], KD.self W (WP.ok w) rfl⟩
  · exact .inl ⟨_, by rw [rv.int], KD.self W (WP.ok w) rfl⟩
def dAbs : D → T D
  | .int i => .ok (.int (if i < 0 then -i else i))
  | _ => .no
theorem abs_ok : CallOk (on1 dAbs) (fun xs H Q => ∃ i, xs = [.int i] ∧ Q (.int (if i < 0 then -i else i)) H) := fun z P O H ds vs Q W r w => by
  obtain ⟨d, v, e, rv, w⟩ := on1_w r w
  subst e
  cases d <;> first | exact (show False from w).elim | skip
  exact ⟨_, by rw [rv.int], KD.self W (WP.ok w) rfl⟩
/-- intsD -/
def intsD : List D → Option (List Int)
  | [] => some []
  | .int i :: r => (intsD r).map (i :: ·)
  | _ => none
theorem ints_v {sa' : Option Addr} {R : Addr → HO → Prop} : ∀ {ds : List D} {ns : List Int} {vs : List V}, intsD ds = some ns → Reps sa' R ds vs → vs = ns.map V.int
  | [], _, _, h, r => by cases h; exact r
  | d :: ds, ns, _, h, ⟨v, q, e, rv, w⟩ => by
    cases d <;> first | (cases h; done) | skip
    rename_i i
    have h' : (intsD ds).map (i :: ·) = some ns := h
    cases h1 : intsD ds with
    | none => rw [h1] at h'; cases h'
    | some ms =>
      rw [h1] at h'
      cases h'
      rw [e, show v = V.int i from rv, ints_v h1 w]; rfl
/-- the parts of a list or a tuple -/
def partsOf : D → Option (List D)
  | .lst ds => some ds
  | .tup ds => some ds
  | _ => none
theorem parts_v {X : Cx} {z : Zr} {P O : Addr → Prop} {H : Hp} {d : D} {ds : List D} {v : V} (h : partsOf d = some ds) (r : RepB z P O H d v) : ∃ p vs, v = .ref p ∧ (SqL X.K H p vs ∨ SqT X.K H p vs) ∧ Reps (sa z) (Vw z P O H) ds vs := by
  cases d <;> cases h
  · obtain ⟨p, us, ev, vw, hp, rr⟩ := r.tup
    exact ⟨p, us, ev, .inr (SqT.of hp), rr⟩
  · obtain ⟨p, us, ev, hp, rr⟩ := r.lst
    exact ⟨p, us, ev, .inl (SqL.of hp), rr⟩
def ofInts (f : List Int → T D) (d : D) : T D := match (partsOf d).bind intsD with
  | some ns => f ns
  | none => .no
theorem ofInts_w {X : Cx} {f : List Int → T D} {d : D} {Q : D → Prop} {z : Zr} {P O : Addr → Prop} {H : Hp} {v : V} (r : RepB z P O H d v) (w : WP (ofInts f d) Q) : ∃ p ns, v = .ref p ∧ (SqL X.K H p (ns.map V.int) ∨ SqT X.K H p (ns.map V.int)) ∧ WP (f ns) Q := by
  unfold ofInts at w
  cases h : partsOf d with
  | none => rw [h] at w; exact w.elim
  | some ds =>
    rw [h, Option.bind_some] at w
    cases h2 : intsD ds with
    | none => rw [h2] at w; exact w.elim
    | some ns =>
      rw [h2] at w
      obtain ⟨p, vs, e, q, rr⟩ := parts_v (X := X) h r
      rw [ints_v h2 rr] at q
      exact ⟨p, ns, e, q, w⟩
def isum : List Int → Int
  | [] => 0
  | a :: r => a + isum r
theorem isum_eq : ∀ ns : List Int, isum ns = ns.sum
  | [] => rfl
  | a :: r => by rw [isum, isum_eq r, List.sum_cons]
def dSum : D → T D := ofInts fun ns => .ok (.int (isum ns))
def rSumA (X : Cx) : List V → Hp → VK → Prop := fun vs H Q => rSum X.K vs H Q ∨ ∃ (a : Addr) (ns : List Int), vs = [V.ref a] ∧ SqT X.K H a (ns.map V.int) ∧ Q (.int ns.sum) H
theorem call_sumA {X : Cx} (hc : X.calm = true) : CallR X (.builtin "sum") (rSumA X) := CallR.or (cr_sum hc) fun pins s σ H xs us Q I r h => by
  obtain ⟨a, ns, rfl, hs, q⟩ := h
  obtain ⟨its, rv, hl, _⟩ := I.tuple hs
  rw [Vals.ref1 r]
  have hi := rv.ints
  obtain ⟨xs, e⟩ := hi.allInts.items
  have hn : numsOf (intItems xs).toList = ns := by rw [← e]; exact hi.numsOf
  rw [nums_intItems] at hn
  have ht : s.heap.IsTuple a its.toArray := hl
  rw [e] at ht
  refine PySem.W.ktm_sumG (I.ok.hd hc) ht fun h' tk t' hk => ?_
  rw [preSum_eq, List.take_of_length_le (by simp), hn]
  exact ⟨.int _, H, I.kept hk, ⟨_, rfl⟩, q⟩
theorem sum_ok {X : Cx} : CallOk (on1 dSum) (rSumA X) := fun z P O H ds vs Q W r w => by
  obtain ⟨d, v, e, rv, w⟩ := on1_w r w
  obtain ⟨p, ns, ev, q, w⟩ := ofInts_w (X := X) rv w
  have k := WP.ok w
  rw [isum_eq] at k
  subst e
  rcases q with q | q
  · exact .inl ⟨p, ns, by rw [ev], q, KD.self W k rfl⟩
  · exact .inr ⟨p, ns, by rw [ev], q, KD.self W k rfl⟩
/-- the greatest, the least -/
def imax : Int → List Int → Int
  | a, [] => a
  | a, b :: r => imax (match ilt a b with | true => b | false => a) r
def imin : Int → List Int → Int
  | a, [] => a
  | a, b :: r => imin (match ilt b a with | true => b | false => a) r
theorem imax_is : ∀ (a : Int) (r : List Int), imax a r ∈ a :: r ∧ ∀ y ∈ a :: r, y ≤ imax a r
  | a, [] => ⟨List.mem_cons_self, fun y h => by simp at h; rw [h]; exact Int.le_refl _⟩
  | a, b :: r => by
    obtain ⟨h1, h2⟩ := imax_is (match ilt a b with | true => b | false => a) r
    rw [imax]
    cases e : ilt a b
    · rw [e] at h1 h2
      have hab : ¬ a < b := fun q => by rw [ilt_iff.mpr q] at e; cases e
      refine ⟨?_, fun y hy => ?_⟩
      · rcases List.mem_cons.mp h1 with h | h
        · exact List.mem_cons.mpr (.inl h)
        · exact List.mem_cons_of_mem _ (List.mem_cons_of_mem _ h)
      · rcases List.mem_cons.mp hy with h | h
        · exact h2 y (by rw [h]; exact List.mem_cons_self)
        · rcases List.mem_cons.mp h with h | h
          · have := h2 a List.mem_cons_self
            simp only at this ⊢
            omega
          · exact h2 y (List.mem_cons_of_mem _ h)
    · rw [e] at h1 h2
      have hab := ilt_iff.mp e
      refine ⟨?_, fun y hy => ?_⟩
      · rcases List.mem_cons.mp h1 with h | h
        · exact List.mem_cons_of_mem _ (List.mem_cons.mpr (.inl h))
        · exact List.mem_cons_of_mem _ (List.mem_cons_of_mem _ h)
      · rcases List.mem_cons.mp hy with h | h
        · have := h2 b List.mem_cons_self
          simp only at this ⊢
          omega
        · rcases List.mem_cons.mp h with h | h
          · exact h2 y (by rw [h]; exact List.mem_cons_self)
          · exact h2 y (List.mem_cons_of_mem _ h)
theorem imin_is : ∀ (a : Int) (r : List Int), imin a r ∈ a :: r ∧ ∀ y ∈ a :: r, imin a r ≤ y
  | a, [] => ⟨List.mem_cons_self, fun y h => by simp at h; rw [h]; exact Int.le_refl _⟩
  | a, b :: r => by
    obtain ⟨h1, h2⟩ := imin_is (match ilt b a with | true => b | false => a) r
    rw [imin]
    cases e : ilt b a
    · rw [e] at h1 h2
      have hab : ¬ b < a := fun q => by rw [ilt_iff.mpr q] at e; cases e
      refine ⟨?_, fun y hy => ?_⟩
      · rcases List.mem_cons.mp h1 with h | h
        · exact List.mem_cons.mpr (.inl h)
        · exact List.mem_cons_of_mem _ (List.mem_cons_of_mem _ h)
      · rcases List.mem_cons.mp hy with h | h
        · exact h2 y (by rw [h]; exact List.mem_cons_self)
        · rcases List.mem_cons.mp h with h | h
          · have := h2 a List.mem_cons_self
            simp only at this ⊢
            omega
          · exact h2 y (List.mem_cons_of_mem _ h)
    · rw [e] at h1 h2
      have hab := ilt_iff.mp e
      refine ⟨?_, fun y hy => ?_⟩
      · rcases List.mem_cons.mp h1 with h | h
        · exact List.mem_cons_of_mem _ (List.mem_cons.mpr (.inl h))
        · exact List.mem_cons_of_mem _ (List.mem_cons_of_mem _ h)
      · rcases List.mem_cons.mp hy with h | h
        · have := h2 b List.mem_cons_self
          simp only at this ⊢
          omega
        · rcases List.mem_cons.mp h with h | h
          · exact h2 y (by rw [h]; exact List.mem_cons_self)
          · exact h2 y (List.mem_cons_of_mem _ h)
/-- one list, or two intsD -/
def dMax : List D → T D
  | [d] => ofInts (fun ns => match ns with
    | a :: r => .ok (.int (imax a r))
    | [] => .no) d
  | [.int a, .int b] => .ok (.int (match ilt a b with | true => b | false => a))
  | _ => .no
def dMin : List D → T D
  | [d] => ofInts (fun ns => match ns with
    | a :: r => .ok (.int (imin a r))
    | [] => .no) d
  | [.int a, .int b] => .ok (.int (match ilt b a with | true => b | false => a))
  | _ => .no
def rMaxA (X : Cx) : List V → Hp → VK → Prop := fun vs H Q => (rMax X.K vs H Q ∨ ∃ (a : Addr) (ns : List Int), vs = [V.ref a] ∧ SqT X.K H a (ns.map V.int) ∧ 0 < ns.length ∧ ∀ m, m ∈ ns → (∀ y, y ∈ ns → y ≤ m) → Q (.int m) H) ∨ ∃ i j, vs = [.int i, .int j] ∧ Q (.int (if j > i then j else i)) H
def rMinA (X : Cx) : List V → Hp → VK → Prop := fun vs H Q => (rMin X.K vs H Q ∨ ∃ (a : Addr) (ns : List Int), vs = [V.ref a] ∧ SqT X.K H a (ns.map V.int) ∧ 0 < ns.length ∧ ∀ m, m ∈ ns → (∀ y, y ∈ ns → m ≤ y) → Q (.int m) H) ∨ ∃ i j, vs = [.int i, .int j] ∧ Q (.int (if j < i then j else i)) H
theorem dpAll_ints {K : PySem.W.Frag} {H : Hp} : ∀ ns : List Int, DpAll K H (ns.map V.int) (ns.map PyData.int)
  | [] => .nil
  | n :: r => .cons (.int n) (dpAll_ints r)
theorem alike_intsD (ns : List Int) : PySem.W.AlikeAll (ns.map PyData.int) := by
  refine ⟨fun x hx y hy => ?_, fun x hx => ?_⟩
  · obtain ⟨i, _, rfl⟩ := List.mem_map.mp hx
    obtain ⟨j, _, rfl⟩ := List.mem_map.mp hy
    rfl
  · obtain ⟨i, _, rfl⟩ := List.mem_map.mp hx
    exact fun q => nomatch q
theorem depth_intsD (ns : List Int) : PyData.depthAll (ns.map PyData.int) = 0 := by
  induction ns with
  | nil => rfl
  | cons n r ih =>
    show max (PyData.depth (.int n)) (PyData.depthAll (r.map PyData.int)) = 0
    rw [ih]; rfl
theorem foldl_max : ∀ (r : List Int) (a : Int), r.foldl max a = imax a r
  | [], a => rfl
  | b :: r, a => by
    rw [List.foldl_cons, foldl_max r, imax]
    cases e : ilt a b
    · have : ¬ a < b := fun q => by rw [ilt_iff.mpr q] at e; cases e
      rw [show max a b = a by omega]
    · have := ilt_iff.mp e
      rw [show max a b = b by omega]
theorem foldl_min : ∀ (r : List Int) (a : Int), r.foldl min a = imin a r
  | [], a => rfl
  | b :: r, a => by
    rw [List.foldl_cons, foldl_min r, imin]
    cases e : ilt b a
    · have : ¬ b < a := fun q => by rw [ilt_iff.mpr q] at e; cases e
      rw [show min a b = a by omega]
    · have := ilt_iff.mp e
      rw [show min a b = b by omega]
theorem call_maxA {X : Cx} (hc : X.calm = true) (hu : X.A.units + 1 < cLine) : CallR X (.builtin "max") (rMaxA X) := CallR.or (CallR.or (cr_max hc) fun pins s σ H xs us Q I r h => by
  obtain ⟨a, ns, rfl, hs, hne, q⟩ := h
  obtain ⟨its, rv, hl, _⟩ := I.tuple hs
  rw [Vals.ref1 r]
  cases ns with
  | nil => exact absurd hne (by simp)
  | cons n ns =>
    obtain ⟨as, ra⟩ := Dp.readsAll I _ _ its (dpAll_ints (K := X.K) (H := H) (n :: ns)) rv
    refine PySem.W.max_tuple_data (I.ok.hd hc) hl (x := .int n) (xs := ns.map .int) ra (alike_intsD (n :: ns)) (by rw [show PyData.depthAll (PyData.int n :: ns.map .int) = 0 from depth_intsD (n :: ns)]; exact hu) fun i v h' tk bs hv hr hk => ?_
    rw [PySem.W.maxD_ints, foldl_max] at hr
    cases hr
    obtain ⟨h1, h2⟩ := imax_is n ns
    exact ⟨.int _, H, I.kept hk, ⟨_, rfl⟩, q _ h1 h2⟩) (call_max2 hc)
theorem call_minA {X : Cx} (hc : X.calm = true) (hu : X.A.units + 1 < cLine) : CallR X (.builtin "min") (rMinA X) := CallR.or (CallR.or (cr_min hc) fun pins s σ H xs us Q I r h => by
  obtain ⟨a, ns, rfl, hs, hne, q⟩ := h
  obtain ⟨its, rv, hl, _⟩ := I.tuple hs
  rw [Vals.ref1 r]
  cases ns with
  | nil => exact absurd hne (by simp)
  | cons n ns =>
    obtain ⟨as, ra⟩ := Dp.readsAll I _ _ its (dpAll_ints (K := X.K) (H := H) (n :: ns)) rv
    refine PySem.W.min_tuple_data (I.ok.hd hc) hl (x := .int n) (xs := ns.map .int) ra (alike_intsD (n :: ns)) (by rw [show PyData.depthAll (PyData.int n :: ns.map .int) = 0 from depth_intsD (n :: ns)]; exact hu) fun i v h' tk bs hv hr hk => ?_
    rw [PySem.W.minD_ints, foldl_min] at hr
    cases hr
    obtain ⟨h1, h2⟩ := imin_is n ns
    exact ⟨.int _, H, I.kept hk, ⟨_, rfl⟩, q _ h1 h2⟩) (call_min2 hc)
theorem max_uniq {a m : Int} {r : List Int} (h1 : m ∈ a :: r) (h2 : ∀ y ∈ a :: r, y ≤ m) : m = imax a r := by
  obtain ⟨h3, h4⟩ := imax_is a r
  have := h2 _ h3
  have := h4 _ h1
  omega
theorem min_uniq {a m : Int} {r : List Int} (h1 : m ∈ a :: r) (h2 : ∀ y ∈ a :: r, m ≤ y) : m = imin a r := by
  obtain ⟨h3, h4⟩ := imin_is a r
  have := h2 _ h3
  have := h4 _ h1
  omega
theorem two_w {ds : List D} {vs : List V} {a b : D} {z : Zr} {P O : Addr → Prop} {H : Hp} (r : RepBs z P O H [a, b] vs) : ∃ v u, vs = [v, u] ∧ RepB z P O H a v ∧ RepB z P O H b u := by
  obtain ⟨v, q, e, rv, u, q2, e2, ru, e3⟩ := r
  have e3' : q2 = [] := e3
  exact ⟨v, u, by rw [e, e2, e3'], rv, ru⟩
theorem max_ok {X : Cx} : CallOk dMax (rMaxA X) := fun z P O H ds vs Q W r w => by
  match ds, w, r with
  | [d], w, r =>
    obtain ⟨d', v, e, rv, w⟩ := on1_w (f := fun d => dMax [d]) r w
    obtain ⟨p, ns, ev, q, w⟩ := ofInts_w (X := X) rv w
    subst e
    cases ns with
    | nil => exact (show False from w).elim
    | cons n ns =>
      rcases q with q | q
      · exact .inl (.inl ⟨p, n :: ns, by rw [ev], q, by simp, fun m h1 h2 => by rw [max_uniq h1 h2]; exact KD.self W (WP.ok w) rfl⟩)
      · exact .inl (.inr ⟨p, n :: ns, by rw [ev], q, by simp, fun m h1 h2 => by rw [max_uniq h1 h2]; exact KD.self W (WP.ok w) rfl⟩)
  | [.int a, .int b], w, r =>
    obtain ⟨v, u, e, rv, ru⟩ := two_w (ds := []) r
    refine .inr ⟨a, b, by rw [e, rv.int, ru.int], ?_⟩
    have k : KD z P O H Q (.int (match ilt a b with | true => b | false => a)) := WP.ok w
    cases e : ilt a b
    · have : ¬ b > a := fun q => by rw [ilt_iff.mpr q] at e; cases e
      rw [if_neg this]; rw [e] at k; exact KD.self W k rfl
    · have : b > a := ilt_iff.mp e
      rw [if_pos this]; rw [e] at k; exact KD.self W k rfl
theorem min_ok {X : Cx} : CallOk dMin (rMinA X) := fun z P O H ds vs Q W r w => by
  match ds, w, r with
  | [d], w, r =>
    obtain ⟨d', v, e, rv, w⟩ := on1_w (f := fun d => dMin [d]) r w
    obtain ⟨p, ns, ev, q, w⟩ := ofInts_w (X := X) rv w
    subst e
    cases ns with
    | nil => exact (show False from w).elim
    | cons n ns =>
      rcases q with q | q
      · exact .inl (.inl ⟨p, n :: ns, by rw [ev], q, by simp, fun m h1 h2 => by rw [min_uniq h1 h2]; exact KD.self W (WP.ok w) rfl⟩)
      · exact .inl (.inr ⟨p, n :: ns, by rw [ev], q, by simp, fun m h1 h2 => by rw [min_uniq h1 h2]; exact KD.self W (WP.ok w) rfl⟩)
  | [.int a, .int b], w, r =>
    obtain ⟨v, u, e, rv, ru⟩ := two_w (ds := []) r
    refine .inr ⟨a, b, by rw [e, rv.int, ru.int], ?_⟩
    have k : KD z P O H Q (.int (match ilt b a with | true => b | false => a)) := WP.ok w
    cases e : ilt b a
    · have : ¬ b < a := fun q => by rw [ilt_iff.mpr q] at e; cases e
      rw [if_neg this]; rw [e] at k; exact KD.self W k rfl
    · have : b < a := ilt_iff.mp e
      rw [if_pos this]; rw [e] at k; exact KD.self W k rfl

/-- any, all of a list of truth values -/
def bls : List D → Option (List Bool)
  | [] => some []
  | .bl i :: r => (bls r).map (i :: ·)
  | _ => none
theorem bls_v {sa' : Option Addr} {R : Addr → HO → Prop} : ∀ {ds : List D} {ns : List Bool} {vs : List V}, bls ds = some ns → Reps sa' R ds vs → vs = ns.map V.bl
  | [], _, _, h, r => by cases h; exact r
  | d :: ds, ns, _, h, ⟨v, q, e, rv, w⟩ => by
    cases d <;> first | (cases h; done) | skip
    rename_i i
    have h' : (bls ds).map (i :: ·) = some ns := h
    cases h1 : bls ds with
    | none => rw [h1] at h'; cases h'
    | some ms =>
      rw [h1] at h'
      cases h'
      rw [e, show v = V.bl i from rv, bls_v h1 w]; rfl
def dAny : D → T D
  | .lst ds => match bls ds with
    | some bs => .ok (.bl (bs.any id))
    | none => .no
  | _ => .no
def dAll : D → T D
  | .lst ds => match bls ds with
    | some bs => .ok (.bl (bs.all id))
    | none => .no
  | _ => .no
theorem any_ok {X : Cx} : CallOk (on1 dAny) (rAny X.K) := fun z P O H ds vs Q W r w => by
  obtain ⟨d, v, e, rv, w⟩ := on1_w r w
  subst e
  cases d <;> first | exact (show False from w).elim | skip
  rename_i ds
  obtain ⟨p, us, ev, hp, rr⟩ := rv.lst
  cases h : bls ds with
  | none => rw [show dAny (.lst ds) = .no by simp [dAny, h]] at w; exact w.elim
  | some bs =>
    rw [show dAny (.lst ds) = .ok (.bl (bs.any id)) by simp [dAny, h]] at w
    refine ⟨p, bs, by rw [ev], ?_, KD.self W (WP.ok w) rfl⟩
    rw [← bls_v h rr]; exact SqL.of hp
theorem all_ok {X : Cx} : CallOk (on1 dAll) (rAll X.K) := fun z P O H ds vs Q W r w => by
  obtain ⟨d, v, e, rv, w⟩ := on1_w r w
  subst e
  cases d <;> first | exact (show False from w).elim | skip
  rename_i ds
  obtain ⟨p, us, ev, hp, rr⟩ := rv.lst
  cases h : bls ds with
  | none => rw [show dAll (.lst ds) = .no by simp [dAll, h]] at w; exact w.elim
  | some bs =>
    rw [show dAll (.lst ds) = .ok (.bl (bs.all id)) by simp [dAll, h]] at w
    refine ⟨p, bs, by rw [ev], ?_, KD.self W (WP.ok w) rfl⟩
    rw [← bls_v h rr]; exact SqL.of hp
/-- tuple(..), list(..) of a list or a tuple -/
def dTupOf : D → T D
  | .lst ds => .ok (.tup ds)
  | .tup ds => .ok (.tup ds)
  | _ => .no
def dLstOf : D → T D
  | .lst ds => .ok (.lst ds)
  | .tup ds => .ok (.lst ds)
  | _ => .no
theorem tupOf_ok {X : Cx} : CallOk (on1 dTupOf) (fun xs H Q => ∃ p ys, xs = [.ref p] ∧ ((SqL X.K H p ys ∧ ∀ l, H l = none → Q (.ref l) (upd H l (.tup ys))) ∨ (SqT X.K H p ys ∧ Q (.ref p) H))) := fun z P O H ds vs Q W r w => by
  obtain ⟨d, v, e, rv, w⟩ := on1_w r w
  subst e
  cases d <;> first | exact (show False from w).elim | skip
  · obtain ⟨p, us, ev, vw, hp, rr⟩ := rv.tup
    exact ⟨p, us, by rw [ev], .inr ⟨SqT.of hp, KD.self W (WP.ok w) ⟨p, us, rfl, vw, rr⟩⟩⟩
  · obtain ⟨p, us, ev, hp, rr⟩ := rv.lst
    exact ⟨p, us, by rw [ev], .inl ⟨SqL.of hp, KD.tup W (WP.ok w) rr⟩⟩
theorem lstOf_ok {X : Cx} : CallOkF (on1 dLstOf) (fun xs H Q => ∃ p ys, xs = [.ref p] ∧ (SqL X.K H p ys ∨ SqT X.K H p ys) ∧ ∀ l, H l = none → Q (.ref l) (upd H l (.lst ys))) := fun z P O H ds vs Q W r w => by
  obtain ⟨d, v, e, rv, w⟩ := on1_w r w
  subst e
  cases d <;> first | exact (show False from w).elim | skip
  · obtain ⟨p, us, ev, vw, hp, rr⟩ := rv.tup
    exact ⟨p, us, by rw [ev], .inr (SqT.of hp), fun l hl => WP.ok w l _ hl (same_new hl) (src_new W.src hl) ⟨us, upd_same, rr.mono (Vw.old hl (same_new hl))⟩⟩
  · obtain ⟨p, us, ev, hp, rr⟩ := rv.lst
    exact ⟨p, us, by rw [ev], .inl (SqL.of hp), fun l hl => WP.ok w l _ hl (same_new hl) (src_new W.src hl) ⟨us, upd_same, rr.mono (Vw.old hl (same_new hl))⟩⟩
end
end DL

set_option Elab.async false
set_option linter.all false
set_option maxRecDepth 100000
/-! Defs that are called where nothing is being shown (no repr runs around): as FnOk, with that known. -/
namespace DL
noncomputable section
open PySem PySem.Spec PyProof.Rows L2

/-- room, and no repr around -/
structure Rm (k : Nat) (A : Around) : Prop where
  room : Room k A
  gd : A.guards = some []
theorem Rm.mono {j k : Nat} {A : Around} (r : Rm k A) (h : j ≤ k) : Rm j A := ⟨r.room.mono h, r.gd⟩
theorem Rm.u64 {k : Nat} {A : Around} (r : Rm k A) : A.units + 65 < cLine := by
  have := r.room.un
  omega
theorem Rm.u1 {k : Nat} {A : Around} (r : Rm k A) : A.units + 1 < cLine := by
  have := r.room.un
  omega

section
variable (P : Program) (w : World) (K : PySem.W.Frag) (mg : Str → Option Value) (base : Heap)
structure FnG (k : Nat) (f : Addr) (fd : FuncData) (ps : List Str) (sp : Sp) : Prop where
  len : ∀ vs H Q E, sp vs H Q E → vs.length = ps.length
  run : ∀ (A : Around) (outer : List Env) (s : Shared) (H : Hp) (args : Args) (us : List Value) (vs : List V) (Q : VK),
    Rm k A → Env0 P w K mg base A outer s H → BindsTo s fd args (ps.zip us) → Vals vs us → sp vs H Q E0 →
    codeAny (model P w) A (.call (.ref f) args) (fun r s' => ∃ u, r = .ok (.ret u) ∧ CE outer P w H s Q u s') s
end
section
variable {P : Program} {w : World} {K : PySem.W.Frag} {mg : Str → Option Value} {base : Heap}
theorem FnG.mono {j k : Nat} {f : Addr} {fd : FuncData} {ps : List Str} {sp : Sp} (F : FnG P w K mg base j f fd ps sp) (h : j ≤ k) : FnG P w K mg base k f fd ps sp :=
  ⟨F.len, fun A o s H a us vs Q r => F.run A o s H a us vs Q (r.mono h)⟩
/-- a def by its body -/
theorem fnG_of {x qual : Str} {st : Stmt} {f : Addr} {fd : FuncData} {N ps : List Str} {k : Nat} {sp : Sp} (F : Fun K x qual st f fd) (S : FnScope N ps (defScope st)) (len : ∀ vs H Q E, sp vs H Q E → vs.length = ps.length)
    (body : ∀ (cdv : Value) (A : Around) (outer : List Env) (s : Shared) (H : Hp) (vs : List V) (Q : VK), Rm k (A.deeper (envOfC qual (defScope st) s.heap.objs.size f cdv)) → sp vs H Q E0 →
      ∃ t, PSs (cxOf CX0 P w K mg base N qual (defScope st) f cdv A outer s H E0).nox (defBody st) t ∧ t { nx := fun _ H' => Q .non H', rt := Q } (start N vs) H) : FnG P w K mg base (k + 1) f fd ps sp := by
  obtain ⟨oc, od, kV, doc, pm, an, cv, ct, sl, efd, look, hcode⟩ := F.ex
  refine ⟨len, fun A outer s H args us vs Q hr env hb rv hsp => ?_⟩
  have inK := env.mod.kin.keeps fun b o e => (env.bs b o e).1
  have noLim := env.mod.nolimit.keeps fun b o e => (env.bs b o e).1
  subst efd
  have kinds : ∀ y ∈ ps.zip us, (defScope st).names.lookup y.1 = some .local ∨ ((defScope st).names.lookup y.1 = some .cell ∧ ((cellsFrom (s.heap.objs.size + 1) (defScope st).names []).lookup y.1).isSome = true) := by
    intro y hy
    have hp : y.1 ∈ ps := (List.of_mem_zip (show (y.1, y.2) ∈ _ from hy)).1
    refine (S.par y.1 hp).imp id fun q => ⟨q, ?_⟩
    exact PySem.W.cellsFrom_some _ _ _ (.inl q)
  have hd := hr.room
  refine codeAny_call_function hd.depth (inK _ _ look) rfl S.co S.gen rfl (PySem.W.codeRec_of inK hcode) (hb _ _ _ _ ?_)
  refine wpAny_newFunctionEnv_cells S.kind kinds fun env' he s1 x => ?_
  subst he
  refine ⟨noLim.keeps x.toInCall.keep, codeAny_func ?_⟩
  have deep : Rm k (A.deeper (envOfC qual (defScope st) s.heap.objs.size f cv)) := ⟨hd.deeper _, hr.gd⟩
  obtain ⟨t, ht, q⟩ := body cv A outer s H vs Q deep hsp
  have I0 : Inv (cxOf CX0 P w K mg base N qual (defScope st) f cv A outer s H E0) [] (start N vs) H s1 := inv_start S hd.hd env (len _ _ _ _ hsp) rv x
  have I : Inv ((cxOf CX0 P w K mg base N qual (defScope st) f cv A outer s H E0).nox) [] (start N vs) H s1 := I0.wish _
  refine wpAny_mono (ht.run [] s1 (start N vs) H _ I q) (fun fl s' hs => ?_) fun e s' hs => hs.elim
  cases fl with
  | ret u =>
    obtain ⟨v, σ', H', J, r', q'⟩ := hs
    exact ⟨u, rfl, v, H', J.os, J.bare, J.base, J.hok, r', q'⟩
  | next =>
    obtain ⟨σ', H', J, q'⟩ := hs
    exact ⟨.none, rfl, .non, H', J.os, J.bare, J.base, J.hok, rfl, q'⟩
  | brk =>
    obtain ⟨_, _, _, q'⟩ := hs
    exact q'.elim
  | cont =>
    obtain ⟨_, _, _, q'⟩ := hs
    exact q'.elim
/-- a call of it -/
theorem g_call {X : Cx} {k : Nat} {f : Addr} {fd : FuncData} {ps : List Str} {sp : Sp} {x : Str} {p pos : Pos} {e : Expr} {es : List Expr} {t : TA} (F : FnG X.prog X.w X.K X.mg X.base k f fd ps sp) (hr : Rm k X.A) (hg : Gl X x) (hm : X.mg x = some (.ref f))
    (hk : PySem.W.keepIn X.K (.ref f) = true) (hb : Binds X.K fd ps []) (ha : PA X (e :: es) t) (hdb : (x == ("__debug__" : Str)) = false := by decide) (he : starEach (e :: es) X.env = (false, eval e X.env) :: starEach es X.env := by rfl)
    (hpl : (backTo pos (starEach es X.env)).any (·.1) = false := by rfl) : PE X (.Call (.Name x p) (e :: es) [] pos) (fun σ H Q => t σ H fun vs H1 => sp vs H1 Q E0) := by
  constructor
  intro pins s σ H Q I h
  apply wpAny_Call_Name_kw
  apply ld_glob I hg hm _ hdb
  apply PySem.W.callWith_K (h₀ := X.base) I.ok.mod.kin hk _ he hpl
  refine thn (ha.run pos pins s σ H _ I h) fun us s1 hs => ?_
  obtain ⟨vs, H1, J, rv, q⟩ := hs
  have hl : us.length = ps.length := rv.length.symm.trans (F.len _ _ _ _ q)
  have bind := hb s1 us J.kIn (by rw [List.append_nil]; exact hl)
  rw [List.append_nil] at bind
  refine ⟨J.kIn, wpAny_call (codeAny_mono (F.run X.A X.stack s1 H1 ⟨us, []⟩ us vs Q hr J.env0 bind rv q) fun r s' hq => ?_)⟩
  obtain ⟨u, rfl, ce⟩ := hq
  exact J.after ce
/-- the law, called with its script -/
theorem law_g {mb : Str → Option Value} {k : Nat} {fa a : Addr} {fd : FuncData} {x : Str} {sp : Sp} {s₁ : Shared} {vs : List Value} {ns : List Int} (inK : K.In s₁.heap) (hns : s₁.heap.Ns mainGlobals mg) (hb : s₁.heap.Ns builtinsNs mb)
    (hbb : ∀ x : Str, x ≠ "__name__" → mb x = bootBuiltins x) (lim : s₁.heap.NoLimit) (nogen : s₁.gens = #[]) (ha : s₁.heap.get? a = some { cls := .type "list", data := .seq vs.toArray }) (hi : IntsAre vs ns) (hl : ns.length ≤ sizeLine)
    (hr : Rm k callerA) (F : ∀ base : Heap, K.In base → base.Ns mainGlobals mg → FnG P w K mg base k fa fd [x] sp) (bind : ∀ (s : Shared) (u : Value), BindsTo s fd ⟨[u], []⟩ [(x, u)])
    (hsp : ∀ H : Hp, Only H → SqL K H a (ns.map V.int) → sp [.ref a] H (fun v _ => v = .bl true) E0) :
    codeAny (model P w) callerA (.call (.ref fa) ⟨[.ref a], []⟩) (fun r s' => r = .ok (.ret (.bool true)) ∧ OldK s₁.heap s'.heap ∧ s'.os = s₁.os ∧ AllBare s'.gens) s₁ := by
  have vv := vals_ints hi
  have run : ∀ H : Hp, Only H → SqL K H a (ns.map V.int) → HOk P w H s₁.heap → (∀ b u, H b = some u → b = a ∧ K.lookup a = none) →
      codeAny (model P w) callerA (.call (.ref fa) ⟨[.ref a], []⟩) (fun r s' => r = .ok (.ret (.bool true)) ∧ OldK s₁.heap s'.heap ∧ s'.os = s₁.os ∧ AllBare s'.gens) s₁ := by
    intro H only sq ok at'
    have free : ∀ {b : Addr} {o : Obj}, s₁.heap.get? b = some o → (b = a → K.lookup a ≠ none) → (hidT s₁.heap H).get? b = some o := by
      intro b o e n
      refine hidT_get e ?_
      cases q : H b with
      | none => rfl
      | some u => obtain ⟨e', k'⟩ := at' b u q; exact absurd k' (n e')
    have freeNs : ∀ {b : Addr} {m : Str → Option Value}, s₁.heap.Ns b m → (hidT s₁.heap H).Ns b m := by
      intro b m hn
      obtain ⟨o, es, ep, e, d, r⟩ := hn
      refine ⟨o, es, ep, ?_, d, r⟩
      refine hidT_get e ?_
      cases q : H b with
      | none => rfl
      | some u =>
        have e' := (at' b u q).1
        rw [e', ha] at e
        cases e
        cases d
    have inB : K.In (hidT s₁.heap H) := fun b o e => free (inK b o e) fun q => by rw [← q, e]; exact fun z => nomatch z
    have env : Env0 P w K mg (hidT s₁.heap H) callerA [] s₁ H := by
      refine ⟨rfl, ⟨inB, freeNs hns, ⟨mb, freeNs hb, hbb⟩, ?_⟩, fun b o e => of_hidT e, Nat.le_of_eq (hidT_size _ _), trivial, fun b hb' => absurd (show b ∈ ([] : List Addr) from hb') (by simp), ok, .of_eq nogen⟩
      obtain ⟨mc, h1, h2⟩ := lim
      exact ⟨mc, freeNs h1, h2⟩
    refine codeAny_mono ((F _ inB (freeNs hns)).run callerA [] s₁ H ⟨[.ref a], []⟩ [.ref a] [.ref a] _ hr env (bind s₁ (.ref a)) (.cons rfl .nil) (hsp H only sq)) fun r s' h => ?_
    obtain ⟨u, er, v, H', os, bare, un, ok', rv, ev⟩ := h
    have ev' : v = .bl true := ev
    subst ev'
    have eu : u = Value.bool true := rv
    subst eu
    refine ⟨er, OldK.of_keep fun b o e => ?_, os, bare⟩
    cases q : H b with
    | none => exact un.keep b o e q (by intro z; exact absurd (show b ∈ ([] : List Addr) from z) (by simp)) (by simp)
    | some u =>
      rcases only b with z | ⟨ob, xs, z⟩
      · rw [q] at z; cases z
      · have k1 := (ok b _ z).1
        have k2 := (ok' b _ (un.frzs b ob _ z)).1
        rw [e] at k1
        cases k1
        exact k2
  by_cases hk : K.lookup a = none
  · let H : Hp := fun b => if b = a then some (.frz { cls := .type "list", data := .seq vs.toArray } (.lst (ns.map V.int))) else none
    have hH : H a = some (.frz { cls := .type "list", data := .seq vs.toArray } (.lst (ns.map V.int))) := if_pos rfl
    have hN : ∀ b, b ≠ a → H b = none := fun b h => if_neg h
    refine run H (fun b => ?_) (.inl (.inr ⟨_, hH⟩)) (fun b u e => ?_) fun b u e => ⟨?_, hk⟩
    · by_cases q : b = a
      · subst q; exact .inr ⟨_, _, hH⟩
      · exact .inl (hN b q)
    · by_cases q : b = a
      · subst q
        rw [hH] at e
        cases e
        exact ⟨ha, by rw [List.length_map]; exact hl, vs, _, vv, ha⟩
      · rw [hN b q] at e; cases e
    · by_cases q : b = a
      · exact q
      · rw [hN b q] at e; cases e
  · cases e : K.lookup a with
    | none => exact absurd e hk
    | some o =>
      have eo := inK a o e
      rw [ha] at eo
      cases eo
      have hz : vs.toArray.size ≤ sizeLine := by rw [List.size_toArray, hi.length]; exact hl
      exact run (fun _ => none) (fun _ => .inl rfl) (.inr ⟨_, vs.toArray, _, e, rfl, rfl, rfl, hz, by simpa using vv⟩) (fun b u z => absurd (show (none : Option HO) = some u from z) (by simp)) fun b u z => absurd (show (none : Option HO) = some u from z) (by simp)
end
/-- the end of a law's row -/
theorem walk_g {l : PySem.W.OpenLaw} {n k : Nat} {q : Program} {loose : List Str} {XP : (Str → Option Value) → Heap → Prop} {YP : World → Heap → Prop} {d : DefRec} {K : Params → PySem.W.Frag} {sp : World → Sp} {x : Str} (hn : l.most = some n) (hn2 : n ≤ sizeLine) (hdf : d.params.defaults = [])
    (hr : Rm k callerA) (hY : ∀ (w : World) (h : Heap), YP w h → (K w.params).In h)
    (F : ∀ (w : World) (mg : Str → Option Value) (fa : Addr) (h : Heap), (K w.params).In h → h.Ns mainGlobals mg → mg d.name = some (.ref fa) →
      ∃ fd : FuncData, (∀ (s : Shared) (u : Value), BindsTo s fd ⟨[u], []⟩ [(x, u)]) ∧ ∀ base : Heap, (K w.params).In base → base.Ns mainGlobals mg → FnG l.prog w (K w.params) mg base k fa fd [x] (sp w))
    (hsp : ∀ (w : World) (H : Hp) (a : Addr) (ns : List Int), ns.length ≤ n → Only H → SqL (K w.params) H a (ns.map V.int) → sp w [.ref a] H (fun v _ => v = .bl true) E0) :
    PySem.W.WalkO q loose XP YP l.row.toRowW d [] (fun f vs => PySem.call f vs) := by
  apply Att.attach_call hn hdf
  intro w s₀ s₁ mg mb fa o pm cd doc a vs ns G Y _ _ _ hmg hobj hints hlen hg
  obtain ⟨fd, hb, hF⟩ := F w mg fa _ (hY w _ Y) G.T.g hmg
  exact law_g (hY w _ Y) G.T.g G.T.b G.T.builtins G.T.nolimit hg hobj hints (Nat.le_trans hlen hn2) hr hF hb fun H hO hS => hsp w H a ns hlen hO hS
end
end DL

set_option Elab.async false
set_option linter.all false
set_option maxRecDepth 100000
namespace DL
noncomputable section
open PySem PySem.Spec PyProof.Rows L2

/-! ### calls of defs -/
abbrev O0 : Addr → Prop := fun _ => False
/-- what a def promises: called with data it gives what F gives -/
def spF (n : Nat) (F : List D → T D) : Sp := fun vs H Q _ => vs.length = n ∧ ∃ z P ds, Ws z P O0 H ∧ Reps (sa z) (Vw z P O0 H) ds vs ∧ WP (F ds) fun d => ∀ v H', SameS z H H' → Src z H' → Rep (sa z) (Vw z P O0 H') d v → Q v H'
structure Has (P : Program) (w : World) (K : PySem.W.Frag) (mg : Str → Option Value) (base : Heap) (k : Nat) (x : Str) (n : Nat) (F : List D → T D) : Prop where
  ex : ∃ f fd ps, FnG P w K mg base k f fd ps (spF n F) ∧ mg x = some (.ref f) ∧ PySem.W.keepIn K (.ref f) = true ∧ Binds K fd ps []
section
variable {X : Cx} {x : Str} {p pos : Pos} {e : Expr} {es : List Expr} {g : Ev → T (List D)} {k n : Nat} {F : List D → T D}
theorem Reps.len' {ds : List D} {vs : List V} {s : Option Addr} {R : Addr → HO → Prop} (r : Reps s R ds vs) {n : Nat} (h : ds.length = n) : vs.length = n := by rw [r.length, h]
/-- a call's arguments checked for their number -/
def fCall (n : Nat) (F : List D → T D) (g : Ev → T (List D)) : Ev → T D := fun ρ => (g ρ).bind fun ds => tIf (Nat.beq ds.length n) (F ds)
theorem dcall (h : Has X.prog X.w X.K X.mg X.base k x n F) (hr : Rm k X.A) (hg : Gl X x) (ha : PA X (e :: es) (tDs g)) (hdb : (x == ("__debug__" : Str)) = false := by decide)
    (he : starEach (e :: es) X.env = (false, eval e X.env) :: starEach es X.env := by rfl) (hpl : (backTo pos (starEach es X.env)).any (·.1) = false := by rfl) : PE X (.Call (.Name x p) (e :: es) [] pos) (tD (fCall n F g)) := by
  obtain ⟨f, fd, ps, G, hm, hk, hb⟩ := h.ex
  refine PE.imp (g_call G hr hg hm hk hb ha hdb he hpl) fun σ H Q ⟨z, P, O, ρ, R, w⟩ => ?_
  refine ⟨z, P, O, ρ, R, (WP.bind w).mono fun ds w2 vs H1 g1 s1 r1 => ?_⟩
  obtain ⟨hl, w3⟩ := tIf_w w2
  have R1 := R.grow g1 s1
  refine ⟨r1.len' (Nat.eq_of_beq_eq_true hl), z, fun b => P b ∨ O b, ds, ⟨s1, fun b h => h.elim, fun b h => h.elim (fun h => R1.prt b h) fun h => (R1.own b h).1⟩, r1.mono fun a u ⟨h1, h2, h3, h4⟩ => ⟨fun h => h, fun h => h.elim h2 h1, h3, h4⟩, w3.mono fun d k v H2 g2 s2 r2 => ?_⟩
  exact k v H2 (g1.trans g2) s2 (r2.mono fun a u ⟨h1, h2, h3, h4⟩ => ⟨fun h => h2 (.inr h), fun h => h2 (.inl h), h3, h4⟩)
/-- arguments lent: the answer holds no object -/
def fCallB (n : Nat) (F : List D → T D) (g : Ev → T (List D)) : Ev → T D := fun ρ => (g ρ).bind fun ds => tIf (Nat.beq ds.length n) ((F ds).bind fun d => tIf (flat d) (.ok d))
theorem RepB.low {z : Zr} {P O : Addr → Prop} {H : Hp} {d : D} {v : V} (r : RepB z P O H d v) : Rep (sa z) (Vw z P O0 H) d v := by
  have m : ∀ a u, Vw z P O H a u → Vw z P O0 H a u := fun a u ⟨h1, h2, h3, h4⟩ => ⟨fun h => h, h2, h3, h4⟩
  rcases r with r | ⟨p, e, o, h1, h2, t⟩
  · exact r.mono m
  · subst e
    cases d with
    | lst ds => obtain ⟨vs, q, r⟩ := t; exact ⟨p, vs, rfl, ⟨fun h => h, h1, h2, q⟩, r.mono m⟩
    | dct b kvs =>
      cases b
      · obtain ⟨vs, q, r⟩ := t; exact ⟨p, vs, rfl, ⟨fun h => h, h1, h2, q⟩, r.mono m⟩
      · obtain ⟨vs, q, r⟩ := t; exact ⟨p, vs, rfl, ⟨fun h => h, h1, h2, q⟩, r.mono m⟩
    | _ => exact t.elim
theorem RepBs.low {z : Zr} {P O : Addr → Prop} {H : Hp} : ∀ {ds : List D} {vs : List V}, RepBs z P O H ds vs → Reps (sa z) (Vw z P O0 H) ds vs
  | [], _, h => h
  | _ :: _, _, ⟨v, r, e, q, w⟩ => ⟨v, r, e, q.low, w.low⟩
theorem flat_any {s : Option Addr} {R R' : Addr → HO → Prop} {d : D} {v : V} (h : flat d = true) (r : Rep s R d v) : Rep s R' d v := by
  cases d <;> first | exact r | exact absurd (show false = true from h) Bool.false_ne_true
theorem dcallB (h : Has X.prog X.w X.K X.mg X.base k x n F) (hr : Rm k X.A) (hg : Gl X x) (ha : PA X (e :: es) (tBs g)) (hdb : (x == ("__debug__" : Str)) = false := by decide)
    (he : starEach (e :: es) X.env = (false, eval e X.env) :: starEach es X.env := by rfl) (hpl : (backTo pos (starEach es X.env)).any (·.1) = false := by rfl) : PE X (.Call (.Name x p) (e :: es) [] pos) (tD (fCallB n F g)) := by
  obtain ⟨f, fd, ps, G, hm, hk, hb⟩ := h.ex
  refine PE.imp (g_call G hr hg hm hk hb ha hdb he hpl) fun σ H Q ⟨z, P, O, ρ, R, w⟩ => ?_
  refine ⟨z, P, O, ρ, R, (WP.bind w).mono fun ds w2 vs H1 g1 s1 r1 => ?_⟩
  obtain ⟨hl, w3⟩ := tIf_w w2
  have R1 := R.grow g1 s1
  refine ⟨r1.low.len' (Nat.eq_of_beq_eq_true hl), z, P, ds, ⟨s1, fun b h => h.elim, R1.prt⟩, r1.low, (WP.bind w3).mono fun d k v H2 g2 s2 r2 => ?_⟩
  obtain ⟨hf, k⟩ := tIf_w k
  exact WP.ok k v H2 (g1.trans g2) s2 (flat_any hf r2)
end

/-! ### statements -/
inductive Res where
  | nx (ρ : Ev) | rt (d : D)
/-- what was seen is as it was, and still seen -/
def SameV (z : Zr) (O : Addr → Prop) (H : Hp) (O' : Addr → Prop) (H' : Hp) : Prop := ∀ b o, ¬ O b → ¬ inS z b → H b = some o → ¬ O' b ∧ H' b = some o
def SameR (z : Zr) (O : Addr → Prop) (H H' : Hp) : Prop := ∀ b o, ¬ O b → ¬ inS z b → H b = some o → H' b = some o
section
variable {z : Zr} {P O O1 O2 : Addr → Prop} {H H1 H2 : Hp}
theorem SameV.refl : SameV z O H O H := fun _ _ h _ e => ⟨h, e⟩
theorem SameV.of (g : SameS z H H1) : SameV z O H O H1 := fun b o h n e => ⟨h, g b o n e⟩
theorem SameV.trans (a : SameV z O H O1 H1) (b : SameV z O1 H1 O2 H2) : SameV z O H O2 H2 := fun c o h n e => b c o (a c o h n e).1 n (a c o h n e).2
theorem SameV.ret (a : SameV z O H O1 H1) (b : SameR z O1 H1 H2) : SameR z O H H2 := fun c o h n e => b c o (a c o h n e).1 n (a c o h n e).2
theorem SameR.of (g : SameS z H H1) : SameR z O H H1 := fun b o _ n e => g b o n e
theorem Vw.later (g : SameV z O H O1 H1) : ∀ a u, Vw z P O H a u → Vw z P O1 H1 a u := fun a u ⟨h1, h2, h3, h4⟩ => by
  rcases h4 with h4 | ⟨k, o, h4⟩
  · exact ⟨(g a _ h1 h3 h4).1, h2, h3, .inl (g a _ h1 h3 h4).2⟩
  · exact ⟨(g a _ h1 h3 h4).1, h2, h3, .inr ⟨k, o, (g a _ h1 h3 h4).2⟩⟩
end
abbrev KR (z : Zr) (P O : Addr → Prop) (H : Hp) (D : Ends) : Res → Prop
  | .nx ρ' => ∀ σ' H' O', SameV z O H O' H' → Rel z P O' ρ' σ' H' → D.nx σ' H'
  | .rt d => ∀ v H', SameR z O H H' → Src z H' → Rep (sa z) (Vw z P O0 H') d v → D.rt v H'
def tS (F : Ev → T Res) : TS := fun D σ H => ∃ z P O ρ, Rel z P O ρ σ H ∧ WP (F ρ) (KR z P O H D)
theorem KR.later {z : Zr} {P O O1 : Addr → Prop} {H H1 : Hp} {D : Ends} {r : Res} (k : KR z P O H D r) (g : SameV z O H O1 H1) : KR z P O1 H1 D r := by
  cases r with
  | nx ρ' => exact fun σ' H' O' g2 R => k σ' H' O' (g.trans g2) R
  | rt d => exact fun v H' g2 s r => k v H' (g.ret g2) s r
def fNx : Ev → T Res := fun ρ => .ok (.nx ρ)
def fSeq (F G : Ev → T Res) : Ev → T Res := fun ρ => (F ρ).bind fun r => match r with
  | .nx ρ' => G ρ'
  | .rt d => .ok (.rt d)
def fRet (f : Ev → T D) : Ev → T Res := fun ρ => (f ρ).bind fun d => .ok (.rt d)
def fRetN : Ev → T Res := fun _ => .ok (.rt .non)
def fDrop (f : Ev → T D) : Ev → T Res := fun ρ => (f ρ).bind fun _ => .ok (.nx ρ)
def fIfS (c : Ev → T Bool) (F G : Ev → T Res) : Ev → T Res := fun ρ => (c ρ).bind fun b => match b with
  | true => F ρ
  | false => G ρ
def Ev.put : Ev → Nat → Sl → Ev
  | [], _, _ => []
  | _ :: r, 0, s => s :: r
  | x :: r, n + 1, s => x :: Ev.put r n s
theorem Ev.put_set : ∀ (ρ : Ev) (i : Nat) (s : Sl), ρ.put i s = ρ.set i s
  | [], _, _ => rfl
  | _ :: _, 0, _ => rfl
  | x :: r, i + 1, s => congrArg (x :: ·) (Ev.put_set r i s)
def fSet (i : Nat) (f : Ev → T D) : Ev → T Res := fun ρ => (f ρ).bind fun d => .ok (.nx (ρ.put i (.sh d)))
def fSetF (i : Nat) (f : Ev → T D) : Ev → T Res := fun ρ => (f ρ).bind fun d => .ok (.nx (ρ.put i (.own d)))
section
variable {z : Zr} {P O : Addr → Prop} {H H' : Hp} {ρ : Ev} {σ : L2.St} {i : Nat} {d : D} {v : V}
theorem Rel.set (R : Rel z P O ρ σ H) (r : Rep (sa z) (Vw z P O H) d v) : Rel z P O (ρ.put i (.sh d)) (σ.set i (some v)) H where
  len := by rw [Ev.put_set, List.length_set, List.length_set]; exact R.len
  src := R.src
  own := R.own
  prt := R.prt
  at_ := fun j s x h1 h2 => by
    rw [Ev.put_set] at h1
    by_cases e : i = j
    · subst e
      rw [List.getElem?_set_self' ] at h1 h2
      cases e1 : ρ[i]? with
      | none => rw [e1] at h1; cases h1
      | some y =>
        cases e2 : σ[i]? with
        | none => rw [e2] at h2; cases h2
        | some y' =>
          rw [e1] at h1; rw [e2] at h2
          cases h1; cases h2
          exact ⟨v, rfl, r⟩
    · rw [List.getElem?_set_ne e] at h1 h2
      exact R.at_ j s x h1 h2
  one := fun j k s t p h1 h2 h3 h4 h5 h6 => by
    rw [Ev.put_set] at h1 h2
    by_cases e : i = j
    · subst e
      rw [List.getElem?_set_self'] at h1
      cases e1 : ρ[i]? with
      | none => rw [e1] at h1; cases h1
      | some y => rw [e1] at h1; cases h1; cases h3
    · by_cases e' : i = k
      · subst e'
        rw [List.getElem?_set_self'] at h2
        cases e1 : ρ[i]? with
        | none => rw [e1] at h2; cases h2
        | some y => rw [e1] at h2; cases h2; cases h4
      · rw [List.getElem?_set_ne e] at h1 h5
        rw [List.getElem?_set_ne e'] at h2 h6
        exact R.one j k s t p h1 h2 h3 h4 h5 h6
theorem top_nt {z : Zr} {V' : Addr → HO → Prop} {H : Hp} {p : Addr} {d : D} (t : Top z V' (fun u => H p = some u) d) : Nt H p := by
  cases d with
  | lst ds => obtain ⟨vs, e, _⟩ := t; exact ⟨_, e, fun _ q => nomatch q⟩
  | dct tk kvs => cases tk <;> (obtain ⟨vs, e, _⟩ := t; exact ⟨_, e, fun _ q => nomatch q⟩)
  | _ => exact t.elim
/-- an object made anew becomes owned -/
theorem Rel.setF (R : Rel z P O ρ σ H) {p : Addr} (hp : H p = none) (g : SameS z H H') (s : Src z H') (t : Top z (Vw z P (Ow O p) H') (fun u => H' p = some u) d) : Rel z P (Ow O p) (ρ.put i (.own d)) (σ.set i (some (.ref p))) H' where
  len := by rw [Ev.put_set, List.length_set, List.length_set]; exact R.len
  src := s
  own := fun b hb => by
    rcases hb with hb | e
    · exact (R.grow g s).own b hb
    · subst e
      refine ⟨top_nt t, not_src R.src hp, fun h => (R.prt b h).ne hp⟩
  prt := (R.grow g s).prt
  at_ := fun j s' x h1 h2 => by
    rw [Ev.put_set] at h1
    by_cases e : i = j
    · subst e
      rw [List.getElem?_set_self'] at h1 h2
      cases e1 : ρ[i]? with
      | none => rw [e1] at h1; cases h1
      | some y =>
        cases e2 : σ[i]? with
        | none => rw [e2] at h2; cases h2
        | some y' =>
          rw [e1] at h1; rw [e2] at h2
          cases h1; cases h2
          exact ⟨p, rfl, .inr rfl, t⟩
    · rw [List.getElem?_set_ne e] at h1 h2
      have q := R.at_ j s' x h1 h2
      cases s' with
      | non => trivial
      | sh d => obtain ⟨v, e, r⟩ := q; exact ⟨v, e, r.mono (Vw.old hp g)⟩
      | own d => obtain ⟨a, e, o, t⟩ := q; exact ⟨a, e, .inl o, t.mono (Vw.old hp g) fun u => g a u (R.own a o).2.1⟩
      | lent d => obtain ⟨a, e, o, t⟩ := q; exact ⟨a, e, .inl o, t.mono (Vw.old hp g) fun u => Rx.grow g (R.own a o).2.1⟩
  one := fun j k s t q h1 h2 h3 h4 h5 h6 => by
    rw [Ev.put_set] at h1 h2
    have old : ∀ (l : Nat) (s : Sl), i ≠ l → (ρ.set i (.own d))[l]? = some s → s.mine = true → (σ.set i (some (V.ref p)))[l]? = some (some (.ref q)) → q ≠ p := by
      intro l s hl e1 e2 e3 eq
      rw [List.getElem?_set_ne hl] at e1 e3
      have w := R.at_ l s _ e1 e3
      cases s with
      | non => cases e2
      | sh d => cases e2
      | own d => obtain ⟨a, e, o, _⟩ := w; cases e; exact (R.own _ o).1.ne (eq ▸ hp)
      | lent d => obtain ⟨a, e, o, _⟩ := w; cases e; exact (R.own _ o).1.ne (eq ▸ hp)
    have me : ∀ l : Nat, i = l → (σ.set i (some (V.ref p)))[l]? = some (some (.ref q)) → q = p := by
      intro l hl e
      subst hl
      rw [List.getElem?_set_self'] at e
      cases e2 : σ[i]? with
      | none => rw [e2] at e; cases e
      | some y => rw [e2] at e; cases e; rfl
    by_cases e : i = j
    · by_cases e' : i = k
      · exact e.symm.trans e'
      · exact absurd (me j e h5) (old k t e' h2 h4 h6)
    · by_cases e' : i = k
      · exact absurd (me k e' h6) (old j s e h1 h3 h5)
      · rw [List.getElem?_set_ne e] at h1 h5
        rw [List.getElem?_set_ne e'] at h2 h6
        exact R.one j k s t q h1 h2 h3 h4 h5 h6
theorem SameV.setF {p : Addr} (hp : H p = none) (g : SameS z H H') : SameV z O H (Ow O p) H' := by
  intro b o h n e
  refine ⟨fun q => ?_, g b o n e⟩
  rcases q with q | q
  · exact h q
  · subst q; rw [hp] at e; cases e
/-- p shut off -/
theorem Rel.protect (R : Rel z P O ρ σ H) {p : Addr} (hp : H p = none) (g : SameS z H H') (s : Src z H') (there : Nt H' p) : Rel z (fun b => P b ∨ b = p) O ρ σ H' := by
  have hv : ∀ a u, Vw z P O H a u → Vw z (fun b => P b ∨ b = p) O H' a u := by
    intro a u h
    obtain ⟨h1, h2, h3, h4⟩ := h
    refine ⟨h1, fun h => ?_, h3, Rx.grow g h3 h4⟩
    rcases h with h | e
    · exact h2 h
    · subst e
      rcases h4 with h4 | ⟨_, o, h4⟩
      · rw [hp] at h4; cases h4
      · rw [hp] at h4; cases h4
  have R1 := R.grow g s
  refine ⟨R.len, s, fun b hb => ⟨(R1.own b hb).1, (R1.own b hb).2.1, fun h => h.elim (R1.own b hb).2.2 fun e => (R.own b hb).1.ne (e ▸ hp)⟩, fun b hb => ?_, fun i s x h1 h2 => ?_, R.one⟩
  · rcases hb with hb | rfl
    · exact R1.prt b hb
    · exact there
  · have q := R.at_ i s x h1 h2
    cases s with
    | non => trivial
    | sh d => obtain ⟨v, e, r⟩ := q; exact ⟨v, e, r.mono hv⟩
    | own d => obtain ⟨a, e, o, t⟩ := q; exact ⟨a, e, o, t.mono hv fun u => g a u (R.own a o).2.1⟩
    | lent d => obtain ⟨a, e, o, t⟩ := q; exact ⟨a, e, o, t.mono hv fun u => Rx.grow g (R.own a o).2.1⟩
end
section
variable {X : Cx} {st : Stmt} {rest : List Stmt} {F G : Ev → T Res} {e : Expr} {f : Ev → T D} {pos : Pos}
theorem cnil : PSs X [] (tS fNx) := PSs.imp pss_nil fun D σ H ⟨z, P, O, ρ, R, w⟩ => WP.ok w σ H O SameV.refl R
theorem tSeq_D {D : Ends} {σ : L2.St} {H : Hp} (h : tS (fSeq F G) D σ H) : tSeq (tS F) (tS G) D σ H := by
  obtain ⟨z, P, O, ρ, R, w⟩ := h
  refine ⟨z, P, O, ρ, R, (WP.bind w).mono fun r w2 => ?_⟩
  cases r with
  | nx ρ' => exact fun σ' H' O' g R' => ⟨z, P, O', ρ', R', WP.mono (show WP (G ρ') _ from w2) fun r k => k.later g⟩
  | rt d => exact WP.ok w2
theorem cc (h1 : PS X st (tS F)) (h2 : PSs X rest (tS G)) : PSs X (st :: rest) (tS (fSeq F G)) := PSs.imp (pss_cons h1 h2) fun _ _ _ => tSeq_D
theorem c1 (h1 : PS X st (tS F)) : PSs X [st] (tS F) := pss_one h1
theorem sret (he : PE X e (tB f)) : PS X (.Return (some e) pos) (tS (fRet f)) := PS.imp (ps_ret he) fun D σ H ⟨z, P, O, ρ, R, w⟩ =>
  ⟨z, P, O, ρ, R, (WP.bind w).mono fun d w2 v H1 g1 s1 r1 => WP.ok w2 v H1 (SameR.of g1) s1 r1.low⟩
theorem sretN : PS X (.Return none pos) (tS fRetN) := PS.imp ps_retN fun D σ H ⟨z, P, O, ρ, R, w⟩ => WP.ok w .non H (fun _ _ _ _ e => e) R.src rfl
theorem sexpr (he : PE X e (tB f)) (hs : swapsWith e none pos.line X.env = pure false := by rfl) : PS X (.Expr e pos) (tS (fDrop f)) := PS.imp (ps_expr he hs) fun D σ H ⟨z, P, O, ρ, R, w⟩ =>
  ⟨z, P, O, ρ, R, (WP.bind w).mono fun d w2 v H1 g1 s1 r1 => WP.ok w2 σ H1 O (SameV.of g1) (R.grow g1 s1)⟩
theorem spass : PS X (.Pass pos) (tS fNx) := PS.imp ps_pass fun D σ H ⟨z, P, O, ρ, R, w⟩ => WP.ok w σ H O SameV.refl R
theorem sif {c : Expr} {a b : List Stmt} {t : Ev → T Bool} (hc : PT X c (tT t)) (ha : PSs X a (tS F)) (hb : PSs X b (tS G)) : PS X (.If c a b pos) (tS (fIfS t F G)) := PS.imp (ps_if hc ha hb) fun D σ H ⟨z, P, O, ρ, R, w⟩ =>
  ⟨z, P, O, ρ, R, (WP.bind w).mono fun k w2 H1 g1 s1 => by
    cases k
    · exact ⟨z, P, O, ρ, R.grow g1 s1, WP.mono (show WP (G ρ) _ from w2) fun r k => k.later (SameV.of g1)⟩
    · exact ⟨z, P, O, ρ, R.grow g1 s1, WP.mono (show WP (F ρ) _ from w2) fun r k => k.later (SameV.of g1)⟩⟩
theorem tAsg_D {i : Nat} {D : Ends} {σ : L2.St} {H : Hp} (h : tS (fSet i f) D σ H) : tAsg (tD f) (gName i) D σ H := by
  obtain ⟨z, P, O, ρ, R, w⟩ := h
  exact ⟨z, P, O, ρ, R, (WP.bind w).mono fun d w2 v H1 g1 s1 r1 => WP.ok w2 _ H1 O (SameV.of g1) ((R.grow g1 s1).set r1)⟩
theorem tAsg_F {i : Nat} {D : Ends} {σ : L2.St} {H : Hp} (h : tS (fSetF i f) D σ H) : tAsg (tF f) (gName i) D σ H := by
  obtain ⟨z, P, O, ρ, R, w⟩ := h
  exact ⟨z, P, O, ρ, R, (WP.bind w).mono fun d w2 p H1 hp g1 s1 t1 => WP.ok w2 _ H1 (Ow O p) (SameV.setF hp g1) (R.setF hp g1 s1 t1)⟩
theorem sset (i : Nat) {x : Str} {pos' : Pos} (hN : X.N.Nodup) (he : PE X e (tD f)) (hx : Loc X.env.scope x := by first | exact Or.inl rfl | exact Or.inr rfl) (hi : X.N[i]? = some x := by rfl) (hs : swapsWith e (some (.Name x pos')) pos.line X.env = pure false := by rfl)
    (hf : X.fn x = true ∨ X.env.scope.names.lookup x = some .local := by first | exact .inl rfl | exact .inr rfl | assumption) : PS X (.Assign [.Name x pos'] e pos) (tS (fSet i f)) := PS.imp (ps_set hN hi hx he hs hf) fun _ _ _ => tAsg_D
theorem ssetF (i : Nat) {x : Str} {pos' : Pos} (hN : X.N.Nodup) (he : PE X e (tF f)) (hx : Loc X.env.scope x := by first | exact Or.inl rfl | exact Or.inr rfl) (hi : X.N[i]? = some x := by rfl) (hs : swapsWith e (some (.Name x pos')) pos.line X.env = pure false := by rfl)
    (hf : X.fn x = true ∨ X.env.scope.names.lookup x = some .local := by first | exact .inl rfl | exact .inr rfl | assumption) : PS X (.Assign [.Name x pos'] e pos) (tS (fSetF i f)) := PS.imp (ps_set hN hi hx he hs hf) fun _ _ _ => tAsg_F
end

/-! ### several values at once, some of them new lists to be owned -/
def MixP (z : Zr) : (Addr → Prop) → (Addr → Prop) → Hp → List Sl → List V → Hp → Prop
  | _, _, H, [], vs, H' => vs = [] ∧ SameS z H H' ∧ Src z H'
  | P, O, H, .sh d :: ss, vs, H' => ∃ v r H1, vs = v :: r ∧ SameS z H H1 ∧ Src z H1 ∧ Rep (sa z) (Vw z P O H1) d v ∧ MixP z P O H1 ss r H'
  | P, O, H, .own d :: ss, vs, H' => ∃ p r H1, vs = .ref p :: r ∧ H p = none ∧ SameS z H H1 ∧ Src z H1 ∧ Top z (Vw z P (Ow O p) H1) (fun u => H1 p = some u) d ∧ MixP z (fun b => P b ∨ b = p) O H1 ss r H'
  | _, _, _, _, _, _ => False
def tMs (f : Ev → T (List Sl)) : TA := fun σ H Q => ∃ z P O ρ, Rel z P O ρ σ H ∧ WP (f ρ) fun ss => ∀ vs H', MixP z P O H ss vs H' → Q vs H'
def mNil : Ev → T (List Sl) := fun _ => .ok []
def mSh (f : Ev → T D) (g : Ev → T (List Sl)) : Ev → T (List Sl) := fun ρ => (f ρ).bind fun a => (g ρ).bind fun r => .ok (.sh a :: r)
def mOw (f : Ev → T D) (g : Ev → T (List Sl)) : Ev → T (List Sl) := fun ρ => (f ρ).bind fun a => (g ρ).bind fun r => .ok (.own a :: r)
section
variable {X : Cx} {e : Expr} {es : List Expr} {f : Ev → T D} {g : Ev → T (List Sl)} {pos : Pos}
theorem mn : PA X [] (tMs mNil) := PA.imp pa_nil fun σ H Q ⟨z, P, O, ρ, R, w⟩ => WP.ok w [] H ⟨rfl, SameS.refl, R.src⟩
theorem ms (h : PE X e (tD f)) (r : PA X es (tMs g)) (hs : starEach (e :: es) X.env = (false, eval e X.env) :: starEach es X.env := by rfl) : PA X (e :: es) (tMs (mSh f g)) := PA.imp (pa_cons h r hs) fun σ H Q ⟨z, P, O, ρ, R, w⟩ =>
  ⟨z, P, O, ρ, R, (WP.bind w).mono fun d w2 v H1 g1 s1 r1 => ⟨z, P, O, ρ, R.grow g1 s1, (WP.bind w2).mono fun ss w3 vs H2 m => WP.ok w3 _ H2 ⟨v, vs, H1, rfl, g1, s1, r1, m⟩⟩⟩
theorem mo (h : PE X e (tF f)) (r : PA X es (tMs g)) (hs : starEach (e :: es) X.env = (false, eval e X.env) :: starEach es X.env := by rfl) : PA X (e :: es) (tMs (mOw f g)) := PA.imp (pa_cons h r hs) fun σ H Q ⟨z, P, O, ρ, R, w⟩ =>
  ⟨z, P, O, ρ, R, (WP.bind w).mono fun d w2 p H1 hp g1 s1 t1 => ⟨z, fun b => P b ∨ b = p, O, ρ, R.protect hp g1 s1 (top_nt t1), (WP.bind w2).mono fun ss w3 vs H2 m => WP.ok w3 _ H2 ⟨p, vs, H1, rfl, hp, g1, s1, t1, m⟩⟩⟩
end
def putAll : Ev → List Nat → List Sl → Ev
  | ρ, i :: is, s :: ss => putAll (ρ.put i s) is ss
  | ρ, _, _ => ρ
def setAll : L2.St → List Nat → List V → L2.St
  | σ, i :: is, v :: vs => setAll (σ.set i (some v)) is vs
  | σ, _, _ => σ
theorem mix_set {z : Zr} {P : Addr → Prop} : ∀ {ss : List Sl} {is : List Nat} {vs : List V} {P' O' Oc : Addr → Prop} {H H' : Hp} {ρ : Ev} {σ : L2.St}, MixP z P' O' H ss vs H' → Rel z P Oc ρ σ H → (∀ a, (Oc a ∨ P a) → (O' a ∨ P' a)) → (∀ a, (O' a ∨ P' a) → (Oc a ∨ P a)) → is.length = ss.length →
    vs.length = ss.length ∧ ∃ O1, SameV z Oc H O1 H' ∧ Rel z P O1 (putAll ρ is ss) (setAll σ is vs) H'
  | [], [], vs, P', O', Oc, H, H', ρ, σ, ⟨e, g, s⟩, R, _, _, _ => ⟨by rw [e]; rfl, Oc, SameV.of g, by rw [e]; exact R.grow g s⟩
  | [], _ :: _, _, _, _, _, _, _, _, _, _, _, _, _, h => by cases h
  | .sh d :: ss, i :: is, vs, P', O', Oc, H, H', ρ, σ, ⟨v, r, H1, e, g, s, rv, m⟩, R, h1, h2, hl => by
    subst e
    have rv' : Rep (sa z) (Vw z P Oc H1) d v := rv.mono fun a u ⟨q1, q2, q3, q4⟩ => ⟨fun q => (h1 a (.inl q)).elim q1 q2, fun q => (h1 a (.inr q)).elim q1 q2, q3, q4⟩
    obtain ⟨hv, O1, gv, R1⟩ := mix_set (is := is) m ((R.grow g s).set (i := i) rv') h1 h2 (Nat.succ.inj hl)
    exact ⟨congrArg (· + 1) hv, O1, (SameV.of g).trans gv, R1⟩
  | .own d :: ss, i :: is, vs, P', O', Oc, H, H', ρ, σ, ⟨p, r, H1, e, hp, g, s, t, m⟩, R, h1, h2, hl => by
    subst e
    have t' : Top z (Vw z P (Ow Oc p) H1) (fun u => H1 p = some u) d := t.mono (fun a u ⟨q1, q2, q3, q4⟩ => ⟨fun q => q.elim (fun q => (h1 a (.inl q)).elim (fun q => q1 (.inl q)) q2) fun q => q1 (.inr q), fun q => (h1 a (.inr q)).elim (fun q => q1 (.inl q)) q2, q3, q4⟩) fun _ h => h
    obtain ⟨hv, O1, gv, R1⟩ := mix_set (is := is) m (R.setF (i := i) hp g s t')
      (fun a q => by
        rcases q with (q | q) | q
        · exact (h1 a (.inl q)).elim .inl fun q => .inr (.inl q)
        · exact .inr (.inr q)
        · exact (h1 a (.inr q)).elim .inl fun q => .inr (.inl q))
      (fun a q => by
        rcases q with q | q | q
        · exact (h2 a (.inl q)).elim (fun q => .inl (.inl q)) .inr
        · exact (h2 a (.inr q)).elim (fun q => .inl (.inl q)) .inr
        · exact .inl (.inr q)) (Nat.succ.inj hl)
    exact ⟨congrArg (· + 1) hv, O1, (SameV.setF hp g).trans gv, R1⟩
  | .sh _ :: _, [], _, _, _, _, _, _, _, _, _, _, _, _, h => by cases h
  | .own _ :: _, [], _, _, _, _, _, _, _, _, _, _, _, _, h => by cases h
  | .non :: _, _, _, _, _, _, _, _, _, _, m, _, _, _, _ => m.elim
  | .lent _ :: _, _, _, _, _, _, _, _, _, _, m, _, _, _, _ => m.elim
def fParM (is : List Nat) (f : Ev → T (List Sl)) : Ev → T Res := fun ρ => (f ρ).bind fun ss => tIf (Nat.beq ss.length is.length) (.ok (.nx (putAll ρ is ss)))
theorem fParM_w {is : List Nat} {f : Ev → T (List Sl)} {D : Ends} {σ : L2.St} {H : Hp} (h : tS (fParM is f) D σ H) : tMs f σ H fun vs H' => vs.length = is.length ∧ D.nx (setAll σ is vs) H' ∧ ∀ q t, H' q = none → D.nx (setAll σ is vs) (upd H' q t) := by
  obtain ⟨z, P, O, ρ, R, w⟩ := h
  refine ⟨z, P, O, ρ, R, (WP.bind w).mono fun ss w2 vs H1 m => ?_⟩
  obtain ⟨hl, k⟩ := tIf_w w2
  have hl := Nat.eq_of_beq_eq_true hl
  obtain ⟨hv, O1, gv, R1⟩ := mix_set m R (fun _ h => h) (fun _ h => h) hl.symm
  exact ⟨hv.trans hl, WP.ok k _ H1 O1 gv R1, fun q t hq => WP.ok k _ _ O1 (gv.trans (SameV.of (same_new hq))) (R1.grow (same_new hq) (src_new R1.src hq))⟩
section
variable {X : Cx} {f : Ev → T (List Sl)} {a b c : Expr} {x y w : Str} {px py pz pt pos : Pos} {kt k2 : Nat} {pt2 : Pos}
theorem spar2 (i j : Nat) (hc : X.calm = true) (hN : X.N.Nodup) (ha : PA X [a, b] (tMs f)) (hi : X.N[i]? = some x := by rfl) (hj : X.N[j]? = some y := by rfl) (hij : i ≠ j := by decide)
    (hx : X.env.scope.names.lookup x = some .local := by rfl) (hy : X.env.scope.names.lookup y = some .local := by rfl) (hw : swappedStores [.Tuple [.Name x px, .Name y py] kt pt] (.Tuple [a, b] k2 pt2) X.env = pure (some [x, y]) := by rfl)
    (hs : swapsWithSole [.Tuple [.Name x px, .Name y py] kt pt] (.Tuple [a, b] k2 pt2) pos.line X.env = pure false := by rfl) :
    PS X (.Assign [.Tuple [.Name x px, .Name y py] kt pt] (.Tuple [a, b] k2 pt2) pos) (tS (fParM [i, j] f)) := PS.imp (ps_par hc hN hi hj hij hx hy ha hw hs) fun D σ H h => by
  obtain ⟨z, P, O, ρ, R, w⟩ := fParM_w h
  refine ⟨z, P, O, ρ, R, w.mono fun ss k vs H1 m => ?_⟩
  obtain ⟨hl, q, _⟩ := k vs H1 m
  match vs, hl, q with
  | [v, u], _, q => exact ⟨v, u, rfl, q⟩
theorem spar3 (i j l : Nat) (hc : X.calm = true) (hN : X.N.Nodup) (ha : PA X [a, b, c] (tMs f)) (hi : X.N[i]? = some x := by rfl) (hj : X.N[j]? = some y := by rfl) (hk : X.N[l]? = some w := by rfl) (hij : i ≠ j := by decide) (hil : i ≠ l := by decide) (hjl : j ≠ l := by decide)
    (hx : X.env.scope.names.lookup x = some .local := by rfl) (hy : X.env.scope.names.lookup y = some .local := by rfl) (hz : X.env.scope.names.lookup w = some .local := by rfl)
    (hw : swappedStores [.Tuple [.Name x px, .Name y py, .Name w pz] kt pt] (.Tuple [a, b, c] k2 pt2) X.env = pure (some [x, y, w]) := by rfl)
    (hs : swapsWithSole [.Tuple [.Name x px, .Name y py, .Name w pz] kt pt] (.Tuple [a, b, c] k2 pt2) pos.line X.env = pure false := by rfl) :
    PS X (.Assign [.Tuple [.Name x px, .Name y py, .Name w pz] kt pt] (.Tuple [a, b, c] k2 pt2) pos) (tS (fParM [i, j, l] f)) := PS.imp (ps_par3 hc hN hi hj hk hij hil hjl hx hy hz ha hw hs) fun D σ H h => by
  obtain ⟨z, P, O, ρ, R, w⟩ := fParM_w h
  refine ⟨z, P, O, ρ, R, w.mono fun ss k vs H1 m => ?_⟩
  obtain ⟨hl, q, _⟩ := k vs H1 m
  match vs, hl, q with
  | [v, u, s], _, q => exact ⟨v, u, s, rfl, q⟩
end

/-! ### targets -/
inductive Pat where
  | v (i : Nat) | t (ps : List Pat)
mutual
def bindP : Pat → D → Ev → T Ev
  | .v i, d, ρ => .ok (ρ.put i (.sh d))
  | .t ps, .tup ds, ρ => bindPs ps ds ρ
  | .t _, _, _ => .no
def bindPs : List Pat → List D → Ev → T Ev
  | [], [], ρ => .ok ρ
  | p :: ps, d :: ds, ρ => (bindP p d ρ).bind fun ρ' => bindPs ps ds ρ'
  | _, _, _ => .no
end
mutual
def Pat.slots : Pat → List Nat
  | .v i => [i]
  | .t ps => Pat.slotss ps
def Pat.slotss : List Pat → List Nat
  | [] => []
  | p :: ps => p.slots ++ Pat.slotss ps
end
/-- σ' is σ but at the slots js -/
def But (js : List Nat) (σ σ' : L2.St) : Prop := σ'.length = σ.length ∧ ∀ j : Nat, j ∉ js → σ'[j]? = σ[j]?
theorem But.trans {js ks : List Nat} {σ σ1 σ2 : L2.St} (a : But js σ σ1) (b : But ks σ1 σ2) : But (js ++ ks) σ σ2 := ⟨b.1.trans a.1, fun j h => (b.2 j fun q => h (List.mem_append_right _ q)).trans (a.2 j fun q => h (List.mem_append_left _ q))⟩
def tG (p : Pat) : TG := fun v σ H Q => ∃ z P O ρ d, Rel z P O ρ σ H ∧ Rep (sa z) (Vw z P O H) d v ∧ WP (bindP p d ρ) fun ρ' => ∀ σ', But p.slots σ σ' → Rel z P O ρ' σ' H → Q σ' H
def tGs (ps : List Pat) : TGs := fun vs σ H Q => ∃ z P O ρ ds, Rel z P O ρ σ H ∧ Reps (sa z) (Vw z P O H) ds vs ∧ WP (bindPs ps ds ρ) fun ρ' => ∀ σ', But (Pat.slotss ps) σ σ' → Rel z P O ρ' σ' H → Q σ' H
section
variable {X : Cx} {e : Expr} {es : List Expr} {x : Str} {pos : Pos} {p : Pat} {ps : List Pat}
theorem PG.imp {t t' : TG} (h : PG X e t) (hi : ∀ v σ H Q, t' v σ H Q → t v σ H Q) : PG X e t' := ⟨fun pins s σ H v u Q I r q => h.run pins s σ H v u Q I r (hi _ _ _ _ q)⟩
theorem PGs.imp {t t' : TGs} (h : PGs X es t) (hi : ∀ v σ H Q, t' v σ H Q → t v σ H Q) : PGs X es t' := ⟨fun pins s σ H v u Q I r q => h.run pins s σ H v u Q I r (hi _ _ _ _ q)⟩
theorem gv (i : Nat) (hN : X.N.Nodup) (hi : X.N[i]? = some x := by rfl) (hx : Loc X.env.scope x := by first | exact Or.inl rfl | exact Or.inr rfl)
    (hf : X.fn x = true ∨ X.env.scope.names.lookup x = some .local := by first | exact .inl rfl | exact .inr rfl | assumption) : PG X (.Name x pos) (tG (.v i)) := PG.imp (pg_name hN hi hx hf) fun v σ H Q ⟨z, P, O, ρ, d, R, r, w⟩ =>
  WP.ok w _ ⟨List.length_set, fun j hj => by
    rw [List.getElem?_set_ne]
    intro q
    exact hj (q ▸ List.mem_singleton.mpr rfl)⟩ (R.set r)
theorem gn : PGs X [] (tGs []) := PGs.imp pgs_nil fun v σ H Q ⟨z, P, O, ρ, ds, R, r, w⟩ => by
  cases ds with
  | nil => exact ⟨r, WP.ok w σ ⟨rfl, fun _ _ => rfl⟩ R⟩
  | cons d ds => exact (show False from w).elim
theorem gc (h1 : PG X e (tG p)) (h2 : PGs X es (tGs ps)) (hs : (assignEach (e :: es) X.env).map (·.2) = assign e X.env :: (assignEach es X.env).map (·.2) := by rfl) : PGs X (e :: es) (tGs (p :: ps)) := PGs.imp (pgs_cons h1 h2 hs) fun vs σ H Q ⟨z, P, O, ρ, ds, R, r, w⟩ => by
  cases ds with
  | nil => exact (show False from w).elim
  | cons d ds =>
    obtain ⟨v, r', e, rv, rr⟩ := r
    refine ⟨v, r', e, z, P, O, ρ, d, R, rv, (WP.bind (show WP ((bindP p d ρ).bind fun ρ' => bindPs ps ds ρ') _ from w)).mono fun ρ' w2 σ' b1 R1 => ?_⟩
    exact ⟨z, P, O, ρ', ds, R1, rr, w2.mono fun ρ2 k σ2 b2 R2 => k σ2 (b1.trans b2) R2⟩
theorem gt {k n : Nat} (hc : X.calm = true) (h : PGs X es (tGs ps)) (hn : (assignEach es X.env).length = n := by rfl) (hp : ps.length = n := by rfl) (hst : (assignEach es X.env).findIdx? (·.1) = none := by rfl) : PG X (.Tuple es k pos) (tG (.t ps)) := PG.imp (pg_tup hc h hn hst) fun v σ H Q ⟨z, P, O, ρ, d, R, r, w⟩ => by
  cases d <;> first | exact (show False from w).elim | skip
  rename_i ds
  obtain ⟨a, vs, e, vw, rr⟩ := r
  have w' : WP (bindPs ps ds ρ) fun ρ' => ∀ σ', But (Pat.t ps).slots σ σ' → Rel z P O ρ' σ' H → Q σ' H := w
  have hl : ∀ (ps : List Pat) (ds : List D) (ρ : Ev) (Q : Ev → Prop), WP (bindPs ps ds ρ) Q → ds.length = ps.length := by
    intro ps
    induction ps with
    | nil => intro ds ρ Q w; cases ds with
      | nil => rfl
      | cons _ _ => exact (show False from w).elim
    | cons p ps ih => intro ds ρ Q w; cases ds with
      | nil => exact (show False from w).elim
      | cons d ds =>
        have w2 := WP.bind (show WP ((bindP p d ρ).bind fun ρ' => bindPs ps ds ρ') _ from w)
        have : ∀ {m : T Ev}, WP m (fun ρ' => WP (bindPs ps ds ρ') Q) → ds.length = ps.length := by
          intro m
          induction m with
          | ok a => exact fun h => ih ds a Q h
          | no => exact fun h => h.elim
          | pk n k ih2 => exact fun h => ih2 0 (h 0 (Int.le_refl 0) (.inr rfl))
        rw [List.length_cons, List.length_cons, this w2]
  exact ⟨a, vs, e, SqT.of vw.2.2.2.tup, by rw [rr.length, hl ps ds ρ _ w', hp], z, P, O, ρ, ds, R, rr, w'⟩
/-- target = value, any target -/
def fAsg (f : Ev → T D) (p : Pat) : Ev → T Res := fun ρ => (f ρ).bind fun d => (bindP p d ρ).bind fun ρ' => .ok (.nx ρ')
theorem sasg {tg : Expr} {f : Ev → T D} (he : PE X e (tD f)) (hg : PG X tg (tG p)) (hs : swapsWithSole [tg] e pos.line X.env = pure false := by rfl) (hw : swappedStores [tg] e X.env = pure none := by rfl)
    (h1 : (assignEach [tg] X.env).map (·.2) = [assign tg X.env] := by rfl) : PS X (.Assign [tg] e pos) (tS (fAsg f p)) :=
  PS.imp (ps_asg he hg hs hw h1) fun D σ H ⟨z, P, O, ρ, R, w⟩ => ⟨z, P, O, ρ, R, (WP.bind w).mono fun d w2 v H1 g1 s1 r1 =>
    ⟨z, P, O, ρ, d, R.grow g1 s1, r1, (WP.bind w2).mono fun ρ' w3 σ' b R1 => WP.ok w3 σ' H1 O (SameV.of g1) R1⟩⟩
end
/-- (a, b, ..) = (x, y, ..) of names, by a tuple made between -/
structure PGn (X : Cx) (es : List Expr) (is : List Nat) : Prop where
  run : PGs X es fun vs σ H Q => vs.length = is.length ∧ Q (setAll σ is vs) H
section
variable {X : Cx} {e : Expr} {es fs : List Expr} {x : Str} {pos pt pt2 : Pos} {is : List Nat} {kt k2 : Nat} {f : Ev → T (List Sl)}
theorem nn : PGn X [] [] := ⟨PGs.imp pgs_nil fun v σ H Q ⟨h, q⟩ => by
  have e : v = [] := List.length_eq_zero_iff.mp h
  rw [e] at q ⊢
  exact ⟨rfl, q⟩⟩
theorem nc (i : Nat) (hN : X.N.Nodup) (h : PGn X es is) (hi : X.N[i]? = some x := by rfl) (hx : Loc X.env.scope x := by first | exact Or.inl rfl | exact Or.inr rfl)
    (hf : X.fn x = true ∨ X.env.scope.names.lookup x = some .local := by first | exact .inl rfl | exact .inr rfl | assumption)
    (hs : (assignEach (.Name x pos :: es) X.env).map (·.2) = assign (.Name x pos) X.env :: (assignEach es X.env).map (·.2) := by rfl) : PGn X (.Name x pos :: es) (i :: is) :=
  ⟨PGs.imp (pgs_cons (pg_name hN hi hx hf) h.run hs) fun vs σ H Q ⟨hl, q⟩ => by
    cases vs with
    | nil => cases hl
    | cons v vs => exact ⟨v, vs, rfl, Nat.succ.inj hl, q⟩⟩
theorem sparn (hc : X.calm = true) (ha : PA X fs (tMs f)) (hg : PGn X es is) (hn : (assignEach es X.env).length = is.length := by rfl) (hst : (assignEach es X.env).findIdx? (·.1) = none := by rfl) (hz : is.length ≤ sizeLine := by decide)
    (hs : swapsWithSole [.Tuple es kt pt] (.Tuple fs k2 pt2) pos.line X.env = pure false := by rfl) (hw : swappedStores [.Tuple es kt pt] (.Tuple fs k2 pt2) X.env = pure none := by rfl) : PS X (.Assign [.Tuple es kt pt] (.Tuple fs k2 pt2) pos) (tS (fParM is f)) :=
  PS.imp (ps_asg (pe_tup ha) (pg_tup hc hg.run hn hst) hs hw) fun D σ H h => by
    obtain ⟨z, P, O, ρ, R, w⟩ := fParM_w h
    refine ⟨z, P, O, ρ, R, w.mono fun ss k vs H1 m => ?_⟩
    obtain ⟨hl, _, q⟩ := k vs H1 m
    exact ⟨by rw [hl]; exact hz, fun p hp => ⟨p, vs, rfl, SqT.of upd_same, hl, hl, q p _ hp⟩⟩
end

/-! ### an owned list or dict given up -/
def dem (i : Nat) (ρ : Ev) : Ev := match ρ.at i with
  | .own d => ρ.put i (.sh d)
  | _ => ρ
section
variable {z : Zr} {P O : Addr → Prop} {H : Hp} {ρ : Ev} {σ : L2.St} {i : Nat} {d : D}
theorem top_rep' {p : Addr} {V' : Addr → HO → Prop} (t : Top z V' (fun u => H p = some u) d) (hv : ∀ a u, V' a u → Vw z P O H a u) (hp : ¬ O p ∧ ¬ P p ∧ ¬ inS z p) : Rep (sa z) (Vw z P O H) d (.ref p) :=
  top_rep hp.1 hp.2.1 hp.2.2 (t.mono hv fun _ h => h)
theorem Rel.dem (R : Rel z P O ρ σ H) : ∃ O', (∀ b, O' b → O b) ∧ Rel z P O' (dem i ρ) σ H := by
  unfold DL.dem
  cases e : ρ.at i with
  | own d =>
    dsimp only
    have hi := Ev.at_get e (by intro q; cases q)
    obtain ⟨y, hy, p, ey, op, t⟩ := R.slot hi
    subst ey
    have hv : ∀ a u, Vw z P O H a u → Vw z P (fun b => O b ∧ b ≠ p) H a u := fun a u ⟨h1, h2⟩ => ⟨fun h => h1 h.1, h2⟩
    refine ⟨fun b => O b ∧ b ≠ p, fun b h => h.1, ⟨by rw [Ev.put_set, List.length_set]; exact R.len, R.src, fun b h => R.own b h.1, R.prt, fun j s x h1 h2 => ?_, fun j k s t q h1 h2 h3 h4 h5 h6 => ?_⟩⟩
    · rw [Ev.put_set] at h1
      by_cases q : i = j
      · subst q
        rw [List.getElem?_set_self', hi] at h1
        cases h1
        rw [hy] at h2
        cases h2
        exact ⟨_, rfl, top_rep' t hv ⟨fun h => h.2 rfl, (R.own p op).2.2, (R.own p op).2.1⟩⟩
      · rw [List.getElem?_set_ne q] at h1
        have w := R.at_ j s x h1 h2
        cases s with
        | non => trivial
        | sh d => obtain ⟨v, e, r⟩ := w; exact ⟨v, e, r.mono hv⟩
        | own d => obtain ⟨a, e, o, t⟩ := w; subst e; exact ⟨a, rfl, ⟨o, fun e => q (R.one i j _ _ p hi h1 rfl rfl hy (e ▸ h2))⟩, t.mono hv fun _ h => h⟩
        | lent d => obtain ⟨a, e, o, t⟩ := w; subst e; exact ⟨a, rfl, ⟨o, fun e => q (R.one i j _ _ p hi h1 rfl rfl hy (e ▸ h2))⟩, t.mono hv fun _ h => h⟩
    · rw [Ev.put_set] at h1 h2
      have f : ∀ (l : Nat) (s : Sl), (ρ.set i (.sh d))[l]? = some s → s.mine = true → ρ[l]? = some s := fun l s e m => by
        by_cases q : i = l
        · subst q
          rw [List.getElem?_set_self', hi] at e
          cases e; cases m
        · rwa [List.getElem?_set_ne q] at e
      exact R.one j k s t q (f j s h1 h3) (f k t h2 h4) h3 h4 h5 h6
  | _ => exact ⟨O, fun b h => h, R⟩
end
def fDem (i : Nat) (F : Ev → T Res) : Ev → T Res := fun ρ => F (dem i ρ)
theorem sdem {X : Cx} {st : Stmt} {F : Ev → T Res} (i : Nat) (h : PS X st (tS F)) : PS X st (tS (fDem i F)) := PS.imp h fun D σ H ⟨z, P, O, ρ, R, w⟩ => by
  obtain ⟨O', ho, R'⟩ := R.dem (i := i)
  have g : SameV z O H O' H := fun b o h _ e => ⟨fun q => h (ho b q), e⟩
  exact ⟨z, P, O', _, R', WP.mono (show WP (F (dem i ρ)) _ from w) fun r k => k.later g⟩

/-! ### changes of owned lists and dicts -/
section
variable {z : Zr} {P O : Addr → Prop} {H : Hp} {ρ : Ev} {σ : L2.St} {i : Nat} {d d' : D}
theorem top_o {V' : Addr → HO → Prop} {o : HO} {d : D} (t : Top z V' (fun u => o = u) d) : ∀ xs, o ≠ .tup xs := by
  cases d with
  | lst ds => obtain ⟨vs, e, _⟩ := t; rw [e]; exact fun _ q => nomatch q
  | dct tk kvs => cases tk <;> (obtain ⟨vs, e, _⟩ := t; rw [e]; exact fun _ q => nomatch q)
  | _ => exact t.elim
/-- the owned object at p becomes o -/
theorem Rel.change (R : Rel z P O ρ σ H) {p : Addr} {o : HO} (hi : ρ[i]? = some (.own d)) (hy : σ[i]? = some (some (.ref p))) (op : O p) (t : Top z (Vw z P O H) (fun u => o = u) d') : Rel z P O (ρ.put i (.own d')) σ (upd H p o) where
  len := by rw [Ev.put_set, List.length_set]; exact R.len
  src := src_keep R.src fun b hb => upd_ne fun e => (R.own p op).2.1 (e ▸ hb)
  own := fun b hb => ⟨by
    by_cases e : b = p
    · subst e; exact ⟨o, upd_same, top_o t⟩
    · obtain ⟨u, h1, h2⟩ := (R.own b hb).1
      exact ⟨u, (upd_ne e).trans h1, h2⟩, (R.own b hb).2⟩
  prt := fun b hb => by
    by_cases e : b = p
    · subst e; exact ⟨o, upd_same, top_o t⟩
    · obtain ⟨u, h1, h2⟩ := R.prt b hb
      exact ⟨u, (upd_ne e).trans h1, h2⟩
  at_ := fun j s x h1 h2 => by
    have hv : ∀ a u, Vw z P O H a u → Vw z P O (upd H p o) a u := fun a u ⟨q1, q2, q3, q4⟩ => by
      have ne : a ≠ p := fun e => q1 (e ▸ op)
      refine ⟨q1, q2, q3, ?_⟩
      rcases q4 with q4 | ⟨k, ob, q4⟩
      · exact .inl (by rw [upd_ne ne]; exact q4)
      · exact .inr ⟨k, ob, by rw [upd_ne ne]; exact q4⟩
    rw [Ev.put_set] at h1
    by_cases q : i = j
    · subst q
      rw [List.getElem?_set_self', hi] at h1
      cases h1
      rw [hy] at h2
      cases h2
      exact ⟨p, rfl, op, t.mono hv fun u e => by rw [upd_same, e]⟩
    · rw [List.getElem?_set_ne q] at h1
      have w := R.at_ j s x h1 h2
      have nep : ∀ a, s.mine = true → x = some (.ref a) → a ≠ p := fun a m ex e => q (R.one i j _ _ p hi h1 rfl m hy (by rw [h2, ex, e]))
      cases s with
      | non => trivial
      | sh d => obtain ⟨v, e, r⟩ := w; exact ⟨v, e, r.mono hv⟩
      | own d => obtain ⟨a, e, o', t⟩ := w; exact ⟨a, e, o', t.mono hv fun u h => by rw [upd_ne (nep a rfl e)]; exact h⟩
      | lent d => obtain ⟨a, e, o', t⟩ := w; exact ⟨a, e, o', t.mono hv fun u h => by
          rcases h with h | ⟨k, ob, h⟩
          · exact .inl (by rw [upd_ne (nep a rfl e)]; exact h)
          · exact .inr ⟨k, ob, by rw [upd_ne (nep a rfl e)]; exact h⟩⟩
  one := fun j k s t q h1 h2 h3 h4 h5 h6 => by
    rw [Ev.put_set] at h1 h2
    have f : ∀ (l : Nat) (s : Sl), (ρ.set i (.own d'))[l]? = some s → s.mine = true → ∃ s', ρ[l]? = some s' ∧ s'.mine = true := fun l s e m => by
      by_cases q : i = l
      · subst q; exact ⟨_, hi, rfl⟩
      · rw [List.getElem?_set_ne q] at e; exact ⟨s, e, m⟩
    obtain ⟨s', e1, m1⟩ := f j s h1 h3
    obtain ⟨t', e2, m2⟩ := f k t h2 h4
    exact R.one j k s' t' q e1 e2 m1 m2 h5 h6
theorem SameV.change {p : Addr} {o : HO} (op : O p) : SameV z O H O (upd H p o) := fun b u h _ e => ⟨h, by
  have ne : b ≠ p := fun q => by subst q; exact h op
  rw [upd_ne ne]; exact e⟩
end
end
end DL

set_option Elab.async false
set_option linter.all false
set_option maxRecDepth 100000
namespace DL
noncomputable section
open PySem PySem.Spec PyProof.Rows L2

/-! ### methods of an owned list as statements -/
/-- x.m(e): m makes of the owned value and the argument the new owned one -/
def fMut (i : Nat) (m : D → D → T D) (f : Ev → T D) : Ev → T Res := fun ρ => match ρ.at i with
  | .own d => (f ρ).bind fun a => (m d a).bind fun d' => .ok (.nx (ρ.put i (.own d')))
  | _ => .no
def mAppend : D → D → T D
  | .lst ds, a => tIf (Nat.blt ds.length sizeLine) (.ok (.lst (ds ++ [a])))
  | _, _ => .no
def mExtend : D → D → T D
  | .lst ds, .lst es => tIf (lenOk (ds.length + es.length)) (.ok (.lst (ds ++ es)))
  | _, _ => .no
section
variable {X : Cx} {e : Expr} {f : Ev → T D} {x : Str} {pos pos' apos cpos : Pos} {z : Zr} {P O : Addr → Prop} {H : Hp} {ρ : Ev} {σ : L2.St} {i : Nat} {d : D}
theorem own_at (R : Rel z P O ρ σ H) (e : ρ.at i = .own d) : ∃ p, ρ[i]? = some (.own d) ∧ σ[i]? = some (some (.ref p)) ∧ O p ∧ Top z (Vw z P O H) (fun u => H p = some u) d := by
  have hi := Ev.at_get e (by intro q; cases q)
  obtain ⟨y, hy, p, ey, op, t⟩ := R.slot hi
  subst ey
  exact ⟨p, hi, hy, op, t⟩
theorem own_later (R : Rel z P O ρ σ H) {p : Addr} (op : O p) {H1 : Hp} (g : SameS z H H1) (t : Top z (Vw z P O H) (fun u => H p = some u) d) : Top z (Vw z P O H1) (fun u => H1 p = some u) d :=
  t.mono (Vw.grow g) fun u => g p u (R.own p op).2.1
theorem fMut_w {m : D → D → T D} {Q : Res → Prop} (w : WP (fMut i m f ρ) Q) : ∃ d, ρ.at i = .own d ∧ WP (f ρ) fun a => WP (m d a) fun d' => Q (.nx (ρ.put i (.own d'))) := by
  unfold fMut at w
  cases e : ρ.at i <;> rw [e] at w <;> first | exact (show False from w).elim | skip
  exact ⟨_, rfl, (WP.bind w).mono fun a w2 => (WP.bind w2).mono fun d' k => k⟩
theorem sappend (i : Nat) (he : PE X e (tD f)) (hN : X.N[i]? = some x := by rfl) (hv : Vis X.env.scope x := by first | exact Or.inl rfl | exact Or.inr (Or.inl rfl) | exact Or.inr (Or.inr rfl)) (hd : (x == ("__debug__" : Str)) = false := by decide)
    (hcd : (x == ("__classdict__" : Str)) = false := by decide) (hbase : attributeBase (.Name x pos') "append" X.env (eval (.Name x pos') X.env) = eval (.Name x pos') X.env := by rfl)
    (hfew : ((backTo cpos (starEach [e] X.env)).all (fun x => !x.1) && (backToKw cpos (keywordEach [] X.env)).all (fun x => x.1.isSome)
      && decide (([e] : List Expr).length + ([] : List Keyword).length + (if ([] : List Keyword).isEmpty then 0 else 1) < 30)) = true := by rfl)
    (hline : (apos.endLine == cpos.line) = true := by rfl) (hs : starEach [e] X.env = (false, eval e X.env) :: starEach [] X.env := by rfl) (hplain : (backTo cpos (starEach [] X.env)).any (·.1) = false := by rfl)
    (hsw : swapsWith (.Call (.Attribute (.Name x pos') "append" apos) [e] [] cpos) none pos.line X.env = pure false := by rfl) :
    PS X (.Expr (.Call (.Attribute (.Name x pos') "append" apos) [e] [] cpos) pos) (tS (fMut i mAppend f)) :=
  PS.imp (ps_expr (pe_bm PySem.F.plainAttrs_list PySem.F.slot_list_append PySem.F.type_list_append mt_append (pe_var hN hv hd hcd) (pa_cons he pa_nil hs) hbase hfew hline hs hplain) hsw) fun D σ H ⟨z, P, O, ρ, R, w⟩ => by
    obtain ⟨d, e1, w⟩ := fMut_w w
    obtain ⟨p, hi, hy, op, t⟩ := own_at R e1
    cases d <;> first | exact (show False from t).elim | skip
    · rename_i ds
      obtain ⟨vs, hp, rr⟩ := t
      refine ⟨.ref p, hy, .inl ⟨rfl, vs, SqL.of hp⟩, z, P, O, ρ, R, w.mono fun a w2 v H1 g1 s1 r1 => ?_⟩
      obtain ⟨hl, k⟩ := tIf_w w2
      have R1 := R.grow g1 s1
      have hp1 := g1 p _ (R.own p op).2.1 hp
      have rr1 := rr.mono (Vw.grow g1)
      refine ⟨p, vs, v, rfl, rfl, hp1, by rw [rr.length]; exact nblt.mp hl, ?_⟩
      exact WP.ok k _ _ O ((SameV.of g1).trans (SameV.change op)) (R1.change hi hy op ⟨_, rfl, rr1.append (Reps.one r1)⟩)
    · rename_i tk kvs
      have : ∀ {m : T DL.D} {Q : DL.D → Prop}, WP m (fun a => WP (mAppend (.dct tk kvs) a) Q) → False := by
        intro m Q
        induction m with
        | ok a => exact fun h => h
        | no => exact fun h => h
        | pk n k ih => exact fun h => ih 0 (h 0 (Int.le_refl 0) (.inr rfl))
      exact (this w).elim
theorem sextend (i : Nat) (he : PE X e (tB f)) (hN : X.N[i]? = some x := by rfl) (hv : Vis X.env.scope x := by first | exact Or.inl rfl | exact Or.inr (Or.inl rfl) | exact Or.inr (Or.inr rfl)) (hd : (x == ("__debug__" : Str)) = false := by decide)
    (hcd : (x == ("__classdict__" : Str)) = false := by decide) (hbase : attributeBase (.Name x pos') "extend" X.env (eval (.Name x pos') X.env) = eval (.Name x pos') X.env := by rfl)
    (hfew : ((backTo cpos (starEach [e] X.env)).all (fun x => !x.1) && (backToKw cpos (keywordEach [] X.env)).all (fun x => x.1.isSome)
      && decide (([e] : List Expr).length + ([] : List Keyword).length + (if ([] : List Keyword).isEmpty then 0 else 1) < 30)) = true := by rfl)
    (hline : (apos.endLine == cpos.line) = true := by rfl) (hs : starEach [e] X.env = (false, eval e X.env) :: starEach [] X.env := by rfl) (hplain : (backTo cpos (starEach [] X.env)).any (·.1) = false := by rfl)
    (hsw : swapsWith (.Call (.Attribute (.Name x pos') "extend" apos) [e] [] cpos) none pos.line X.env = pure false := by rfl) :
    PS X (.Expr (.Call (.Attribute (.Name x pos') "extend" apos) [e] [] cpos) pos) (tS (fMut i mExtend f)) :=
  PS.imp (ps_expr (pe_bm PySem.F.plainAttrs_list PySem.F.slot_list_extend PySem.F.type_list_extend mt_extend (pe_var hN hv hd hcd) (pa_cons he pa_nil hs) hbase hfew hline hs hplain) hsw) fun D σ H ⟨z, P, O, ρ, R, w⟩ => by
    obtain ⟨d, e1, w⟩ := fMut_w w
    obtain ⟨p, hi, hy, op, t⟩ := own_at R e1
    cases d <;> first | exact (show False from t).elim | skip
    · rename_i ds
      obtain ⟨vs, hp, rr⟩ := t
      refine ⟨.ref p, hy, .inl ⟨rfl, vs, SqL.of hp⟩, z, P, O, ρ, R, w.mono fun a w2 v H1 g1 s1 r1 => ?_⟩
      cases a <;> first | exact (show False from w2).elim | skip
      rename_i es
      obtain ⟨hl, k⟩ := tIf_w w2
      have R1 := R.grow g1 s1
      have hp1 := g1 p _ (R.own p op).2.1 hp
      have rr1 := rr.mono (Vw.grow g1)
      obtain ⟨q, us, ev, hq, rq⟩ := r1.lst
      subst ev
      refine ⟨p, q, vs, us, rfl, rfl, hp1, hq, by rw [rr.length, rq.length]; exact lenOk_le hl, ?_⟩
      exact WP.ok k _ _ O ((SameV.of g1).trans (SameV.change op)) (R1.change hi hy op ⟨_, rfl, rr1.append rq⟩)
    · rename_i tk kvs
      have : ∀ {m : T DL.D} {Q : DL.D → Prop}, WP m (fun a => WP (mExtend (.dct tk kvs) a) Q) → False := by
        intro m Q
        induction m with
        | ok a => exact fun h => h
        | no => exact fun h => h
        | pk n k ih => exact fun h => ih 0 (h 0 (Int.le_refl 0) (.inr rfl))
      exact (this w).elim
end

/-! ### x[k] = v of an owned list or dict -/
def fPut (i : Nat) (fk fv : Ev → T D) : Ev → T Res := fun ρ => match ρ.at i with
  | .own d => (fv ρ).bind fun v => (fk ρ).bind fun k => (match d with
      | .lst ds => match k with
        | .int n => match ixN ds.length n with
          | some j => T.ok (D.lst (ds.set j v))
          | none => .no
        | _ => .no
      | .dct tk kvs => match keyOf tk k with
        | some q => tIf (Nat.blt kvs.length sizeLine) (.ok (.dct tk (putD kvs q v)))
        | none => .no
      | _ => .no).bind fun d' => .ok (.nx (ρ.put i (.own d')))
  | _ => .no
def rSetD : V → V → V → Hp → (Hp → Prop) → Prop := fun o i v H Q => ∃ a H', o = .ref a ∧ DPut H a i v H' ∧ Q H'
theorem set_dict {X : Cx} (hu : X.A.units + 1 < cLine) : PSet X rSetD := by
  intro pins s σ H o i v ov iv u Q I ro ri rv h
  obtain ⟨a, H', rfl, g, q⟩ := h
  cases ro
  exact d_setItem hu I g ri rv fun s' I' => ⟨H', I', q⟩
theorem PSet.or {X : Cx} {t t' : TSet} (h : PSet X t) (h' : PSet X t') : PSet X fun o i v H Q => t o i v H Q ∨ t' o i v H Q := by
  intro pins s σ H o i v ov iv u Q I ro ri rv q
  rcases q with q | q
  · exact h pins s σ H o i v ov iv u Q I ro ri rv q
  · exact h' pins s σ H o i v ov iv u Q I ro ri rv q
theorem Reps.set {s : Option Addr} {R : Addr → HO → Prop} {d : D} {v : V} (rv : Rep s R d v) : ∀ {ds : List D} {vs : List V} (j : Nat), Reps s R ds vs → Reps s R (ds.set j d) (vs.set j v)
  | [], _, _, r => by rw [show _ = [] from r]; rfl
  | _ :: _, _, 0, ⟨u, r, e, q, w⟩ => by rw [e]; exact ⟨v, r, rfl, rv, w⟩
  | _ :: _, _, j + 1, ⟨u, r, e, q, w⟩ => by rw [e]; exact ⟨u, _, rfl, q, Reps.set rv j w⟩
section
variable {X : Cx} {ek ev : Expr} {fk fv : Ev → T D} {x : Str} {pos pos' tpos : Pos}

theorem sput (i : Nat) (hu : X.A.units + 1 < cLine) (hv : PE X ev (tD fv)) (hk : PE X ek (tD fk)) (hN : X.N[i]? = some x := by rfl) (hvis : Vis X.env.scope x := by first | exact Or.inl rfl | exact Or.inr (Or.inl rfl) | exact Or.inr (Or.inr rfl)) (hd : (x == ("__debug__" : Str)) = false := by decide)
    (hcd : (x == ("__classdict__" : Str)) = false := by decide) (hs : swapsWithSole [.Subscript (.Name x pos') ek tpos] ev pos.line X.env = pure false := by rfl) (hw : swappedStores [.Subscript (.Name x pos') ek tpos] ev X.env = pure none := by rfl)
    (h1 : (assignEach [.Subscript (.Name x pos') ek tpos] X.env).map (·.2) = [assign (.Subscript (.Name x pos') ek tpos) X.env] := by rfl)
    (h2 : ∀ v, assign (.Subscript (.Name x pos') ek tpos) X.env v = (do let ov ← holding [v] (eval (.Name x pos') X.env); let iv ← holding [v, ov] (eval ek X.env); standAt tpos; holding [v, ov, iv] (setItem ov iv v); release [v, ov, iv] []) := by intro _; rfl) : PS X (.Assign [.Subscript (.Name x pos') ek tpos] ev pos) (tS (fPut i fk fv)) :=
  PS.imp (ps_asg hv (pg_sub (pe_var hN hvis hd hcd) hk (PSet.or set_list (set_dict hu)) h2) hs hw h1) fun D σ H ⟨z, P, O, ρ, R, w⟩ => by
    unfold fPut at w
    cases e : ρ.at i <;> rw [e] at w <;> first | exact (show False from w).elim | skip
    rename_i d
    obtain ⟨p, hi, hy, op, t⟩ := own_at R e
    refine ⟨z, P, O, ρ, R, (WP.bind w).mono fun a w2 v H1 g1 s1 r1 => ?_⟩
    refine ⟨.ref p, hy, z, P, O, ρ, R.grow g1 s1, (WP.bind w2).mono fun k w3 u H2 g2 s2 r2 => ?_⟩
    have R2 := (R.grow g1 s1).grow g2 s2
    have g12 := g1.trans g2
    have t2 := own_later R op g12 t
    have rv := r1.mono (Vw.grow g2)
    have w4 := WP.bind w3
    cases d <;> first | exact (show False from w4).elim | skip
    · rename_i ds
      obtain ⟨vs, hp, rr⟩ := t2
      cases k <;> first | exact (show False from w4).elim | skip
      rename_i n
      have w5 : WP (match ixN ds.length n with
          | some j => T.ok (DL.D.lst (ds.set j a))
          | none => .no) _ := w4
      cases hj : ixN ds.length n with
      | none => rw [hj] at w5; exact w5.elim
      | some j =>
        rw [hj] at w5
        refine .inl ⟨p, vs, n, j, rfl, r2, hp, by rw [rr.length]; exact hj, ?_⟩
        exact WP.ok (WP.ok w5) _ _ O ((SameV.of g12).trans (SameV.change op)) (R2.change hi hy op ⟨_, rfl, rr.set rv j⟩)
    · rename_i tk kvs
      have w5 : WP (match keyOf tk k with
        | some q => tIf (Nat.blt kvs.length sizeLine) (T.ok (DL.D.dct tk (putD kvs q a)))
        | none => .no) _ := w4
      cases hq : keyOf tk k with
      | none => rw [hq] at w5; exact w5.elim
      | some q =>
        rw [hq] at w5
        obtain ⟨hl, k2⟩ := tIf_w w5
        have hl := nblt.mp hl
        cases tk
        · obtain ⟨l, hp, rr⟩ := t2
          have hk' : (key1 k).map Kd.k = some q := by cases k <;> first | exact hq | (cases hq; done)
          cases h1 : key1 k with
          | none => rw [h1] at hk'; cases hk'
          | some j =>
            rw [h1] at hk'
            cases hk'
            refine .inr ⟨p, _, rfl, .inl ⟨l, j, hp, key1_v h1 r2, by rw [rr.len]; exact hl, rfl⟩, ?_⟩
            exact WP.ok (WP.ok k2) _ _ O ((SameV.of g12).trans (SameV.change op)) (R2.change hi hy op ⟨_, rfl, rr.put j rv⟩)
        · obtain ⟨l, hp, rr⟩ := t2
          cases k <;> first | (cases hq; done) | skip
          rename_i ds
          have hk' : (key2 ds).map Kd.t = some q := hq
          cases h1 : key2 ds with
          | none => rw [h1] at hk'; cases hk'
          | some j =>
            rw [h1] at hk'
            cases hk'
            obtain ⟨b, vs, eb, vw, rb⟩ := r2
            have hb := vw.2.2.2.tup
            rw [key2_v h1 rb] at hb
            refine .inr ⟨p, _, rfl, .inr ⟨l, j, b, hp, eb, hb, by rw [rr.len]; exact hl, rfl⟩, ?_⟩
            exact WP.ok (WP.ok k2) _ _ O ((SameV.of g12).trans (SameV.change op)) (R2.change hi hy op ⟨_, rfl, rr.put j rv⟩)
end

/-! ### loops -/
def whileT (c : Ev → T Bool) (b : Ev → T Res) : Nat → Ev → T Res
  | 0, _ => .no
  | n + 1, ρ => (c ρ).bind fun t => match t with
    | true => (b ρ).bind fun r => match r with
      | .nx ρ' => whileT c b n ρ'
      | .rt d => .ok (.rt d)
    | false => .ok (.nx ρ)
def fWhile (n : Nat) (c : Ev → T Bool) (b : Ev → T Res) : Ev → T Res := whileT c b n
section
variable {X : Cx} {c : Expr} {body : List Stmt} {t : Ev → T Bool} {b : Ev → T Res} {pos : Pos}
theorem swhile (n : Nat) (hp : PassesOwn (model X.prog X.w) X.A X.env X.xe) (hc : PT X c (tT t)) (hb : PSs X body (tS b)) : PS X (.While c body [] pos) (tS (fWhile n t b)) := PS.imp (ps_while hp hc hb) fun D σ H ⟨z, P, O, ρ, R, w⟩ => by
  refine ⟨fun m σ' H' => ∃ O' ρ', SameV z O H O' H' ∧ Rel z P O' ρ' σ' H' ∧ WP (whileT t b m ρ') (KR z P O H D), ⟨n, O, ρ, SameV.refl, R, w⟩, fun m σ' H' ⟨O', ρ', g, R', w'⟩ => ?_⟩
  cases m with
  | zero => exact w'.elim
  | succ m =>
    refine ⟨z, P, O', ρ', R', (WP.bind w').mono fun k w2 H1 g1 s1 => ?_⟩
    have gl := g.trans (SameV.of g1)
    have R1 := R'.grow g1 s1
    cases k
    · exact WP.ok w2 σ' H1 O' gl R1
    · refine ⟨fun σ2 H2 => ∃ O2 ρ2, SameV z O H O2 H2 ∧ Rel z P O2 ρ2 σ2 H2 ∧ WP (whileT t b m ρ2) (KR z P O H D), fun σ2 H2 ⟨O2, ρ2, g2, R2, w2⟩ => ⟨m, Nat.lt_succ_self m, O2, ρ2, g2, R2, w2⟩, ?_⟩
      refine ⟨z, P, O', ρ', R1, (WP.bind (show WP ((b ρ').bind _) _ from w2)).mono fun r w3 => ?_⟩
      cases r with
      | nx ρ2 => exact fun σ2 H2 O2 g2 R2 => ⟨O2, ρ2, gl.trans g2, R2, w3⟩
      | rt d => exact fun v H2 g2 s2 r2 => WP.ok w3 v H2 (gl.ret g2) s2 r2
end
end
end DL

set_option Elab.async false
set_option linter.all false
set_option maxRecDepth 100000
namespace DL
noncomputable section
open PySem PySem.Spec PyProof.Rows L2

/-! ### what a loop walks -/
/-- a state behind (P, O, H): H2 with O2, P2 -/
structure Lat (z : Zr) (P O : Addr → Prop) (H : Hp) (P2 O2 : Addr → Prop) (H2 : Hp) : Prop where
  same : SameV z O H O2 H2
  ws : Ws z P2 O2 H2
  new : ∀ b, P2 b → P b ∨ H b = none
/-- .. that keeps the owned things too -/
structure LatS (z : Zr) (P O : Addr → Prop) (H : Hp) (P2 O2 : Addr → Prop) (H2 : Hp) : Prop where
  same : SameS z H H2
  own : O2 = O
  ws : Ws z P2 O2 H2
  new : ∀ b, P2 b → P b ∨ H b = none
/-- the iterator J gives the data ds in every state behind -/
def Wk (z : Zr) (L : (Addr → Prop) → (Addr → Prop) → Hp → Prop) (J : It) (ds : List D) : Prop := ∀ P2 O2 H2, L P2 O2 H2 →
  (∀ i, i < ds.length → J.go i H2) ∧ (∀ i, i = ds.length → J.stop i H2) ∧
    ∀ i x H3, i < ds.length → J.yld i H2 x H3 → SameS z H2 H3 ∧ Src z H3 ∧ ∃ d, ds[i]? = some d ∧ Rep (sa z) (Vw z P2 O2 H3) d x
def tI (f : Ev → T (List D)) : TI := fun σ H R => ∃ z P O ρ, Rel z P O ρ σ H ∧ WP (f ρ) fun ds => ∀ J H', SameS z H H' → Src z H' → Wk z (Lat z P O H') J ds → R J H'
def tIb (f : Ev → T (List D)) : TI := fun σ H R => ∃ z P O ρ, Rel z P O ρ σ H ∧ WP (f ρ) fun ds => ∀ J H', SameS z H H' → Src z H' → Wk z (LatS z P O H') J ds → R J H'
theorem PI.imp {X : Cx} {tg iter : Expr} {t t' : TI} (h : PI X tg iter t) (hi : ∀ σ H R, t' σ H R → t σ H R) : PI X tg iter t' := ⟨fun pins s σ H R I q => h.run pins s σ H R I (hi _ _ _ q)⟩
section
variable {z : Zr} {P O P2 O2 : Addr → Prop} {H H2 : Hp} {d : D} {v : V} {a : Addr} {u : HO}
theorem Lat.vw (l : Lat z P O H P2 O2 H2) : ∀ a u, Vw z P O H a u → Vw z P2 O2 H2 a u := fun a u h => by
  obtain ⟨h1, h2, h3, h4⟩ := Vw.later l.same a u h
  refine ⟨h1, fun q => ?_, h3, h4⟩
  rcases l.new a q with q | q
  · exact h.2.1 q
  · rcases h.2.2.2 with w | ⟨_, o, w⟩
    · rw [q] at w; cases w
    · rw [q] at w; cases w
theorem LatS.lat (l : LatS z P O H P2 O2 H2) : Lat z P O H P2 O2 H2 := ⟨by rw [l.own]; exact SameV.of l.same, l.ws, l.new⟩
theorem Lat.tup (l : Lat z P O H P2 O2 H2) {T' : Addr} {ds : List D} {vs : List V} (hn : H2 T' = none) (r : Reps (sa z) (Vw z P2 O2 H2) ds vs) : Rep (sa z) (Vw z P2 O2 (upd H2 T' (.tup vs))) (.tup ds) (.ref T') := l.ws.tup hn r
end

/-! a list, a tuple -/
def iSeq (K : PySem.W.Frag) (tl : TE) : TI := fun σ H R => tl σ H fun x H1 => ∃ a, x = .ref a ∧ ((∃ xs, H1 a = some (.lst xs) ∧ R (Itl K a) H1) ∨ ∃ xs, H1 a = some (.tup xs) ∧ R (Itt K a) H1)
theorem pi_seq {X : Cx} {tg l : Expr} {tl : TE} (hl : PE X l tl) : PI X tg l (iSeq X.K tl) := by
  refine ⟨fun pins s σ H R I h => ?_⟩
  refine thn (hl.run pins s σ H _ I h) fun v s1 ⟨x, H1, I1, r1, q1⟩ => ?_
  obtain ⟨a, e, q⟩ := q1
  subst e
  cases r1
  rcases q with ⟨xs, hq, q⟩ | ⟨xs, hq, q⟩
  · obtain ⟨its, rv, p, hz⟩ := I1.list (SqL.of hq)
    refine wpAny_pyIter_list p.isList ?_
    refine ⟨s1.heap.objs.size, [s1.heap.objs.size], _, _, H1, rfl, I1.kept (t' := s1.toks) fun b o e => Heap.get?_push_of_some _ e, turn_list a _, ⟨_, Heap.get?_push_size _ rfl, rfl, rfl⟩, fun b hb => ?_, q⟩
    have e : b = s1.heap.objs.size := by simpa using hb
    subst e
    exact I1.fpOk (Nat.le_refl _) (I1.hok.fresh (Nat.le_refl _))
  · obtain ⟨its, rv, p, hz⟩ := I1.tuple (SqT.of hq)
    refine wpAny_pyIter_tuple (show s1.heap.IsTuple a its.toArray from p) ?_
    refine ⟨s1.heap.objs.size, [s1.heap.objs.size], _, _, H1, rfl, I1.kept (t' := s1.toks) fun b o e => Heap.get?_push_of_some _ e, turn_tuple a _, ⟨_, Heap.get?_push_size _ rfl, rfl, rfl⟩, fun b hb => ?_, q⟩
    have e : b = s1.heap.objs.size := by simpa using hb
    subst e
    exact I1.fpOk (Nat.le_refl _) (I1.hok.fresh (Nat.le_refl _))
def fParts (f : Ev → T D) : Ev → T (List D) := fun ρ => (f ρ).bind fun d => match partsOf d with
  | some ds => .ok ds
  | none => .no
section
variable {z : Zr} {P O : Addr → Prop} {H : Hp} {K : PySem.W.Frag} {ds : List D} {vs : List V} {a : Addr} {L : (Addr → Prop) → (Addr → Prop) → Hp → Prop}
theorem wk_list (hl : ∀ P2 O2 H2, L P2 O2 H2 → Lat z P O H P2 O2 H2 ∧ H2 a = some (.lst vs)) (r : Reps (sa z) (Vw z P O H) ds vs) : Wk z L (Itl K a) ds := fun P2 O2 H2 l => by
  obtain ⟨lt, ha⟩ := hl P2 O2 H2 l
  refine ⟨fun i hi => ?_, fun i hi => ⟨vs, SqL.of ha, by rw [r.length]; exact Nat.le_of_eq hi.symm⟩, fun i x H3 hi ⟨e, hx⟩ => ?_⟩
  · obtain ⟨v, hv, _⟩ := r.get (List.getElem?_eq_getElem hi)
    exact ⟨vs, v, SqL.of ha, hv⟩
  · subst e
    obtain ⟨d, hd, rd⟩ := r.getV (hx vs (SqL.of ha))
    exact ⟨SameS.refl, lt.ws.src, d, hd, rd.mono lt.vw⟩
theorem wk_tup (hl : ∀ P2 O2 H2, L P2 O2 H2 → Lat z P O H P2 O2 H2 ∧ H2 a = some (.tup vs)) (r : Reps (sa z) (Vw z P O H) ds vs) : Wk z L (Itt K a) ds := fun P2 O2 H2 l => by
  obtain ⟨lt, ha⟩ := hl P2 O2 H2 l
  refine ⟨fun i hi => ?_, fun i hi => ⟨vs, SqT.of ha, by rw [r.length]; exact Nat.le_of_eq hi.symm⟩, fun i x H3 hi ⟨e, hx⟩ => ?_⟩
  · obtain ⟨v, hv, _⟩ := r.get (List.getElem?_eq_getElem hi)
    exact ⟨vs, v, SqT.of ha, hv⟩
  · subst e
    obtain ⟨d, hd, rd⟩ := r.getV (hx vs (SqT.of ha))
    exact ⟨SameS.refl, lt.ws.src, d, hd, rd.mono lt.vw⟩
end
section
variable {X : Cx} {tg l : Expr} {f : Ev → T D}
theorem parts_w {d : D} {Q : List D → Prop} (w : WP (match partsOf d with
  | some ds => T.ok ds
  | none => .no) Q) : ∃ ds, partsOf d = some ds ∧ Q ds := by
  cases h : partsOf d with
  | none => rw [h] at w; exact w.elim
  | some ds => rw [h] at w; exact ⟨ds, rfl, w⟩
/-- in a for: what is seen -/
theorem iseq (hl : PE X l (tD f)) : PI X tg l (tI (fParts f)) := PI.imp (pi_seq hl) fun σ H R ⟨z, P, O, ρ, Rl, w⟩ => ⟨z, P, O, ρ, Rl, (WP.bind w).mono fun d w2 v H1 g1 s1 r1 => by
  obtain ⟨ds, hd, k⟩ := parts_w w2
  cases d <;> cases hd
  · obtain ⟨a, vs, e, vw, rr⟩ := r1
    exact ⟨a, e, .inr ⟨vs, vw.2.2.2.tup, k _ H1 g1 s1 (wk_tup (fun P2 O2 H2 l => ⟨l, (l.same a _ vw.1 vw.2.2.1 vw.2.2.2.tup).2⟩) rr)⟩⟩
  · obtain ⟨a, vs, e, vw, rr⟩ := r1
    exact ⟨a, e, .inl ⟨vs, vw.2.2.2.lst, k _ H1 g1 s1 (wk_list (fun P2 O2 H2 l => ⟨l, (l.same a _ vw.1 vw.2.2.1 vw.2.2.2.lst).2⟩) rr)⟩⟩⟩
/-- in a comprehension: what is lent -/
theorem bseq (hl : PE X l (tB f)) : PI X tg l (tIb (fParts f)) := PI.imp (pi_seq hl) fun σ H R ⟨z, P, O, ρ, Rl, w⟩ => ⟨z, P, O, ρ, Rl, (WP.bind w).mono fun d w2 v H1 g1 s1 r1 => by
  obtain ⟨ds, hd, k⟩ := parts_w w2
  cases d <;> cases hd
  · obtain ⟨a, vs, e, vw, ha, rr⟩ := r1.tup
    exact ⟨a, e, .inr ⟨vs, ha, k _ H1 g1 s1 (wk_tup (fun P2 O2 H2 l => ⟨l.lat, l.same a _ vw.2.2.1 ha⟩) rr)⟩⟩
  · have r2 := r1
    obtain ⟨a, vs, e, ha, rr⟩ := r1.lst
    have ns : ¬ inS z a := by
      rcases r2 with ⟨a', vs', e', vw, _⟩ | ⟨p, e', _, _, h, _⟩
      · rw [e] at e'; cases e'; exact vw.2.2.1
      · rw [e] at e'; cases e'; exact h
    exact ⟨a, e, .inl ⟨vs, ha, k _ H1 g1 s1 (wk_list (fun P2 O2 H2 l => ⟨l.lat, l.same a _ ns ha⟩) rr)⟩⟩⟩
theorem tI_of {t : Ev → T (List D)} (h : PI X tg l (tI t)) : PI X tg l (tIb t) := PI.imp h fun σ H R ⟨z, P, O, ρ, Rl, w⟩ => ⟨z, P, O, ρ, Rl, w.mono fun ds k J H' g s wk => k J H' g s fun P2 O2 H2 l => wk P2 O2 H2 l.lat⟩
end

/-! ranges -/
def rgD (lo : Int) : Nat → List D
  | 0 => []
  | n + 1 => .int lo :: rgD (lo + 1) n
theorem rgD_len : ∀ (n : Nat) (lo : Int), (rgD lo n).length = n
  | 0, _ => rfl
  | n + 1, lo => congrArg (· + 1) (rgD_len n (lo + 1))
theorem rgD_get : ∀ (n : Nat) (lo : Int) (i : Nat), i < n → (rgD lo n)[i]? = some (.int (lo + i))
  | n + 1, lo, 0, _ => by show some (D.int lo) = some (.int (lo + ((0 : Nat) : Int))); rw [Int.natCast_zero, Int.add_zero]
  | n + 1, lo, i + 1, h => by
    show (rgD (lo + 1) n)[i]? = _
    rw [rgD_get n (lo + 1) i (by omega)]
    congr 2
    omega
def i62 (i : Int) : Bool := ilt i 4611686018427387904 && ile (-4611686018427387904) i
theorem i62_w {i : Int} (h : i62 i = true) : -(2 ^ 62) ≤ i ∧ i < 2 ^ 62 := by
  unfold i62 at h
  rw [Bool.and_eq_true] at h
  have h1 := ilt_iff.mp h.1
  have h2 := ile_iff.mp h.2
  exact ⟨by omega, by omega⟩
def rng1 : List D → T (List D)
  | [.int j] => tIf (i62 j) (.ok (rgD 0 j.toNat))
  | _ => .no
def rng2 : List D → T (List D)
  | [.int i, .int j] => tIf (i62 i && i62 j) (.ok (rgD i (j - i).toNat))
  | _ => .no
def fRng1 (g : Ev → T (List D)) : Ev → T (List D) := fun ρ => (g ρ).bind rng1
def fRng2 (g : Ev → T (List D)) : Ev → T (List D) := fun ρ => (g ρ).bind rng2
theorem wk_rng {z : Zr} {P O : Addr → Prop} {H : Hp} {lo : Int} {n : Nat} : Wk z (Lat z P O H) (Itr lo n) (rgD lo n) := fun P2 O2 H2 l => by
  refine ⟨fun i hi => by rw [rgD_len] at hi; exact hi, fun i hi => by rw [rgD_len] at hi; exact Nat.le_of_eq hi.symm, fun i x H3 hi ⟨e, hx⟩ => ?_⟩
  subst e
  rw [rgD_len] at hi
  exact ⟨SameS.refl, l.ws.src, _, rgD_get n lo i hi, hx⟩
section
variable {X : Cx} {tg a b : Expr} {g : Ev → T (List D)} {p pos : Pos}
theorem one_w {d : D} {vs : List V} {z : Zr} {P O : Addr → Prop} {H : Hp} (r : RepBs z P O H [d] vs) : ∃ v, vs = [v] ∧ RepB z P O H d v := by
  obtain ⟨v, q, e, rv, e3⟩ := r
  have e3' : q = [] := e3
  exact ⟨v, by rw [e, e3'], rv⟩
theorem irng1 (hg : Gl X "range") (hm : X.mg "range" = none) (ha : PA X [a] (tBs g)) (hs : starEach [a] X.env = [(false, eval a X.env)] := by rfl) : PI X tg (.Call (.Name "range" p) [a] [] pos) (tI (fRng1 g)) := PI.imp (pi_range1 hg hm ha hs) fun σ H R ⟨z, P, O, ρ, Rl, w⟩ => ⟨z, P, O, ρ, Rl, (WP.bind w).mono fun ds w2 vs H1 g1 s1 r1 => by
  match ds, w2, r1 with
  | [.int j], w2, r1 =>
    obtain ⟨v, e, rv⟩ := one_w r1
    obtain ⟨c, k⟩ := tIf_w w2
    have c' := i62_w c
    exact ⟨j, by rw [e, rv.int], c'.1, c'.2, WP.ok k _ H1 g1 s1 (wk_rng)⟩⟩
theorem irng2 (hg : Gl X "range") (hm : X.mg "range" = none) (ha : PA X [a, b] (tBs g)) (hs : starEach [a, b] X.env = [(false, eval a X.env), (false, eval b X.env)] := by rfl) (hs2 : starEach [b] X.env = [(false, eval b X.env)] := by rfl) : PI X tg (.Call (.Name "range" p) [a, b] [] pos) (tI (fRng2 g)) := PI.imp (pi_range2 hg hm ha hs hs2) fun σ H R ⟨z, P, O, ρ, Rl, w⟩ => ⟨z, P, O, ρ, Rl, (WP.bind w).mono fun ds w2 vs H1 g1 s1 r1 => by
  match ds, w2, r1 with
  | [.int i, .int j], w2, r1 =>
    obtain ⟨v, u, e, rv, ru⟩ := two_w (ds := []) r1
    obtain ⟨c, k⟩ := tIf_w w2
    rw [Bool.and_eq_true] at c
    have c1 := i62_w c.1
    have c2 := i62_w c.2
    exact ⟨i, j, by rw [e, rv.int, ru.int], ⟨c1.1, c1.2, c2.1, c2.2⟩, WP.ok k _ H1 g1 s1 (wk_rng)⟩⟩
end

/-! ### for -/
def foldB (p : Pat) (b : Ev → T Res) : List D → Ev → T Res
  | [], ρ => .ok (.nx ρ)
  | d :: ds, ρ => (bindP p d ρ).bind fun ρ1 => (b ρ1).bind fun r => match r with
    | .nx ρ' => foldB p b ds ρ'
    | .rt d => .ok (.rt d)
def fFor (it : Ev → T (List D)) (p : Pat) (b : Ev → T Res) : Ev → T Res := fun ρ => (it ρ).bind fun ds => foldB p b ds ρ
section
variable {X : Cx} {tg iter : Expr} {body : List Stmt} {it : Ev → T (List D)} {p : Pat} {b : Ev → T Res} {pos : Pos}
theorem tFor_D {Dn : Ends} {σ : L2.St} {H : Hp} (h : tS (fFor it p b) Dn σ H) : tFor (tI it) (tG p) (tS b) Dn σ H := by
  obtain ⟨z, P, O, ρ, R, w⟩ := h
  refine ⟨z, P, O, ρ, R, (WP.bind w).mono fun ds w2 J H1 g1 s1 wk => ?_⟩
  refine ⟨fun i m σ' H' => i ≤ ds.length ∧ m = ds.length - i ∧ ∃ O' ρ', SameV z O H1 O' H' ∧ Rel z P O' ρ' σ' H' ∧ WP (foldB p b (ds.drop i) ρ') (KR z P O H Dn), ⟨ds.length, Nat.zero_le _, rfl, O, ρ, SameV.refl, R.grow g1 s1, w2⟩, fun i m σ' H' ⟨hi, hm, O', ρ', g, R', w'⟩ => ?_⟩
  have lt : Lat z P O H1 P O' H' := ⟨g, R'.ws, fun b h => .inl h⟩
  obtain ⟨k1, k2, k3⟩ := wk P O' H' lt
  have gl := (SameV.of g1).trans g
  by_cases h : i < ds.length
  · right
    refine ⟨k1 i h, fun σ2 H2 => ∃ O2 ρ2, SameV z O H1 O2 H2 ∧ Rel z P O2 ρ2 σ2 H2 ∧ WP (foldB p b (ds.drop (i + 1)) ρ2) (KR z P O H Dn), fun σ2 H2 ⟨O2, ρ2, g2, R2, w2⟩ => ⟨m - 1, by omega, by omega, by omega, O2, ρ2, g2, R2, w2⟩, fun x H3 hx => ?_⟩
    obtain ⟨g3, s3, d, hd, rd⟩ := k3 i x H3 h hx
    rw [List.drop_eq_getElem_cons h] at w'
    have e : ds[i] = d := Option.some.inj ((List.getElem?_eq_getElem h).symm.trans hd)
    rw [e] at w'
    refine ⟨z, P, O', ρ', d, R'.grow g3 s3, rd, (WP.bind w').mono fun ρ1 w4 σ4 _ R4 => ?_⟩
    refine ⟨z, P, O', ρ1, R4, (WP.bind w4).mono fun r w5 => ?_⟩
    have gl3 : SameV z O H1 O' H3 := g.trans (SameV.of g3)
    cases r with
    | nx ρ2 => exact fun σ2 H2 O2 g2 R2 => ⟨O2, ρ2, gl3.trans g2, R2, w5⟩
    | rt d2 => exact fun v H2 g2 s2 r2 => WP.ok w5 v H2 (((SameV.of g1).trans gl3).ret g2) s2 r2
  · left
    refine ⟨k2 i (by omega), ?_⟩
    rw [List.drop_eq_nil_of_le (by omega)] at w'
    exact WP.ok w' σ' H' O' gl R'
theorem sfor (hp : PassesOwn (model X.prog X.w) X.A X.env X.xe) (hc : X.calm = true) (hi : PI X tg iter (tI it)) (hg : PG X tg (tG p)) (hb : PSs X body (tS b)) (hs : ∀ x, foldedSetIterable iter X.env x = pure x := by intro _; rfl) : PS X (.For tg iter body [] pos) (tS (fFor it p b)) := PS.imp (ps_for hp hc hi hg hb hs) fun _ _ _ => tFor_D
end

/-! ### list comprehensions -/
def lend : Ev → Ev
  | [] => []
  | .own d :: r => .lent d :: lend r
  | s :: r => s :: lend r
def wipeE (ρ : Ev) : List Nat → Ev
  | [] => ρ
  | v :: vs => (wipeE ρ vs).put v .non
def mapC (p : Pat) (t : Ev → T Bool) (e : Ev → T D) (ρ : Ev) : List D → T (List D)
  | [] => .ok []
  | d :: ds => (bindP p d ρ).bind fun ρ1 => (t ρ1).bind fun b => match b with
    | true => (e ρ1).bind fun y => (mapC p t e ρ ds).bind fun ys => .ok (y :: ys)
    | false => mapC p t e ρ ds
def fLc (vs : List Nat) (it : Ev → T (List D)) (p : Pat) (t : Ev → T Bool) (e : Ev → T D) : Ev → T D := fun ρ => (it ρ).bind fun ds => tIf (lenOk ds.length) ((mapC p t e (wipeE (lend ρ) vs) ds).bind fun ys => .ok (.lst ys))
def fYes : Ev → T Bool := fun _ => .ok true
theorem lend_len : ∀ ρ : Ev, (lend ρ).length = ρ.length
  | [] => rfl
  | s :: r => by cases s <;> exact congrArg (· + 1) (lend_len r)
theorem lend_get : ∀ (ρ : Ev) (i : Nat) (s : Sl), (lend ρ)[i]? = some s → ∃ s', ρ[i]? = some s' ∧ ((∃ d, s' = .own d ∧ s = .lent d) ∨ s = s')
  | [], i, s, h => by simp [lend] at h
  | q :: r, 0, s, h => by
    cases q <;> (have h' := h; simp [lend] at h'; subst h')
    · exact ⟨_, rfl, .inr rfl⟩
    · exact ⟨_, rfl, .inr rfl⟩
    · exact ⟨_, rfl, .inl ⟨_, rfl, rfl⟩⟩
    · exact ⟨_, rfl, .inr rfl⟩
  | q :: r, i + 1, s, h => by
    cases q <;> exact lend_get r i s h
section
variable {z : Zr} {P O : Addr → Prop} {H : Hp} {ρ : Ev} {σ : L2.St}
theorem Rel.lend (R : Rel z P O ρ σ H) : Rel z P O (lend ρ) σ H where
  len := by rw [lend_len]; exact R.len
  src := R.src
  own := R.own
  prt := R.prt
  at_ := fun i s x h1 h2 => by
    obtain ⟨s', e, q⟩ := lend_get ρ i s h1
    have w := R.at_ i s' x e h2
    rcases q with ⟨d, rfl, rfl⟩ | rfl
    · obtain ⟨p, e, o, t⟩ := w
      exact ⟨p, e, o, t.mono (fun _ _ h => h) fun _ h => .inl h⟩
    · exact w
  one := fun i j s t p h1 h2 h3 h4 h5 h6 => by
    obtain ⟨s', e, q⟩ := lend_get ρ i s h1
    obtain ⟨t', e', q'⟩ := lend_get ρ j t h2
    refine R.one i j s' t' p e e' ?_ ?_ h5 h6
    · rcases q with ⟨d, rfl, rfl⟩ | rfl
      · rfl
      · exact h3
    · rcases q' with ⟨d, rfl, rfl⟩ | rfl
      · rfl
      · exact h4
theorem Rel.wipe1 (R : Rel z P O ρ σ H) (v : Nat) : Rel z P O (ρ.put v .non) (σ.set v none) H where
  len := by rw [Ev.put_set, List.length_set, List.length_set]; exact R.len
  src := R.src
  own := R.own
  prt := R.prt
  at_ := fun j s x h1 h2 => by
    rw [Ev.put_set] at h1
    by_cases q : v = j
    · subst q
      rw [List.getElem?_set_self'] at h1
      cases e : ρ[v]? with
      | none => rw [e] at h1; cases h1
      | some y => rw [e] at h1; cases h1; trivial
    · rw [List.getElem?_set_ne q] at h1 h2
      exact R.at_ j s x h1 h2
  one := fun j k s t p h1 h2 h3 h4 h5 h6 => by
    rw [Ev.put_set] at h1 h2
    have f : ∀ (l : Nat) (s : Sl), (ρ.set v .non)[l]? = some s → s.mine = true → v ≠ l := fun l s e m q => by
      subst q
      rw [List.getElem?_set_self'] at e
      cases e1 : ρ[v]? with
      | none => rw [e1] at e; cases e
      | some y => rw [e1] at e; cases e; cases m
    have n1 := f j s h1 h3
    have n2 := f k t h2 h4
    rw [List.getElem?_set_ne n1] at h1 h5
    rw [List.getElem?_set_ne n2] at h2 h6
    exact R.one j k s t p h1 h2 h3 h4 h5 h6
theorem Rel.wipe (R : Rel z P O ρ σ H) : ∀ vs : List Nat, Rel z P O (wipeE ρ vs) (L2.wipe σ vs) H
  | [] => R
  | v :: vs => (Rel.wipe R vs).wipe1 v
end
theorem wipe_in {σ : L2.St} {i : Nat} : ∀ {vs : List Nat}, i ∈ vs → i < σ.length → (L2.wipe σ vs)[i]? = some none
  | [], h, _ => by cases h
  | v :: vs, h, hi => by
    show ((L2.wipe σ vs).set v none)[i]? = some none
    by_cases e : v = i
    · subst e
      rw [List.getElem?_set_self (by rw [wipe_length]; exact hi)]
    · rw [List.getElem?_set_ne e]
      exact wipe_in ((List.mem_cons.mp h).elim (fun q => absurd q.symm e) id) hi
theorem wipe_but {σ σ2 : L2.St} {js vs : List Nat} (b : But js (L2.wipe σ vs) σ2) (hj : ∀ j ∈ js, j ∈ vs) : L2.wipe σ2 vs = L2.wipe σ vs := by
  apply List.ext_getElem?
  intro i
  have hl : σ2.length = σ.length := b.1.trans (wipe_length σ vs)
  by_cases h : i ∈ vs
  · by_cases hi : i < σ.length
    · rw [wipe_in h (by rw [hl]; exact hi), wipe_in h hi]
    · rw [List.getElem?_eq_none (by rw [wipe_length, hl]; omega), List.getElem?_eq_none (by rw [wipe_length]; omega)]
  · rw [wipe_out h, b.2 i fun q => h (hj i q)]
structure PTl (X : Cx) (ifs : List Expr) (t : Ev → T Bool) : Prop where
  p : PTs X ifs (tT t)
section
variable {X : Cx} {tg iter elt : Expr} {it : Ev → T (List D)} {p : Pat} {t : Ev → T Bool} {e : Ev → T D} {vs : List Nat}
theorem tLc_F (hv : ∀ j ∈ p.slots, j ∈ vs) {σ : L2.St} {H : Hp} {Q : VK} (h : tF (fLc vs it p t e) σ H Q) : tLc (tIb it) (tG p) (tT t) (tD e) vs σ H Q := by
  obtain ⟨z, P, O, ρ, R, w⟩ := h
  refine ⟨z, P, O, ρ, R, (WP.bind w).mono fun ds w2 J H1 g1 s1 wk D hD => ?_⟩
  obtain ⟨hlen, w2⟩ := tIf_w w2
  have hlen := lenOk_le hlen
  have w3 := WP.bind w2
  have hDn : ¬ inS z D := not_src s1 hD
  have R1 := (R.grow g1 s1).lend.wipe vs
  let K : List DL.D → Prop := fun ys => ∀ p H', H p = none → SameS z H H' → Src z H' → Top z (Vw z P (Ow O p) H') (fun u => H' p = some u) (.lst ys) → Q (.ref p) H'
  let W : Nat → Nat → Hp → Prop := fun i m H' => i ≤ ds.length ∧ m = ds.length - i ∧ SameS z H1 H' ∧ Src z H' ∧ ∃ acc rs, H' D = some (.lst acc) ∧ acc.length ≤ i ∧ Reps (sa z) (Vw z (fun b => P b ∨ b = D) O H') rs acc ∧ WP (mapC p t e (wipeE (lend ρ) vs) (ds.drop i)) fun ys => K (rs ++ ys)
  refine ⟨W, ⟨ds.length, Nat.zero_le _, rfl, same_new hD, src_new s1 hD, [], [], upd_same, Nat.zero_le _, rfl, w3⟩, fun i m H' ⟨hi, hm, gs, ss, acc, rs, hacc, hal, rr, w4⟩ => ?_⟩
  have R' := R1.protect hD gs ss ⟨_, hacc, fun _ q => nomatch q⟩
  have lt : LatS z P O H1 (fun b => P b ∨ b = D) O H' := ⟨gs, rfl, R'.ws, fun b h => h.elim .inl fun q => .inr (q ▸ hD)⟩
  obtain ⟨k1, k2, k3⟩ := wk _ _ _ lt
  by_cases h : i < ds.length
  · right
    refine ⟨k1 i h, fun H'' => W (i + 1) (m - 1) H'', fun H'' w => ⟨m - 1, by omega, w⟩, fun x H3 hx => ?_⟩
    obtain ⟨g3, s3, d, hd, rd⟩ := k3 i x H3 h hx
    rw [List.drop_eq_getElem_cons h] at w4
    have ed : ds[i] = d := Option.some.inj ((List.getElem?_eq_getElem h).symm.trans hd)
    rw [ed] at w4
    refine ⟨z, _, O, _, d, R'.grow g3 s3, rd, (WP.bind w4).mono fun ρ1 w5 σ4 hb R4 => ⟨wipe_but hb hv, ?_⟩⟩
    refine ⟨z, _, O, ρ1, R4, (WP.bind w5).mono fun b w6 H5 g5 s5 => ?_⟩
    cases b
    · have g35 := (gs.trans g3).trans g5
      refine ⟨by omega, by omega, g35, s5, acc, rs, g5 D _ hDn (g3 D _ hDn hacc), by omega, rr.mono (Vw.grow (g3.trans g5)), w6⟩
    · refine ⟨z, _, O, ρ1, R4.grow g5 s5, (WP.bind (show WP ((e ρ1).bind _) _ from w6)).mono fun y w7 v H6 g6 s6 rv => ?_⟩
      have g36 := (g3.trans g5).trans g6
      have hacc6 := g36 D _ hDn hacc
      refine ⟨acc, hacc6, by omega, by omega, by omega, ?_, ?_, acc ++ [v], rs ++ [y], upd_same, by rw [List.length_append]; show acc.length + 1 ≤ i + 1; omega, ?_, ?_⟩
      · intro b o hb eb
        have ne : b ≠ D := fun q => by subst q; rw [hD] at eb; cases eb
        rw [upd_ne ne]
        exact g36 b o hb (gs b o hb eb)
      · exact src_keep s6 fun b hb => upd_ne fun q => hDn (q ▸ hb)
      · have hv2 : ∀ a u, Vw z (fun b => P b ∨ b = D) O H6 a u → Vw z (fun b => P b ∨ b = D) O (upd H6 D (.lst (acc ++ [v]))) a u := by
          intro a u q
          obtain ⟨q1, q2, q3, q4⟩ := q
          have ne : a ≠ D := fun q => q2 (.inr q)
          refine ⟨q1, q2, q3, ?_⟩
          rcases q4 with q4 | ⟨k, ob, q4⟩
          · exact .inl (by rw [upd_ne ne]; exact q4)
          · exact .inr ⟨k, ob, by rw [upd_ne ne]; exact q4⟩
        exact Reps.append ((rr.mono (Vw.grow g36)).mono hv2) (Reps.one (rv.mono hv2))
      · refine (WP.bind w7).mono fun ys k => ?_
        have k' := WP.ok k
        rw [List.append_assoc]
        exact k'
  · left
    refine ⟨k2 i (by omega), ?_⟩
    rw [List.drop_eq_nil_of_le (by omega)] at w4
    have k := WP.ok w4
    rw [List.append_nil] at k
    refine k D H' (none_of g1 s1 hD) (g1.trans gs) ss ⟨acc, hacc, rr.mono fun a u q => ?_⟩
    obtain ⟨q1, q2, q3, q4⟩ := q
    exact ⟨fun q => q.elim q1 fun q => q2 (.inr q), fun q => q2 (.inl q), q3, q4⟩
theorem ty : PTs X [] (tT fYes) := by
  obtain ⟨run⟩ := pts_nil (X := X)
  exact ⟨fun pins s σ H Q I h => run pins s σ H Q I (by
    obtain ⟨z, P, O, ρ, R, w⟩ := h
    exact WP.ok w H SameS.refl R.src)⟩
theorem t1 {c : Expr} (h : PT X c (tT t)) : PTs X [c] (tT t) := pts_one h
variable {scope : Scope} {own : List (Str × Nat)} {pos spos : Pos} {ifs : List Expr}
/-- [e for target in iter if ..] -/
theorem dlc (hc : X.calm = true) (hN : X.N.Nodup) (hi : PI X tg iter (tIb it)) (ok : blkC X.N X.env.scope scope own = true) (hv : (p.slots.all fun j => decide (j ∈ own.map (·.2))) = true)
    (hg : ∀ (s : Shared) (H : Hp) (C : Addr) (cl : List (Str × Addr)) (fp : List Addr), PG (X.blk s H scope (compEnvC scope cl C X.env) fp) tg (tG p)) (ht : ∀ (s : Shared) (H : Hp) (C : Addr) (cl : List (Str × Addr)) (fp : List Addr), PTs (X.blk s H scope (compEnvC scope cl C X.env) fp) ifs (tT t))
    (he : ∀ (s : Shared) (H : Hp) (C : Addr) (cl : List (Str × Addr)) (fp : List Addr), PE (X.blk s H scope (compEnvC scope cl C X.env) fp) elt (tD e)) (hs : ∀ x, foldedSetIterable iter X.env x = pure x := by intro _; rfl) :
    PE X (.ListComp elt [⟨tg, iter, ifs, 0⟩] scope pos) (tF (fLc (own.map (·.2)) it p t e)) :=
  PE.imp (pe_lc hc hN hi (blkOk_by ok) hg ht he hs) fun _ _ _ => tLc_F fun j hj => of_decide_eq_true (List.all_eq_true.mp hv j hj)
theorem ssetLc (i : Nat) {y : Str} {py : Pos} (hc : X.calm = true) (hN : X.N.Nodup) (hi : PI X tg iter (tIb it)) (ok : blkC X.N X.env.scope scope own = true) (hv : (p.slots.all fun j => decide (j ∈ own.map (·.2))) = true)
    (hg : ∀ (s : Shared) (H : Hp) (C : Addr) (cl : List (Str × Addr)) (fp : List Addr), PG (X.blk s H scope (compEnvC scope cl C X.env) fp) tg (tG p)) (ht : ∀ (s : Shared) (H : Hp) (C : Addr) (cl : List (Str × Addr)) (fp : List Addr), PTs (X.blk s H scope (compEnvC scope cl C X.env) fp) ifs (tT t))
    (he : ∀ (s : Shared) (H : Hp) (C : Addr) (cl : List (Str × Addr)) (fp : List Addr), PE (X.blk s H scope (compEnvC scope cl C X.env) fp) elt (tD e)) (hy : X.N[i]? = some y := by rfl) (hyl : X.env.scope.names.lookup y = some .local := by rfl)
    (hsw : swapsWith (.ListComp elt [⟨tg, iter, ifs, 0⟩] scope pos) (some (.Name y py)) spos.line X.env = pure true := by exact sw_true rfl rfl rfl (by decide +kernel)) (hs : ∀ x, foldedSetIterable iter X.env x = pure x := by intro _; rfl) :
    PS X (.Assign [.Name y py] (.ListComp elt [⟨tg, iter, ifs, 0⟩] scope pos) spos) (tS (fSetF i (fLc (own.map (·.2)) it p t e))) :=
  PS.imp (ps_setLc hc hN hy hyl hsw hi (blkOk_by ok) hg ht he hs) fun _ _ _ h => by
    have h1 := tAsg_F h
    obtain ⟨z, P, O, ρ, R, w⟩ := h1
    exact tLc_F (fun j hj => of_decide_eq_true (List.all_eq_true.mp hv j hj)) ⟨z, P, O, ρ, R, w⟩
theorem ssetLcS (i : Nat) {y : Str} {py : Pos} (hc : X.calm = true) (hN : X.N.Nodup) (hi : PI X tg iter (tIb it)) (ok : blkC X.N X.env.scope scope own = true) (hv : (p.slots.all fun j => decide (j ∈ own.map (·.2))) = true)
    (hg : ∀ (s : Shared) (H : Hp) (C : Addr) (cl : List (Str × Addr)) (fp : List Addr), PG (X.blk s H scope (compEnvC scope cl C X.env) fp) tg (tG p)) (ht : ∀ (s : Shared) (H : Hp) (C : Addr) (cl : List (Str × Addr)) (fp : List Addr), PTs (X.blk s H scope (compEnvC scope cl C X.env) fp) ifs (tT t))
    (he : ∀ (s : Shared) (H : Hp) (C : Addr) (cl : List (Str × Addr)) (fp : List Addr), PE (X.blk s H scope (compEnvC scope cl C X.env) fp) elt (tD e)) (hy : X.N[i]? = some y := by rfl) (hyl : X.env.scope.names.lookup y = some .local := by rfl)
    (hsw : swapsWith (.ListComp elt [⟨tg, iter, ifs, 0⟩] scope pos) (some (.Name y py)) spos.line X.env = pure true := by exact sw_true rfl rfl rfl (by decide +kernel)) (hs : ∀ x, foldedSetIterable iter X.env x = pure x := by intro _; rfl) :
    PS X (.Assign [.Name y py] (.ListComp elt [⟨tg, iter, ifs, 0⟩] scope pos) spos) (tS (fSet i (fLc (own.map (·.2)) it p t e))) :=
  PS.imp (ps_setLc hc hN hy hyl hsw hi (blkOk_by ok) hg ht he hs) fun Dn σ H h => by
    obtain ⟨z, P, O, ρ, R, w⟩ := tAsg_D h
    exact tLc_F (fun j hj => of_decide_eq_true (List.all_eq_true.mp hv j hj)) ⟨z, P, O, ρ, R, w.mono fun d k q H' hq g s t =>
      k (.ref q) H' g s (top_rep (fun o => (R.own q o).1.ne hq) (fun o => (R.prt q o).ne hq) (not_src R.src hq) (t.mono Vw.un fun _ h => h))⟩
end
end
end DL

set_option Elab.async false
set_option linter.all false
set_option maxRecDepth 100000
namespace DL
noncomputable section
open PySem PySem.Spec PyProof.Rows L2

/-! ### the keys of a dict that a name holds, locked meanwhile -/
def keyD1 : Key → D
  | .inl i => .int i
  | .inr s => .str s
def keyD : Kd → D
  | .k q => keyD1 q
  | .t ks => .tup (ks.map keyD1)
/-- the dict at slot i -/
def dctAt (i : Nat) (ρ : Ev) : T (Bool × List (Kd × D)) := match ρ.at i with
  | .sh (.dct tk l) => .ok (tk, l)
  | .own (.dct tk l) => .ok (tk, l)
  | .lent (.dct tk l) => .ok (tk, l)
  | _ => .no
def fKeys (i : Nat) : Ev → T (List D) := fun ρ => (dctAt i ρ).bind fun p => .ok (p.2.map fun kv => keyD kv.1)
/-- slot i holds a dict as it stands, or one that is locked -/
def Lk (i : Nat) : L2.St → Hp → Prop := fun σ H => ∃ d o u, σ[i]? = some (some (.ref d)) ∧ H d = some (.frz o u) ∧ dk u
def tIc (C : L2.St → Hp → Prop) (t : TI) : TI := fun σ H R => C σ H ∧ t σ H R
theorem keyD1_rep {s : Option Addr} {R : Addr → HO → Prop} (k : Key) : Rep s R (keyD1 k) (kV k) := by cases k <;> rfl
theorem keyD1s_rep {s : Option Addr} {R : Addr → HO → Prop} : ∀ ks : List Key, Reps s R (ks.map keyD1) (ks.map kV)
  | [] => rfl
  | k :: ks => ⟨_, _, rfl, keyD1_rep k, keyD1s_rep ks⟩
theorem RepK.at_ {s : Option Addr} {R : Addr → HO → Prop} : ∀ {kvs : List (Kd × D)} {l : List (Key × V)} {i : Nat} {k : Key} {v : V}, RepK s R kvs l → l[i]? = some (k, v) → ∃ d, kvs[i]? = some (.k k, d) ∧ Rep s R d v
  | [], _, _, _, _, r, h => by have e : _ = [] := r; rw [e] at h; simp at h
  | (_, d) :: _, _, 0, k, v, ⟨q, v', r, e, ek, w, t⟩, h => by
    rw [e] at h; simp at h; obtain ⟨rfl, rfl⟩ := h; exact ⟨d, by rw [ek]; rfl, w⟩
  | (_, d) :: _, _, i + 1, k, v, ⟨q, v', r, e, ek, w, t⟩, h => by
    rw [e] at h; simp at h
    obtain ⟨d', h1, h2⟩ := RepK.at_ t h
    exact ⟨d', by simpa using h1, h2⟩
theorem RepT.at_ {s : Option Addr} {R : Addr → HO → Prop} : ∀ {kvs : List (Kd × D)} {l : List (List Key × V)} {i : Nat} {k : List Key} {v : V}, RepT s R kvs l → l[i]? = some (k, v) → ∃ d, kvs[i]? = some (.t k, d) ∧ Rep s R d v
  | [], _, _, _, _, r, h => by have e : _ = [] := r; rw [e] at h; simp at h
  | (_, d) :: _, _, 0, k, v, ⟨q, v', r, e, ek, w, t⟩, h => by
    rw [e] at h; simp at h; obtain ⟨rfl, rfl⟩ := h; exact ⟨d, by rw [ek]; rfl, w⟩
  | (_, d) :: _, _, i + 1, k, v, ⟨q, v', r, e, ek, w, t⟩, h => by
    rw [e] at h; simp at h
    obtain ⟨d', h1, h2⟩ := RepT.at_ t h
    exact ⟨d', by simpa using h1, h2⟩
section
variable {X : Cx} {x : Str} {pos : Pos} {tg : Expr} {z : Zr} {P O : Addr → Prop} {H : Hp} {ρ : Ev} {σ : L2.St} {i : Nat} {tk : Bool} {kvs : List (Kd × D)}
theorem dctAt_w {Q : Bool × List (Kd × D) → Prop} (R : Rel z P O ρ σ H) (w : WP (dctAt i ρ) Q) : ∃ tk kvs d, σ[i]? = some (some (.ref d)) ∧ ¬ P d ∧ ¬ inS z d ∧ ((tk = false ∧ ∃ l, Rx H d (.dK l) ∧ RepK (sa z) (Vw z P O H) kvs l) ∨ (tk = true ∧ ∃ l, Rx H d (.dT l) ∧ RepT (sa z) (Vw z P O H) kvs l)) ∧ Q (tk, kvs) := by
  unfold dctAt at w
  cases e : ρ.at i with
  | non => rw [e] at w; exact w.elim
  | sh a =>
    rw [e] at w
    cases a <;> first | exact (show False from w).elim | skip
    rename_i tk kvs
    obtain ⟨y, hy, v, ey, r⟩ := R.slot (Ev.at_get e (by intro q; cases q))
    subst ey
    cases tk
    · obtain ⟨d, l, ev, vw, rr⟩ := r
      subst ev
      exact ⟨false, kvs, d, hy, vw.2.1, vw.2.2.1, .inl ⟨rfl, l, vw.2.2.2, rr⟩, w⟩
    · obtain ⟨d, l, ev, vw, rr⟩ := r
      subst ev
      exact ⟨true, kvs, d, hy, vw.2.1, vw.2.2.1, .inr ⟨rfl, l, vw.2.2.2, rr⟩, w⟩
  | own a =>
    rw [e] at w
    cases a <;> first | exact (show False from w).elim | skip
    rename_i tk kvs
    obtain ⟨y, hy, p, ey, op, t⟩ := R.slot (Ev.at_get e (by intro q; cases q))
    subst ey
    cases tk
    · obtain ⟨l, hp, rr⟩ := t
      exact ⟨false, kvs, p, hy, (R.own p op).2.2, (R.own p op).2.1, .inl ⟨rfl, l, .inl hp, rr⟩, w⟩
    · obtain ⟨l, hp, rr⟩ := t
      exact ⟨true, kvs, p, hy, (R.own p op).2.2, (R.own p op).2.1, .inr ⟨rfl, l, .inl hp, rr⟩, w⟩
  | lent a =>
    rw [e] at w
    cases a <;> first | exact (show False from w).elim | skip
    rename_i tk kvs
    obtain ⟨y, hy, p, ey, op, t⟩ := R.slot (Ev.at_get e (by intro q; cases q))
    subst ey
    cases tk
    · obtain ⟨l, hp, rr⟩ := t
      exact ⟨false, kvs, p, hy, (R.own p op).2.2, (R.own p op).2.1, .inl ⟨rfl, l, hp, rr⟩, w⟩
    · obtain ⟨l, hp, rr⟩ := t
      exact ⟨true, kvs, p, hy, (R.own p op).2.2, (R.own p op).2.1, .inr ⟨rfl, l, hp, rr⟩, w⟩
theorem Rx.frz {d : Addr} {o : Obj} {u u' : HO} (h : Rx H d u) (e : H d = some (.frz o u')) (k : dk u) : H d = some (.frz o u) := by
  rcases h with h | ⟨_, o2, h⟩
  · rw [h] at e
    cases e
    exact k.elim
  · rw [h] at e
    cases e
    exact h
theorem bkeys (i : Nat) (hN : X.N[i]? = some x := by rfl) (hv : Vis X.env.scope x := by first | exact Or.inl rfl | exact Or.inr (Or.inl rfl) | exact Or.inr (Or.inr rfl)) (hd : (x == ("__debug__" : Str)) = false := by decide)
    (hcd : (x == ("__classdict__" : Str)) = false := by decide) : PI X tg (.Name x pos) (tIc (Lk i) (tIb (fKeys i))) := PI.imp (pi_keys (pe_var hN hv hd hcd)) fun σ H R ⟨⟨d, o, u, hs, hf, hk⟩, z, P, O, ρ, Rl, w⟩ => by
  obtain ⟨tk, kvs, d', hs', np, ns, h, k⟩ := dctAt_w Rl (WP.bind w)
  rw [hs] at hs'
  cases hs'
  have k := WP.ok k
  refine ⟨.ref d, hs, d, o, rfl, ?_⟩
  rcases h with ⟨et, l, hl, rr⟩ | ⟨et, l, hl, rr⟩
  · have hl' : H d = some (.frz o (.dK l)) := hl.frz hf trivial
    refine .inl ⟨l, hl', k _ H SameS.refl Rl.src fun P2 O2 H2 lt => ?_⟩
    have h2 := lt.same d _ ns hl'
    refine ⟨fun i hi => ⟨h2, by rw [rr.len]; simpa using hi⟩, fun i hi => ⟨h2, by rw [rr.len]; rw [List.length_map] at hi; exact Nat.le_of_eq hi.symm⟩, fun i y H3 hi ⟨e, q, v, hq, ey⟩ => ?_⟩
    subst e
    obtain ⟨d', h1, h3⟩ := rr.at_ hq
    exact ⟨SameS.refl, lt.ws.src, _, by rw [List.getElem?_map, h1]; rfl, by rw [ey]; exact keyD1_rep q⟩
  · have hl' : H d = some (.frz o (.dT l)) := hl.frz hf trivial
    refine .inr ⟨l, hl', k _ H SameS.refl Rl.src fun P2 O2 H2 lt => ?_⟩
    have h2 := lt.same d _ ns hl'
    refine ⟨fun i hi => ⟨h2, by rw [rr.len]; simpa using hi⟩, fun i hi => ⟨h2, by rw [rr.len]; rw [List.length_map] at hi; exact Nat.le_of_eq hi.symm⟩, fun i y H3 hi ⟨e, q, v, b, hq, ey, hb⟩ => ?_⟩
    subst e
    obtain ⟨d', h1, h3⟩ := rr.at_ hq
    refine ⟨SameS.refl, lt.ws.src, _, by rw [List.getElem?_map, h1]; rfl, ?_⟩
    rw [ey]
    refine ⟨b, _, rfl, ⟨fun q => ?_, fun q => ?_, fun q => ?_, .inl hb⟩, keyD1s_rep q⟩
    · obtain ⟨u, e1, e2⟩ := lt.ws.own b q
      rw [hb] at e1; cases e1; exact e2 _ rfl
    · obtain ⟨u, e1, e2⟩ := lt.ws.prt b q
      rw [hb] at e1; cases e1; exact e2 _ rfl
    · obtain ⟨u, e1, e2⟩ := Nt.src lt.ws.src q
      rw [hb] at e1; cases e1; exact e2 _ rfl

theorem dctAt_lend (i : Nat) : dctAt i (lend ρ) = dctAt i ρ := by
  have : ∀ (ρ : Ev) (i : Nat), (lend ρ).at i = match ρ.at i with
    | .own d => .lent d
    | s => s := by
    intro ρ
    induction ρ with
    | nil => intro i; rfl
    | cons s r ih =>
      intro i
      cases i with
      | zero => cases s <;> rfl
      | succ i => cases s <;> exact ih i
  unfold dctAt
  rw [this]
  cases e : ρ.at i with
  | own d => cases d <;> rfl
  | _ => rfl
theorem lend_lend : ∀ ρ : Ev, lend (lend ρ) = lend ρ
  | [] => rfl
  | s :: r => by cases s <;> exact congrArg (_ :: ·) (lend_lend r)
theorem fLc_lend {vs : List Nat} {p : Pat} {t : Ev → T Bool} {e : Ev → T D} (i : Nat) : fLc vs (fKeys i) p t e (lend ρ) = fLc vs (fKeys i) p t e ρ := by
  unfold fLc fKeys
  rw [dctAt_lend, lend_lend]
/-- the dict at d locked: nothing is owned for now but lent -/
theorem Vw.lock {d : Addr} {od : Obj} {u : HO} (hd : H d = some u) (k : dk u) : ∀ a w, Vw z P O H a w → Vw z P O (upd H d (.frz od u)) a w := by
  intro a w h
  obtain ⟨h1, h2, h3, h4⟩ := h
  refine ⟨h1, h2, h3, ?_⟩
  by_cases e : a = d
  · subst e
    rcases h4 with h4 | ⟨_, o, h4⟩
    · rw [hd] at h4; cases h4; exact .inr ⟨k, od, upd_same⟩
    · rw [hd] at h4; cases h4; exact k.elim
  · rcases h4 with h4 | ⟨q, o, h4⟩
    · exact .inl (by rw [upd_ne e]; exact h4)
    · exact .inr ⟨q, o, by rw [upd_ne e]; exact h4⟩
theorem Rx.lock {d : Addr} {od : Obj} {u : HO} (hd : H d = some u) (k : dk u) {a : Addr} {w : HO} (h4 : Rx H a w) : Rx (upd H d (.frz od u)) a w := by
  by_cases e : a = d
  · subst e
    rcases h4 with h4 | ⟨_, o, h4⟩
    · rw [hd] at h4; cases h4; exact .inr ⟨k, od, upd_same⟩
    · rw [hd] at h4; cases h4; exact k.elim
  · rcases h4 with h4 | ⟨q, o, h4⟩
    · exact .inl (by rw [upd_ne e]; exact h4)
    · exact .inr ⟨q, o, by rw [upd_ne e]; exact h4⟩
theorem Rx.unlock {d : Addr} {od : Obj} {u : HO} (hd : H d = some (.frz od u)) {a : Addr} {w : HO} (h4 : Rx H a w) (nf : ∀ o v, w ≠ .frz o v) : Rx (upd H d u) a w := by
  by_cases e : a = d
  · subst e
    rcases h4 with h4 | ⟨_, o, h4⟩
    · rw [hd] at h4; cases h4; exact absurd rfl (nf _ _)
    · rw [hd] at h4; cases h4; exact .inl upd_same
  · rcases h4 with h4 | ⟨q, o, h4⟩
    · exact .inl (by rw [upd_ne e]; exact h4)
    · exact .inr ⟨q, o, by rw [upd_ne e]; exact h4⟩
/-- what a representation reads is no lock -/
def nolock : HO → Prop
  | .frz _ _ => False
  | _ => True
end
section
variable {s : Option Addr} {R R' : Addr → HO → Prop}
mutual
theorem Rep.mono' (h : ∀ a u, nolock u → R a u → R' a u) : ∀ {d : D} {v : V}, Rep s R d v → Rep s R' d v
  | .non, _, r => r
  | .bl _, _, r => r
  | .int _, _, r => r
  | .str _, _, r => r
  | .tup _, _, ⟨a, vs, e, q, r⟩ => ⟨a, vs, e, h _ _ trivial q, Reps.mono' h r⟩
  | .lst _, _, ⟨a, vs, e, q, r⟩ => ⟨a, vs, e, h _ _ trivial q, Reps.mono' h r⟩
  | .dct false _, _, ⟨a, l, e, q, r⟩ => ⟨a, l, e, h _ _ trivial q, RepK.mono' h r⟩
  | .dct true _, _, ⟨a, l, e, q, r⟩ => ⟨a, l, e, h _ _ trivial q, RepT.mono' h r⟩
  | .txt _, _, r => r
  | .src, _, r => r
theorem Reps.mono' (h : ∀ a u, nolock u → R a u → R' a u) : ∀ {d : List D} {v : List V}, Reps s R d v → Reps s R' d v
  | [], _, r => r
  | _ :: _, _, ⟨v, r, e, q, w⟩ => ⟨v, r, e, Rep.mono' h q, Reps.mono' h w⟩
theorem RepK.mono' (h : ∀ a u, nolock u → R a u → R' a u) : ∀ {d : List (Kd × D)} {v : List (Key × V)}, RepK s R d v → RepK s R' d v
  | [], _, r => r
  | (_, _) :: _, _, ⟨q, v, r, e, k, w, t⟩ => ⟨q, v, r, e, k, Rep.mono' h w, RepK.mono' h t⟩
theorem RepT.mono' (h : ∀ a u, nolock u → R a u → R' a u) : ∀ {d : List (Kd × D)} {v : List (List Key × V)}, RepT s R d v → RepT s R' d v
  | [], _, r => r
  | (_, _) :: _, _, ⟨q, v, r, e, k, w, t⟩ => ⟨q, v, r, e, k, Rep.mono' h w, RepT.mono' h t⟩
end
theorem Top.mono' {z : Zr} {E E' : HO → Prop} {d : D} (h : Top z R E d) (hv : ∀ a u, nolock u → R a u → R' a u) (he : ∀ u, nolock u → E u → E' u) : Top z R' E' d := by
  cases d with
  | lst ds => obtain ⟨vs, e, r⟩ := h; exact ⟨vs, he _ trivial e, r.mono' hv⟩
  | dct t kvs =>
    cases t
    · obtain ⟨vs, e, r⟩ := h; exact ⟨vs, he _ trivial e, r.mono' hv⟩
    · obtain ⟨vs, e, r⟩ := h; exact ⟨vs, he _ trivial e, r.mono' hv⟩
  | _ => exact h.elim
end
section
variable {X : Cx} {x : Str} {pos : Pos} {tg : Expr} {z : Zr} {P O : Addr → Prop} {H : Hp} {ρ : Ev} {σ : L2.St} {i : Nat}
theorem nolock_ne {w : HO} (h : nolock w) : ∀ o v, w ≠ .frz o v := by
  intro o v e
  subst e
  exact h
theorem dk_nolock {u : HO} (h : dk u) : nolock u := by
  cases u <;> first | trivial | exact h.elim
theorem Vw.unlock {d : Addr} {od : Obj} {u : HO} (hd : H d = some (.frz od u)) : ∀ a w, nolock w → Vw z P O H a w → Vw z P O (upd H d u) a w := fun a w n ⟨h1, h2, h3, h4⟩ => ⟨h1, h2, h3, h4.unlock hd (nolock_ne n)⟩
theorem Nt.lock {d b : Addr} {o : HO} (h : Nt H b) (k : ∀ xs, o ≠ .tup xs) : Nt (upd H d o) b := by
  obtain ⟨u, h1, h2⟩ := h
  by_cases e : b = d
  · subst e; exact ⟨o, upd_same, k⟩
  · exact ⟨u, (upd_ne e).trans h1, h2⟩
theorem Rel.lock {d : Addr} {od : Obj} {u : HO} (R : Rel z P O ρ σ H) (hd : H d = some u) (k : dk u) (ns : ¬ inS z d) (no : ∀ (j : Nat) (d' : D), ρ[j]? = some (.own d') → ∀ p, σ[j]? = some (some (.ref p)) → p ≠ d) : Rel z P O ρ σ (upd H d (.frz od u)) where
  len := R.len
  src := src_keep R.src fun b hb => upd_ne fun e => ns (e ▸ hb)
  own := fun b hb => ⟨(R.own b hb).1.lock (fun _ q => nomatch q), (R.own b hb).2⟩
  prt := fun b hb => (R.prt b hb).lock fun _ q => nomatch q
  at_ := fun j s x h1 h2 => by
    have w := R.at_ j s x h1 h2
    cases s with
    | non => trivial
    | sh a => obtain ⟨v, e, r⟩ := w; exact ⟨v, e, r.mono (Vw.lock hd k)⟩
    | own a =>
      obtain ⟨p, e, o, t⟩ := w
      subst e
      exact ⟨p, rfl, o, t.mono (Vw.lock hd k) fun w e => by rw [upd_ne (no j a h1 p h2)]; exact e⟩
    | lent a => obtain ⟨p, e, o, t⟩ := w; exact ⟨p, e, o, t.mono (Vw.lock hd k) fun w e => Rx.lock hd k e⟩
  one := R.one
theorem Rel.unlock {d : Addr} {od : Obj} {u : HO} (R : Rel z P O ρ σ H) (hd : H d = some (.frz od u)) (k : dk u) (ns : ¬ inS z d) : Rel z P O ρ σ (upd H d u) where
  len := R.len
  src := src_keep R.src fun b hb => upd_ne fun e => ns (e ▸ hb)
  own := fun b hb => ⟨(R.own b hb).1.lock (fun _ q => by subst q; exact k), (R.own b hb).2⟩
  prt := fun b hb => (R.prt b hb).lock fun _ q => by subst q; exact k
  at_ := fun j s x h1 h2 => by
    have w := R.at_ j s x h1 h2
    cases s with
    | non => trivial
    | sh a => obtain ⟨v, e, r⟩ := w; exact ⟨v, e, r.mono' (Vw.unlock hd)⟩
    | own a =>
      obtain ⟨p, e, o, t⟩ := w
      subst e
      refine ⟨p, rfl, o, t.mono' (Vw.unlock hd) fun w n e => ?_⟩
      have ne : p ≠ d := fun q => by subst q; rw [hd] at e; cases e; exact n
      rw [upd_ne ne]; exact e
    | lent a => obtain ⟨p, e, o, t⟩ := w; exact ⟨p, e, o, t.mono' (Vw.unlock hd) fun w n e => e.unlock hd (nolock_ne n)⟩
  one := R.one
theorem lend_noown : ∀ (ρ : Ev) (j : Nat) (d : D), (lend ρ)[j]? ≠ some (.own d)
  | [], j, d, h => by simp [lend] at h
  | s :: r, 0, d, h => by cases s <;> simp [lend] at h
  | s :: r, j + 1, d, h => by cases s <;> exact lend_noown r j d h
theorem PE.or {e : Expr} {t t' : TE} (h : PE X e t) (h' : PE X e t') : PE X e fun σ H Q => t σ H Q ∨ t' σ H Q := ⟨fun pins s σ H Q I q => q.elim (h.run pins s σ H Q I) (h'.run pins s σ H Q I)⟩
theorem PS.or {e : Stmt} {t t' : TS} (h : PS X e t) (h' : PS X e t') : PS X e fun D σ H => t D σ H ∨ t' D σ H := ⟨fun pins s σ H D I q => q.elim (h.run pins s σ H D I) (h'.run pins s σ H D I)⟩
variable {iter elt : Expr} {it : Ev → T (List D)} {p : Pat} {t : Ev → T Bool} {e : Ev → T D} {vs : List Nat}
theorem tLc_K (hv : ∀ j ∈ p.slots, j ∈ vs) {Q : VK} (h : tF (fLc vs (fKeys i) p t e) σ H Q) :
    tLc (tIc (Lk i) (tIb (fKeys i))) (tG p) (tT t) (tD e) vs σ H Q ∨ tLockE (tLc (tIc (Lk i) (tIb (fKeys i))) (tG p) (tT t) (tD e) vs) σ H Q := by
  have h0 := h
  obtain ⟨z, P, O, ρ, R, w⟩ := h
  have w1 := w
  unfold fLc at w1
  obtain ⟨tk, kvs, d, hs, np, ns, hh, _⟩ := dctAt_w R (WP.bind (WP.bind w1))
  have hx : ∃ u, dk u ∧ Rx H d u := by
    rcases hh with ⟨_, l, hl, _⟩ | ⟨_, l, hl, _⟩
    · exact ⟨.dK l, trivial, hl⟩
    · exact ⟨.dT l, trivial, hl⟩
  obtain ⟨u, ku, hx⟩ := hx
  rcases hx with hx | ⟨_, o, hx⟩
  · right
    have mu : Mut (some u) := by cases u <;> first | trivial | exact ku.elim
    refine ⟨d, u, hx, mu, fun od => ⟨⟨d, od, u, hs, upd_same, ku⟩, ?_⟩⟩
    have R1 : Rel z P O (lend ρ) σ (upd H d (.frz od u)) := R.lend.lock hx ku ns fun j d' h => absurd h (lend_noown ρ j d')
    suffices key : tLc (tIb (fKeys i)) (tG p) (tT t) (tD e) vs σ (upd H d (.frz od u)) (fun v H' => H' d = some (.frz od u) ∧ Q v (upd H' d u)) from key
    refine tLc_F hv ⟨z, P, O, lend ρ, R1, ?_⟩
    rw [fLc_lend]
    refine w.mono fun dd k q H' hq g s tt => ?_
    have hd' : H' d = some (.frz od u) := g d _ ns upd_same
    have hq' : H q = none := by
      by_cases e : q = d
      · subst e; rw [upd_same] at hq; cases hq
      · rw [upd_ne e] at hq; exact hq
    have qd : q ≠ d := fun e => by subst e; rw [upd_same] at hq; cases hq
    refine ⟨hd', k q _ hq' (fun b o nb eb => ?_) (src_keep s fun b hb => upd_ne fun e => ns (e ▸ hb)) (tt.mono' (Vw.unlock hd') fun w n e => by rw [upd_ne qd]; exact e)⟩
    by_cases e : b = d
    · subst e; rw [upd_same, ← hx, eb]
    · rw [upd_ne e]; exact g b o nb (by rw [upd_ne e]; exact eb)
  · left
    exact ⟨⟨d, o, u, hs, hx, ku⟩, tLc_F hv h0⟩
variable {scope : Scope} {own : List (Str × Nat)} {spos : Pos} {ifs : List Expr}
/-- [e for k in d if ..] -/
theorem dlcK (i : Nat) (hc : X.calm = true) (hN : X.N.Nodup) (hn : X.N[i]? = some x := by rfl) (hvis : Vis X.env.scope x := by first | exact Or.inl rfl | exact Or.inr (Or.inl rfl) | exact Or.inr (Or.inr rfl)) (ok : blkC X.N X.env.scope scope own = true) (hv : (p.slots.all fun j => decide (j ∈ own.map (·.2))) = true)
    (hg : ∀ (s : Shared) (H : Hp) (C : Addr) (cl : List (Str × Addr)) (fp : List Addr), PG (X.blk s H scope (compEnvC scope cl C X.env) fp) tg (tG p)) (ht : ∀ (s : Shared) (H : Hp) (C : Addr) (cl : List (Str × Addr)) (fp : List Addr), PTs (X.blk s H scope (compEnvC scope cl C X.env) fp) ifs (tT t))
    (he : ∀ (s : Shared) (H : Hp) (C : Addr) (cl : List (Str × Addr)) (fp : List Addr), PE (X.blk s H scope (compEnvC scope cl C X.env) fp) elt (tD e)) (hd : (x == ("__debug__" : Str)) = false := by decide)
    (hcd : (x == ("__classdict__" : Str)) = false := by decide) (hs : ∀ y, foldedSetIterable (.Name x pos) X.env y = pure y := by intro _; rfl) :
    PE X (.ListComp elt [⟨tg, .Name x pos, ifs, 0⟩] scope spos) (tF (fLc (own.map (·.2)) (fKeys i) p t e)) := by
  have h := pe_lc (pos := spos) hc hN (bkeys (tg := tg) (pos := pos) i hn hvis hd hcd) (blkOk_by ok) hg ht he hs
  exact PE.imp (PE.or h (pe_lock h)) fun _ _ _ => tLc_K fun j hj => of_decide_eq_true (List.all_eq_true.mp hv j hj)
end
end
end DL

set_option Elab.async false
set_option linter.all false
set_option maxRecDepth 100000
namespace DL
noncomputable section
open PySem PySem.Spec PyProof.Rows L2

/-! ### repr -/
mutual
/-- ints of at most 1900 bits, texts of plain signs -/
def short : D → Bool
  | .int i => Nat.blt i.natAbs.log2 1900
  | .tup ds => shorts ds
  | .lst ds => shorts ds
  | .str s => s.cps.toList.all fun c => Nat.blt c 4294967296
  | .non => true
  | .bl _ => true
  | _ => false
def shorts : List D → Bool
  | [] => true
  | d :: r => short d && shorts r
end
mutual
def bulkD : D → Nat
  | .str x => x.cps.size
  | .tup ds => bulkDs ds
  | .lst ds => bulkDs ds
  | _ => 0
def bulkDs : List D → Nat
  | [] => 0
  | d :: r => bulkD d + 1 + bulkDs r
end
set_option exponentiation.threshold 2000 in
theorem int_short {i : Int} (h : i.natAbs.log2 < 1900) : (PyData.shown (.int i)).length ≤ 600 := by
  have h0 : i.natAbs < 2 ^ 1900 := by
    by_cases z : i.natAbs = 0
    · rw [z]; exact Nat.two_pow_pos _
    · exact (Nat.log2_lt z).mp h
  have h1 : (2 : Nat) ^ 1900 ≤ 10 ^ 599 := by decide +kernel
  have e := int_text_length_le10 (k := 599) (by decide) (Nat.lt_of_lt_of_le h0 h1)
  have q : (PyData.shown (.int i)).length = (toString i).length := PySem.ofString_length _
  omega
mutual
theorem short_ok : ∀ {d : D}, short d = true → PyData.leavesShort 600 (toPy d) = true ∧ (toPy d).showable = true ∧ (toPy d).hasDict = false ∧ (toPy d).bulk = bulkD d
  | .non, _ => ⟨rfl, rfl, rfl, rfl⟩
  | .bl _, _ => ⟨rfl, rfl, rfl, rfl⟩
  | .int i, h => ⟨decide_eq_true (int_short (nblt.mp h)), decide_eq_true (Nat.lt_of_lt_of_le (nblt.mp h) (by decide)), rfl, rfl⟩
  | .str s, h => ⟨by
      refine List.all_eq_true.mpr fun c hc => decide_eq_true ?_
      have q := nblt.mp (List.all_eq_true.mp (show (s.cps.toList.all fun c => Nat.blt c 4294967296) = true from h) c hc)
      exact q, rfl, rfl, rfl⟩
  | .tup ds, h => shorts_ok (ds := ds) h
  | .lst ds, h => shorts_ok (ds := ds) h
theorem shorts_ok : ∀ {ds : List D}, shorts ds = true → PyData.leavesShortAll 600 (toPys ds) = true ∧ PyData.showableAll (toPys ds) = true ∧ PyData.hasDictAll (toPys ds) = false ∧ PyData.bulkAll (toPys ds) = bulkDs ds
  | [], _ => ⟨rfl, rfl, rfl, rfl⟩
  | d :: r, h => by
    have h' : (short d && shorts r) = true := h
    rw [Bool.and_eq_true] at h'
    obtain ⟨a1, a2, a3, a4⟩ := short_ok h'.1
    obtain ⟨b1, b2, b3, b4⟩ := shorts_ok h'.2
    refine ⟨?_, ?_, ?_, ?_⟩
    · show (PyData.leavesShort 600 (toPy d) && PyData.leavesShortAll 600 (toPys r)) = true
      rw [a1, b1]; rfl
    · show (PyData.showable (toPy d) && PyData.showableAll (toPys r)) = true
      rw [a2, b2]; rfl
    · show (PyData.hasDict (toPy d) || PyData.hasDictAll (toPys r)) = false
      rw [a3, b3]; rfl
    · show PyData.bulk (toPy d) + 1 + PyData.bulkAll (toPys r) = bulkD d + 1 + bulkDs r
      rw [a4, b4]
end
def rOk (d : D) : Bool := pl 60 d && short d && Nat.blt (bulkD d) 20000
theorem rOk_w {d : D} (h : rOk d = true) : pl 60 d = true ∧ (toPy d).showable = true ∧ (toPy d).hasDict = false ∧ (toPy d).shown.length ≤ sizeLine ∧ (toPy d).depth ≤ 60 := by
  unfold rOk at h
  rw [Bool.and_eq_true, Bool.and_eq_true] at h
  obtain ⟨⟨h1, h2⟩, h3⟩ := h
  obtain ⟨a1, a2, a3, a4⟩ := short_ok h2
  refine ⟨h1, a2, a3, ?_, (pl_lay h1).2⟩
  have q := PyData.shown_le_bulk 600 (by decide) (toPy d) a1
  rw [a4] at q
  have h3 := nblt.mp h3
  rw [sizeLine_eq]
  omega
def dRepr (d : D) : T D := tIf (rOk d) (.ok (.txt d))
def rReprD (X : Cx) : List V → Hp → VK → Prop := fun xs H Q => ∃ v d, xs = [v] ∧ Dp X.K H v (toPy d) ∧ rOk d = true ∧ Q (.str (rpr d)) H
theorem call_reprD {X : Cx} (hg : X.A.guards = some []) (hu : X.A.units + 64 < cLine) : CallR X (.builtin "repr") (rReprD X) := by
  intro pins s σ H xs us Q I r h
  obtain ⟨v, d, rfl, hd, hr, q⟩ := h
  obtain ⟨u, rfl, rv⟩ := vals1 r
  obtain ⟨h1, h2, h3, h4, h5⟩ := rOk_w hr
  have ref : ∀ a, u = .ref a → wpAny (model X.prog X.w) X.A (call (.builtin "repr") [u]) (EP X pins σ Q) X.xe s := by
    intro a e
    obtain ⟨as, rd⟩ := Dp.reads I _ _ u hd rv
    subst e
    refine PySem.repr_of_reads' rd h2 (fun k => by rw [h3] at k; cases k) hg (by omega) (fun _ _ e => e) (fun h' u tk k => ?_) h4
    exact ⟨.str _, H, I.kept k, ⟨_, rfl⟩, q⟩
  cases d with
  | non =>
    have hd' : Dp X.K H v .none := hd
    cases hd'
    rw [show u = Value.none from rv]
    exact PySem.P.repr_of_none ⟨.str _, H, I.tok _, ⟨_, rfl⟩, q⟩
  | bl b =>
    have hd' : Dp X.K H v (.bool b) := hd
    cases hd'
    rw [show u = Value.bool b from rv]
    exact PySem.P.repr_of_bool ⟨.str _, H, I.tok _, ⟨_, rfl⟩, q⟩
  | int i =>
    have hd' : Dp X.K H v (.int i) := hd
    cases hd'
    obtain ⟨t, e⟩ := rv
    rw [e]
    exact PySem.P.repr_of_int (of_decide_eq_true h2) ⟨.str _, H, I.tok _, ⟨_, rfl⟩, q⟩
  | str x =>
    have hd' : Dp X.K H v (.str x) := hd
    cases hd'
    obtain ⟨t, e⟩ := rv
    rw [e]
    exact PySem.P.repr_of_str ⟨.str _, H, I.tok _, ⟨_, rfl⟩, q⟩ h4
  | tup ds =>
    have hd' : Dp X.K H v (.tuple (toPys ds)) := hd
    cases hd'
    exact ref _ rv
  | lst ds =>
    have hd' : Dp X.K H v (.list (toPys ds)) := hd
    cases hd'
    exact ref _ rv
  | _ => exact absurd (show false = true from h1) Bool.false_ne_true
theorem repr_ok {X : Cx} : CallOk (on1 dRepr) (rReprD X) := fun z P O H ds vs Q W r w => by
  obtain ⟨d, v, e, rv, w⟩ := on1_w r w
  subst e
  obtain ⟨c, k⟩ := tIf_w w
  exact ⟨v, d, rfl, rv.dp (rOk_w c).1, c, KD.self W (WP.ok k) rfl⟩

/-! ### sorted -/
def iltL : List Int → List Int → Bool
  | [], [] => false
  | [], _ :: _ => true
  | _ :: _, [] => false
  | a :: r, b :: s => match ieq a b with
    | true => iltL r s
    | false => ilt a b
theorem iltL_eq : ∀ a b : List Int, iltL a b = PySem.W.rowLt (a.map .int) (b.map .int)
  | [], [] => by rw [PySem.W.dataLt_ints]; rfl
  | [], b :: s => by rw [PySem.W.dataLt_ints]; simp [iltL]
  | a :: r, [] => by rw [PySem.W.dataLt_ints]; simp [iltL]
  | a :: r, b :: s => by
    have ih := iltL_eq r s
    rw [PySem.W.dataLt_ints] at ih ⊢
    unfold iltL
    rw [ih]
    cases e : ieq a b
    · have ne : a ≠ b := fun q => by rw [ieq_iff.mpr q] at e; cases e
      show ilt a b = _
      rw [ilt_eq]
      refine decide_eq_decide.mpr ?_
      rw [List.cons_lt_cons_iff]
      constructor
      · exact fun h => .inl h
      · rintro (h | ⟨h, _⟩)
        · exact h
        · exact absurd h ne
    · have q := ieq_iff.mp e
      subst q
      show decide (r < s) = _
      refine decide_eq_decide.mpr ?_
      rw [List.cons_lt_cons_iff]
      constructor
      · exact fun h => .inr ⟨rfl, h⟩
      · rintro (h | ⟨_, h⟩)
        · omega
        · exact h
def leD (a b : D) : Bool := match a, b with
  | .int i, .int j => ile i j
  | .tup xs, .tup ys => match intsD xs, intsD ys with
    | some m, some n => !iltL n m
    | _, _ => PySem.W.dataLe false toPy (.tup xs) (.tup ys)
  | a, b => PySem.W.dataLe false toPy a b
theorem intsD_py : ∀ {ds : List D} {ns : List Int}, intsD ds = some ns → toPys ds = ns.map .int
  | [], _, h => by cases h; rfl
  | d :: r, ns, h => by
    cases d <;> first | (cases h; done) | skip
    rename_i i
    unfold intsD at h
    cases e : intsD r with
    | none => rw [e] at h; cases h
    | some ms =>
      rw [e] at h
      cases h
      show PyData.int i :: toPys r = _
      rw [intsD_py e]; rfl
theorem leD_eq (a b : D) : leD a b = PySem.W.dataLe false toPy a b := by
  unfold leD
  split
  · rename_i i j
    have h := congrFun (congrFun (PySem.W.dataLe_int (fun x : Int => x)) i) j
    show ile i j = _
    rw [ile_eq]
    exact h.symm
  · rename_i xs ys
    split
    · rename_i m n e1 e2
      show _ = (!PySem.W.dataLt (.tuple (toPys ys)) (.tuple (toPys xs)))
      rw [PySem.W.dataLt_tuple, intsD_py e1, intsD_py e2, iltL_eq]; rfl
    · rfl
  · rfl
/-! merging -/
section
variable {α : Type} (le : α → α → Bool)
def mgo (a : α) (rec : List α → List α) : List α → List α
  | [] => a :: rec []
  | b :: bs => match le a b with
    | true => a :: rec (b :: bs)
    | false => b :: mgo a rec bs
def mrg : List α → List α → List α
  | [], ys => ys
  | a :: as, ys => mgo le a (mrg as) ys
def prs : List (List α) → List (List α)
  | a :: b :: r => mrg le a b :: prs r
  | r => r
def mfl : List (List α) → List α
  | [] => []
  | [a] => a
  | a :: r => mrg le a (mfl r)
def mms : Nat → List (List α) → List α
  | 0, l => mfl le l
  | n + 1, l => match l with
    | [] => []
    | [a] => a
    | a :: b :: r => mms n (prs le (a :: b :: r))
def msort (l : List α) : List α := mms le 40 (l.map fun x => [x])
end
section
open PySem.W
variable {α : Type} {le : α → α → Bool} (h : TotalLe le)
abbrev Srt (le : α → α → Bool) (l : List α) : Prop := l.Pairwise fun a b => le a b = true
theorem mem_mrg (le : α → α → Bool) : ∀ (as ys : List α) (x : α), x ∈ mrg le as ys ↔ x ∈ as ∨ x ∈ ys
  | [], ys, x => by simp [mrg]
  | a :: as, ys, x => by
    have ih := mem_mrg le as
    show x ∈ mgo le a (mrg le as) ys ↔ _
    induction ys with
    | nil => rw [mgo, List.mem_cons, ih, List.mem_cons]; simp
    | cons b bs ihb =>
      unfold mgo
      split
      · rw [List.mem_cons, ih, List.mem_cons, List.mem_cons]
        constructor
        · rintro (q | q | q | q) <;> simp [q]
        · rintro ((q | q) | q | q) <;> simp [q]
      · rw [List.mem_cons, ihb, List.mem_cons, List.mem_cons]
        constructor
        · rintro (q | (q | q) | q) <;> simp [q]
        · rintro ((q | q) | q | q) <;> simp [q]
include h in
theorem srt_mrg : ∀ (as ys : List α), Srt le as → Srt le ys → Srt le (mrg le as ys)
  | [], ys, _, hy => hy
  | a :: as, ys, ha, hy => by
    have ih := srt_mrg as
    obtain ⟨ha1, ha2⟩ := List.pairwise_cons.mp ha
    show Srt le (mgo le a (mrg le as) ys)
    induction ys with
    | nil =>
      unfold mgo
      refine List.pairwise_cons.mpr ⟨fun x hx => ?_, ih [] ha2 hy⟩
      rcases (mem_mrg le as [] x).mp hx with q | q
      · exact ha1 x q
      · cases q
    | cons b bs ihb =>
      obtain ⟨hb1, hb2⟩ := List.pairwise_cons.mp hy
      unfold mgo
      split
      · rename_i e
        refine List.pairwise_cons.mpr ⟨fun x hx => ?_, ih _ ha2 hy⟩
        rcases (mem_mrg le as _ x).mp hx with q | q
        · exact ha1 x q
        · rcases List.mem_cons.mp q with q | q
          · rw [q]; exact e
          · exact h.trans _ _ _ e (hb1 x q)
      · rename_i e
        have hba : le b a = true := (h.total a b).elim (fun q => by rw [e] at q; cases q) id
        refine List.pairwise_cons.mpr ⟨fun x hx => ?_, ihb hb2⟩
        rcases (mem_mrg le (a :: as) bs x).mp hx with q | q
        · rcases List.mem_cons.mp q with q | q
          · rw [q]; exact hba
          · exact h.trans _ _ _ hba (ha1 x q)
        · exact hb1 x q
include h in
theorem cls_mrg (c : α) : ∀ (as ys : List α), Srt le as → (mrg le as ys).filter (sameRank le c) = as.filter (sameRank le c) ++ ys.filter (sameRank le c)
  | [], ys, _ => rfl
  | a :: as, ys, ha => by
    have ih := cls_mrg c as
    obtain ⟨ha1, ha2⟩ := List.pairwise_cons.mp ha
    show (mgo le a (mrg le as) ys).filter _ = _
    induction ys with
    | nil =>
      unfold mgo
      rw [List.filter_cons, ih [] ha2, List.filter_cons, List.filter_nil, List.append_nil, List.append_nil]
    | cons b bs ihb =>
      unfold mgo
      split
      · rename_i e
        rw [List.filter_cons, ih _ ha2, List.filter_cons (x := a)]
        split <;> rfl
      · rename_i e
        rw [List.filter_cons, ihb, List.filter_cons (x := b)]
        split
        · rename_i hb
          -- b is of c's rank: none of a :: as is
          have hb' : le c b = true ∧ le b c = true := by
            unfold sameRank at hb
            rw [Bool.and_eq_true] at hb
            exact hb
          have no : ∀ x ∈ a :: as, sameRank le c x = false := by
            intro x hx
            have hax : le a x = true := by
              rcases List.mem_cons.mp hx with q | q
              · rw [q]; exact h.refl a
              · exact ha1 x q
            cases q : sameRank le c x
            · rfl
            · unfold sameRank at q
              rw [Bool.and_eq_true] at q
              have := h.trans _ _ _ (h.trans _ _ _ hax q.2) hb'.1
              rw [e] at this
              cases this
          have e0 : (a :: as).filter (sameRank le c) = [] := List.filter_eq_nil_iff.mpr fun x hx q => by rw [no x hx] at q; cases q
          rw [e0]; rfl
        · rfl
theorem mem_prs {P : List α → Prop} (hm : ∀ a b, P a → P b → P (mrg le a b)) : ∀ {n : Nat} {l : List (List α)}, l.length ≤ n → (∀ a ∈ l, P a) → ∀ a ∈ prs le l, P a
  | _, [], _, _, a, ha => by cases ha
  | _, [x], _, hl, a, ha => hl a ha
  | n + 2, x :: y :: r, hn, hl, a, ha => by
    rcases List.mem_cons.mp (show a ∈ mrg le x y :: prs le r from ha) with q | q
    · rw [q]; exact hm x y (hl x (by simp)) (hl y (by simp))
    · exact mem_prs hm (n := n) (by simp at hn; omega) (fun b hb => hl b (by simp [hb])) a q
  | 0, _ :: _ :: _, hn, _, _, _ => absurd hn (by simp)
  | 1, _ :: _ :: _, hn, _, _, _ => absurd hn (by simp)
include h in
theorem prs_cls (c : α) : ∀ {n : Nat} {l : List (List α)}, l.length ≤ n → (∀ a ∈ l, Srt le a) → ((prs le l).flatten).filter (sameRank le c) = (l.flatten).filter (sameRank le c)
  | _, [], _, _ => rfl
  | _, [x], _, hl => rfl
  | n + 2, x :: y :: r, hn, hl => by
    show ((mrg le x y :: prs le r).flatten).filter _ = _
    rw [List.flatten_cons, List.filter_append, cls_mrg h c x y (hl x (by simp)), prs_cls c (n := n) (by simp at hn; omega) fun b hb => hl b (by simp [hb])]
    simp [List.filter_append]
  | 0, _ :: _ :: _, hn, _ => absurd hn (by simp)
  | 1, _ :: _ :: _, hn, _ => absurd hn (by simp)
include h in
theorem mfl_ok (c : α) : ∀ (l : List (List α)), (∀ a ∈ l, Srt le a) → Srt le (mfl le l) ∧ (mfl le l).filter (sameRank le c) = (l.flatten).filter (sameRank le c)
  | [], _ => ⟨List.Pairwise.nil, rfl⟩
  | [a], hl => ⟨hl a (by simp), by simp [mfl]⟩
  | a :: b :: r, hl => by
    obtain ⟨h1, h2⟩ := mfl_ok c (b :: r) fun x hx => hl x (List.mem_cons_of_mem _ hx)
    refine ⟨srt_mrg h a _ (hl a (by simp)) h1, ?_⟩
    show (mrg le a (mfl le (b :: r))).filter _ = _
    rw [cls_mrg h c a _ (hl a (by simp)), h2, ← List.filter_append]; rfl
include h in
theorem mms_ok (c : α) : ∀ (n : Nat) (l : List (List α)), (∀ a ∈ l, Srt le a) → Srt le (mms le n l) ∧ (mms le n l).filter (sameRank le c) = (l.flatten).filter (sameRank le c)
  | 0, l, hl => mfl_ok h c l hl
  | n + 1, [], _ => ⟨List.Pairwise.nil, rfl⟩
  | n + 1, [a], hl => ⟨hl a (by simp), by simp [mms]⟩
  | n + 1, a :: b :: r, hl => by
    obtain ⟨h1, h2⟩ := mms_ok c n (prs le (a :: b :: r)) (mem_prs (P := Srt le) (fun x y hx hy => srt_mrg h x y hx hy) (Nat.le_refl _) hl)
    exact ⟨h1, h2.trans (prs_cls h c (Nat.le_refl _) hl)⟩
include h in
theorem msort_eq (l : List α) : msort le l = l.mergeSort le := by
  have hs : ∀ a ∈ l.map fun x => [x], Srt le a := fun a ha => by
    obtain ⟨x, _, rfl⟩ := List.mem_map.mp ha
    exact List.pairwise_singleton _ _
  have hf : (l.map fun x => [x]).flatten = l := by
    induction l with
    | nil => rfl
    | cons x r ih => rw [List.map_cons, List.flatten_cons, ih fun a ha => hs a (by simp only [List.map_cons, List.mem_cons]; exact .inr ha)]; rfl
  cases l with
  | nil => exact sort_unique h List.Pairwise.nil fun c => rfl
  | cons x r => exact sort_unique h (mms_ok h x 40 _ hs).1 fun c => by rw [msort, (mms_ok h c 40 _ hs).2, hf]
end
theorem leD_total : PySem.W.TotalLe leD := by
  have e : leD = PySem.W.dataLe false toPy := by funext a b; exact leD_eq a b
  rw [e]
  exact PySem.W.sortLe_total _ _ _
end
end DL

set_option Elab.async false
set_option linter.all false
set_option maxRecDepth 100000
namespace DL
noncomputable section
open PySem PySem.Spec PyProof.Rows L2

/-! ### sorted: shapes that compare -/
inductive Sh where
  | i | r (s : Sh) | c (ss : List Sh)
mutual
def shOk : Sh → D → Bool
  | .i, .int _ => true
  | .r s, .tup ds => ds.all fun d => shOk s d
  | .c ss, .tup ds => shEach ss ds
  | _, _ => false
def shEach : List Sh → List D → Bool
  | [], [] => true
  | s :: ss, d :: ds => shOk s d && shEach ss ds
  | _, _ => false
end
theorem alike_all {s : Sh} (ih : ∀ {a b : D}, shOk s a = true → shOk s b = true → PySem.W.alike (toPy a) (toPy b) = true) : ∀ {xs ys : List D}, (xs.all fun d => shOk s d) = true → (ys.all fun d => shOk s d) = true → PySem.W.alikeAll (toPys xs) (toPys ys) = true
  | [], _, _, _ => by simp [toPys, PySem.W.alikeAll]
  | _ :: _, [], _, _ => by simp [toPys, PySem.W.alikeAll]
  | x :: xs, y :: ys, h1, h2 => by
    rw [List.all_cons, Bool.and_eq_true] at h1 h2
    show PySem.W.alikeAll (toPy x :: toPys xs) (toPy y :: toPys ys) = true
    rw [PySem.W.alikeAll, ih h1.1 h2.1, alike_all ih h1.2 h2.2]; rfl
mutual
theorem sh_alike : ∀ {s : Sh} {a b : D}, shOk s a = true → shOk s b = true → PySem.W.alike (toPy a) (toPy b) = true
  | .i, a, b, h1, h2 => by
    cases a <;> cases b <;> first | (simp [shOk] at h1; done) | (simp [shOk] at h2; done) | rfl | simp [toPy, PySem.W.alike]
  | .r s, a, b, h1, h2 => by
    cases a <;> first | (simp [shOk] at h1; done) | skip
    cases b <;> first | (simp [shOk] at h2; done) | skip
    unfold shOk at h1 h2
    have q := alike_all (s := s) (fun {a b} p q => sh_alike p q) h1 h2
    simpa [toPy, PySem.W.alike] using q
  | .c ss, a, b, h1, h2 => by
    cases a <;> first | (simp [shOk] at h1; done) | skip
    cases b <;> first | (simp [shOk] at h2; done) | skip
    unfold shOk at h1 h2
    have q := sh_alikes (ss := ss) h1 h2
    simpa [toPy, PySem.W.alike] using q
theorem sh_alikes : ∀ {ss : List Sh} {xs ys : List D}, shEach ss xs = true → shEach ss ys = true → PySem.W.alikeAll (toPys xs) (toPys ys) = true
  | [], [], [], _, _ => by simp [toPys, PySem.W.alikeAll]
  | [], _ :: _, _, h, _ => by simp [shEach] at h
  | [], [], _ :: _, _, h => by simp [shEach] at h
  | _ :: _, [], _, h, _ => by simp [shEach] at h
  | _ :: _, _ :: _, [], _, h => by simp [shEach] at h
  | s :: ss, x :: xs, y :: ys, h1, h2 => by
    unfold shEach at h1 h2
    rw [Bool.and_eq_true] at h1 h2
    show PySem.W.alikeAll (toPy x :: toPys xs) (toPy y :: toPys ys) = true
    rw [PySem.W.alikeAll, sh_alike h1.1 h2.1, sh_alikes h1.2 h2.2]; rfl
end
def isI : D → Bool
  | .int _ => true
  | _ => false
def isT1 : D → Bool
  | .tup (_ :: _) => true
  | _ => false
def shAny (ss : List Sh) (ds : List D) : Bool := ss.any fun s => ds.all fun d => shOk s d
def srtOk (ss : List Sh) (ds : List D) : Bool := pls 60 ds && shAny ss ds && (ds.all isI || ds.all isT1)
theorem toPys_map : ∀ ds : List D, toPys ds = ds.map toPy
  | [] => rfl
  | d :: r => congrArg (toPy d :: ·) (toPys_map r)
theorem srtOk_w {ss : List Sh} {ds : List D} (h : srtOk ss ds = true) : pls 60 ds = true ∧ PySem.W.AllAlike (ds.map toPy) ∧ PySem.W.Sortable (ds.map toPy) := by
  unfold srtOk at h
  rw [Bool.and_eq_true, Bool.and_eq_true, Bool.or_eq_true] at h
  obtain ⟨⟨h1, h2⟩, h3⟩ := h
  refine ⟨h1, ?_, ?_⟩
  · obtain ⟨s, _, hs⟩ := List.any_eq_true.mp h2
    intro d hd d' hd'
    obtain ⟨x, hx, rfl⟩ := List.mem_map.mp hd
    obtain ⟨y, hy, rfl⟩ := List.mem_map.mp hd'
    exact sh_alike (List.all_eq_true.mp hs x hx) (List.all_eq_true.mp hs y hy)
  · rcases h3 with h3 | h3
    · refine .inr fun d hd => ?_
      obtain ⟨x, hx, rfl⟩ := List.mem_map.mp hd
      have := List.all_eq_true.mp h3 x hx
      cases x <;> first | (cases this; done) | exact ⟨fun q => (nomatch q), fun xs q => (nomatch q)⟩
    · refine .inl fun d hd => ?_
      obtain ⟨x, hx, rfl⟩ := List.mem_map.mp hd
      have := List.all_eq_true.mp h3 x hx
      cases x <;> first | (cases this; done) | skip
      rename_i ds'
      cases ds' with
      | nil => cases this
      | cons y r => exact ⟨toPy y, toPys r, rfl⟩
/-- a list, sorted -/
def srtL (ss : List Sh) : List D → T (List D)
  | [] => .ok []
  | [x] => .ok [x]
  | ds => tIf (srtOk ss ds) (.ok (msort leD ds))
def dSorted (ss : List Sh) : D → T D
  | .lst ds => (srtL ss ds).bind fun r => .ok (.lst r)
  | _ => .no
section
open PySem.W
theorem each_of {z : Zr} {P O : Addr → Prop} {H : Hp} : ∀ {ds : List D} {vs : List V}, Reps (sa z) (Vw z P O H) ds vs → EachIs (fun v d => Rep (sa z) (Vw z P O H) d v) vs ds
  | [], _, r => by rw [show _ = [] from r]; exact .nil
  | d :: ds, _, ⟨v, r, e, q, w⟩ => by rw [e]; exact .cons q (each_of w)
theorem of_each {z : Zr} {P O : Addr → Prop} {H : Hp} : ∀ {ds : List D} {vs : List V}, EachIs (fun v d => Rep (sa z) (Vw z P O H) d v) vs ds → Reps (sa z) (Vw z P O H) ds vs
  | _, _, .nil => rfl
  | _, _, .cons q w => ⟨_, _, rfl, q, of_each w⟩
theorem each_dp {K : Frag} {z : Zr} {P O : Addr → Prop} {H : Hp} {n : Nat} : ∀ {ds : List D} {vs : List V}, pls n ds = true → Reps (sa z) (Vw z P O H) ds vs → EachIs (fun v d => Dp K H v (toPy d)) vs ds
  | [], _, _, r => by rw [show _ = [] from r]; exact .nil
  | d :: ds, _, h, ⟨v, r, e, q, w⟩ => by
    rw [pls, Bool.and_eq_true] at h
    rw [e]; exact .cons (Rep.dp h.1 q) (each_dp h.2 w)
/-- values in another order stand for the data in that order -/
theorem each_vals {R : V → D → Prop} : ∀ {vs : List V} {us : List Value} {ds : List D}, Vals vs us → EachIs R vs ds → EachIs (fun u d => ∃ v, RelV v u ∧ R v d) us ds
  | _, _, _, .nil, .nil => .nil
  | _, _, _, .cons a b, .cons c d => .cons ⟨_, a, c⟩ (each_vals b d)
theorem vals_each {R : V → D → Prop} : ∀ {us : List Value} {ds : List D}, EachIs (fun u d => ∃ v, RelV v u ∧ R v d) us ds → ∃ vs, Vals vs us ∧ EachIs R vs ds
  | _, _, .nil => ⟨[], .nil, .nil⟩
  | _, _, .cons ⟨v, a, c⟩ t => by
    obtain ⟨vs, h1, h2⟩ := vals_each t
    exact ⟨v :: vs, .cons a h1, .cons c h2⟩
/-- sorted(xs): its parts stand for data in the data's order -/
def rSortedD (X : Cx) : List V → Hp → VK → Prop := fun xs H Q => ∃ (a : Addr) (vs : List V) (ss : List Sh) (ds : List D) (R : V → D → Prop), xs = [.ref a] ∧ SqL X.K H a vs ∧ EachIs R vs ds ∧
  ((vs.length < 2 ∧ ∀ p, H p = none → Q (.ref p) (upd H p (.lst vs))) ∨
    (srtOk ss ds = true ∧ EachIs (fun v d => Dp X.K H v (toPy d)) vs ds ∧ ∀ out p, EachIs R out (msort leD ds) → H p = none → Q (.ref p) (upd H p (.lst out))))
theorem call_sortedD {X : Cx} (hu : X.A.units + 65 < cLine) : CallR X (.builtin "sorted") (rSortedD X) := by
  intro pins s σ H xs us Q I r h
  obtain ⟨a, vs, ss, ds, R, rfl, hs, er, h⟩ := h
  obtain ⟨its, rv, hl, hz⟩ := I.list hs
  rw [Vals.ref1 r]
  have hz' : its.length ≤ sizeLine := by rw [← rv.length]; exact hz
  rcases h with ⟨h2, q⟩ | ⟨ok, ed, q⟩
  · refine SrtO.sorted_ord SrtO.swo_int hl.isList hz' (fun h2' => absurd h2' (by rw [← rv.length]; omega)) fun out h1 h3 => ?_
    have e : out = its := by
      have hp := h3.perm
      match its, hp with
      | [], hp => exact List.Perm.eq_nil hp
      | [x], hp => exact List.perm_singleton.mp hp
      | x :: y :: r, _ => (rw [rv.length] at h2; simp at h2; omega)
    subst e
    obtain ⟨ep, he'⟩ := PyProof.Rows.sortedAll_at s.heap out out.toArray
    exact ⟨.ref _, upd H (s.heap.objs.size + 1) (.lst vs), I.laid (t' := s.toks) (fun _ _ => PyProof.Rows.sortedAll_old) (Nat.le_succ _) ⟨hz, out, ep, rv, he'⟩, rfl, q _ (I.hok.fresh (Nat.le_succ _))⟩
  · obtain ⟨k1, k2, k3⟩ := srtOk_w ok
    have hr : EachIs (fun u d => ∃ as, Reads s.heap u (toPy d) as) its ds := (each_vals rv ed).mono fun u d ⟨v, e, hd⟩ => Dp.reads I _ _ u hd e
    have hln : ds.length = its.length := hr.length.symm
    refine sorted_data (enc := toPy) (R := fun u d => ∃ v, RelV v u ∧ R v d) hl.isList (each_vals rv er) hr k2 k3 (by rw [hln]; exact hz') (fun d hd => ?_) fun out hlen ho => ?_
    · have h1 : ∀ {l : List D}, pls 60 l = true → ∀ d ∈ l, (toPy d).depth ≤ 60 := by
        intro l
        induction l with
        | nil => intro _ d hd; cases hd
        | cons x r ih =>
          intro h d hd
          rw [pls, Bool.and_eq_true] at h
          rcases List.mem_cons.mp hd with e | hd
          · rw [e]; exact (pl_lay h.1).2
          · exact ih h.2 d hd
      have := h1 k1 d hd
      omega
    · obtain ⟨zs, v1, v2⟩ := vals_each ho
      have em : ds.mergeSort (dataLe false toPy) = msort leD ds := by
        rw [msort_eq leD_total]
        congr 1
        funext x y
        exact (leD_eq x y).symm
      rw [em] at v2
      obtain ⟨ep, he'⟩ := PyProof.Rows.sortedAll_at s.heap its out.toArray
      have hzl : zs.length ≤ sizeLine := by rw [v1.length, hlen, hln]; exact hz'
      exact ⟨.ref _, upd H (s.heap.objs.size + 1) (.lst zs), I.laid (t' := s.toks) (fun _ _ => PyProof.Rows.sortedAll_old) (Nat.le_succ _) ⟨hzl, out, ep, v1, he'⟩, rfl, q _ _ v2 (I.hok.fresh (Nat.le_succ _))⟩
theorem sorted_ok {X : Cx} {ss : List Sh} : CallOkF (on1 (dSorted ss)) (rSortedD X) := fun z P O H ds vs Q W r w => by
  obtain ⟨d, v, e, rv, w⟩ := on1_w r w
  subst e
  cases d <;> first | exact (show False from w).elim | skip
  rename_i xs
  obtain ⟨a, us, ev, ha, rr⟩ := rv.lst
  subst ev
  have w2 := WP.bind w
  have new : ∀ {out : List V} {rs : List D} {p : Addr}, H p = none → Reps (sa z) (Vw z P O H) rs out → Top z (Vw z P (Ow O p) (upd H p (.lst out))) (fun u => upd H p (.lst out) p = some u) (.lst rs) := fun hp rr => ⟨_, upd_same, rr.mono (Vw.old hp (same_new hp))⟩
  have small : us.length < 2 → WP (T.ok (DL.D.lst xs)) (fun d => ∀ p H', H p = none → SameS z H H' → Src z H' → Top z (Vw z P (Ow O p) H') (fun u => H' p = some u) d → Q (.ref p) H') → rSortedD X [.ref a] H Q := fun h2 k =>
    ⟨a, us, [], xs, _, rfl, SqL.of ha, each_of rr, .inl ⟨h2, fun p hp => WP.ok k p _ hp (same_new hp) (src_new W.src hp) (new hp rr)⟩⟩
  match xs, rr, w2, small with
  | [], rr, w2, small => exact small (by rw [rr.length]; exact Nat.zero_lt_two) w2
  | [x], rr, w2, small => exact small (by rw [rr.length]; exact Nat.one_lt_two) w2
  | x :: y :: r, rr, w2, _ =>
    obtain ⟨c, k⟩ := tIf_w w2
    refine ⟨a, us, ss, x :: y :: r, _, rfl, SqL.of ha, each_of rr, .inr ⟨c, each_dp (srtOk_w c).1 rr, fun out p ho hp => ?_⟩⟩
    exact WP.ok (WP.ok k) p _ hp (same_new hp) (src_new W.src hp) (new hp (of_each ho))
end
end
end DL

set_option Elab.async false
set_option linter.all false
set_option maxRecDepth 100000
namespace DL
noncomputable section
open PySem PySem.Spec PyProof.Rows L2

/-! ### dict(pairs), keys ints and texts -/
def pairK : D → Option (Kd × D)
  | .tup [k, v] => (key1 k).map fun q => (.k q, v)
  | _ => none
def pairKs : List D → Option (List (Kd × D))
  | [] => some []
  | d :: r => match pairK d, pairKs r with
    | some p, some ps => some (p :: ps)
    | _, _ => none
def dDictP : D → T D
  | .lst ds => match pairKs ds with
    | some kvs => .ok (.dct false (mergeD [] kvs))
    | none => .no
  | _ => .no
section
variable {z : Zr} {P O : Addr → Prop} {H : Hp} {K : PySem.W.Frag}
theorem pairs_v : ∀ {ds : List D} {kvs : List (Kd × D)} {vs : List V}, pairKs ds = some kvs → Reps (sa z) (Vw z P O H) ds vs →
    ∃ (ps : List Addr) (l : List (Key × V)), vs = ps.map V.ref ∧ Paired (fun p kv => SqT K H p [kV kv.1, kv.2]) ps l ∧ RepK (sa z) (Vw z P O H) kvs l
  | [], _, _, h, r => by cases h; exact ⟨[], [], r, .nil, rfl⟩
  | d :: ds, kvs, vs, h, ⟨v, r, e, q, w⟩ => by
    unfold pairKs at h
    cases h1 : pairK d with
    | none => rw [h1] at h; cases h
    | some p =>
      rw [h1] at h
      cases h2 : pairKs ds with
      | none => rw [h2] at h; cases h
      | some ps' =>
        rw [h2] at h
        cases h
        obtain ⟨ps, l, e2, pr, rk⟩ := pairs_v h2 w
        cases d <;> first | (cases h1; done) | skip
        rename_i es
        match es, h1, q with
        | [k, x], h1, q =>
          have h1' : (key1 k).map (fun q => (Kd.k q, x)) = some p := h1
          cases hk : key1 k with
          | none => rw [hk] at h1'; cases h1'
          | some j =>
            rw [hk] at h1'
            cases h1'
            obtain ⟨a, us, ea, vw, ru⟩ := q
            obtain ⟨v1, r1, e1, q1, v2, r2, e3, q2, e4⟩ := ru
            have e4' : r2 = [] := e4
            subst e4'
            subst e3
            subst e1
            have hv1 := key1_v hk q1
            subst hv1
            exact ⟨a :: ps, (j, v2) :: l, by rw [e, ea, e2]; rfl, .cons (SqT.of vw.2.2.2.tup) pr, j, v2, l, rfl, rfl, q2, rk⟩
end
theorem dictP_ok {X : Cx} : CallOkF (on1 dDictP) (fun xs H Q => ∃ (a : Addr) (ps : List Addr) (kvs : List (Key × V)), xs = [.ref a] ∧ SqL X.K H a (ps.map V.ref) ∧ Paired (fun p kv => SqT X.K H p [kV kv.1, kv.2]) ps kvs ∧
    ∀ p, H p = none → Q (.ref p) (upd H p (.dK (mergeK [] kvs)))) := fun z P O H ds vs Q W r w => by
  obtain ⟨d, v, e, rv, w⟩ := on1_w r w
  subst e
  cases d <;> first | exact (show False from w).elim | skip
  rename_i xs
  obtain ⟨a, us, ev, ha, rr⟩ := rv.lst
  have w : WP (match pairKs xs with | some kvs => T.ok (DL.D.dct false (mergeD [] kvs)) | none => .no) _ := w
  cases h : pairKs xs with
  | none => rw [h] at w; exact w.elim
  | some kvs =>
    rw [h] at w
    obtain ⟨ps, l, e2, pr, rk⟩ := pairs_v (K := X.K) h rr
    refine ⟨a, ps, l, by rw [ev], SqL.of (by rw [← e2]; exact ha), pr, fun p hp => ?_⟩
    exact WP.ok w p _ hp (same_new hp) (src_new W.src hp) ⟨_, upd_same, (RepK.merge (kvs := []) (l := []) rfl rk).mono (Vw.old hp (same_new hp))⟩

/-! ### {k: v, ..} -/
def fPrs : List ((Ev → T D) × (Ev → T D)) → Ev → T (List (D × D))
  | [], _ => .ok []
  | (f, g) :: r, ρ => (f ρ).bind fun a => (g ρ).bind fun b => (fPrs r ρ).bind fun l => .ok ((a, b) :: l)
def keyed : List (D × D) → Option (List (Kd × D))
  | [] => some []
  | (k, v) :: r => match key1 k, keyed r with
    | some q, some l => some ((.k q, v) :: l)
    | _, _ => none
def fDisp (ps : List ((Ev → T D) × (Ev → T D))) : Ev → T D := fun ρ => (fPrs ps ρ).bind fun l => match keyed l with
  | some kvs => tIf (Nat.ble kvs.length 15) (.ok (.dct false (mergeD [] kvs)))
  | none => .no
def RepPs (s : Option Addr) (R : Addr → HO → Prop) : List (D × D) → List (V × V) → Prop
  | [], vs => vs = []
  | (a, b) :: r, vs => ∃ x y t, vs = (x, y) :: t ∧ Rep s R a x ∧ Rep s R b y ∧ RepPs s R r t
theorem tPairs_D : ∀ {ps : List ((Ev → T D) × (Ev → T D))} {z : Zr} {P O : Addr → Prop} {ρ : Ev} {σ : L2.St} {H : Hp} {Q : List (V × V) → Hp → Prop}, Rel z P O ρ σ H →
    WP (fPrs ps ρ) (fun l => ∀ vs H', SameS z H H' → Src z H' → RepPs (sa z) (Vw z P O H') l vs → Q vs H') → tPairs (ps.map fun p => (tD p.1, tD p.2)) σ H Q
  | [], z, P, O, ρ, σ, H, Q, R, w => WP.ok w [] H SameS.refl R.src rfl
  | (f, g) :: r, z, P, O, ρ, σ, H, Q, R, w => by
    refine ⟨z, P, O, ρ, R, (WP.bind w).mono fun a w2 x H1 g1 s1 r1 => ⟨z, P, O, ρ, R.grow g1 s1, (WP.bind w2).mono fun b w3 y H2 g2 s2 r2 => ?_⟩⟩
    refine tPairs_D (ps := r) ((R.grow g1 s1).grow g2 s2) ((WP.bind w3).mono fun l w4 vs H3 g3 s3 r3 => ?_)
    exact WP.ok w4 _ H3 ((g1.trans g2).trans g3) s3 ⟨x, y, vs, rfl, r1.mono (Vw.grow (g2.trans g3)), r2.mono (Vw.grow g3), r3⟩
theorem keyed_v {s : Option Addr} {R : Addr → HO → Prop} : ∀ {l : List (D × D)} {kvs : List (Kd × D)} {vs : List (V × V)}, keyed l = some kvs → RepPs s R l vs → ∃ m : List (Key × V), vs = m.map (fun kv => (kV kv.1, kv.2)) ∧ RepK s R kvs m
  | [], _, _, h, r => by cases h; exact ⟨[], r, rfl⟩
  | (a, b) :: l, _, _, h, ⟨x, y, t, e, ra, rb, rt⟩ => by
    unfold keyed at h
    cases h1 : key1 a with
    | none => rw [h1] at h; cases h
    | some q =>
      rw [h1] at h
      cases h2 : keyed l with
      | none => rw [h2] at h; cases h
      | some kvs =>
        rw [h2] at h
        cases h
        obtain ⟨m, e2, rm⟩ := keyed_v h2 rt
        exact ⟨(q, y) :: m, by rw [e, e2, key1_v h1 ra]; rfl, q, y, m, rfl, rfl, rb, rm⟩
section
variable {X : Cx} {pos : Pos} {keys : List (Option Expr)} {values : List Expr} {ps : List ((Ev → T D) × (Ev → T D))}
theorem ddisp (h : PPs X pos keys values (ps.map fun p => (tD p.1, tD p.2))) (hall : keys.all (·.isSome) = true := by rfl) (hl : keys.length = values.length := by rfl) (h0 : keys ≠ [] := by exact fun q => nomatch q) (h15 : keys.length ≤ 15 := by decide) :
    PE X (.Dict keys values pos) (tF (fDisp ps)) := PE.imp (pe_disp h hall hl h0 h15) fun σ H Q ⟨z, P, O, ρ, R, w⟩ p hp => by
  have g0 : SameS z H (upd H p (.dK [])) := same_new hp
  have R1 := R.protect hp g0 (src_new R.src hp) ⟨_, upd_same, fun _ q => nomatch q⟩
  have hn := not_src R.src hp
  refine tPairs_D R1 ((WP.bind w).mono fun l w2 vs H2 g2 s2 r2 => ?_)
  have hp2 : H2 p = some (.dK []) := g2 p _ hn upd_same
  cases hk : keyed l with
  | none => rw [hk] at w2; exact w2.elim
  | some kvs =>
    rw [hk] at w2
    obtain ⟨c, k⟩ := tIf_w w2
    obtain ⟨m, e, rm⟩ := keyed_v hk r2
    refine ⟨hp2, m, e, by rw [rm.len]; exact Nat.le_of_ble_eq_true c, ?_⟩
    refine WP.ok k p _ hp ?_ ?_ ⟨_, upd_same, (RepK.merge (kvs := []) (l := []) rfl rm).mono ?_⟩
    · intro b o nb hb
      have ne : b ≠ p := fun q => by subst q; rw [hp] at hb; cases hb
      rw [upd_ne ne]
      exact g2 b o nb (g0 b o nb hb)
    · exact src_keep s2 fun b hb => upd_ne fun q => hn (q ▸ hb)
    · intro a u hv
      obtain ⟨q1, q2, q3, q4⟩ := hv
      have ne : a ≠ p := fun q => q2 (.inr q)
      refine ⟨fun q => q.elim q1 ne, fun q => q2 (.inl q), q3, ?_⟩
      rcases q4 with q4 | ⟨k', ob, q4⟩
      · exact .inl (by rw [upd_ne ne]; exact q4)
      · exact .inr ⟨k', ob, by rw [upd_ne ne]; exact q4⟩
end

/-! ### d.update(e) -/
theorem type_dict_update : typeOf (.builtin "dict.update") = pure (.type "method_descriptor") := by rfl
def rUpd (X : Cx) : V → List V → Hp → VK → Prop := fun x xs H Q => ∃ a b kvs more, x = .ref a ∧ xs = [.ref b] ∧ a ≠ b ∧ H a = some (.dK kvs) ∧ Rx H b (.dK more) ∧ kvs.length + more.length ≤ sizeLine ∧ Q .non (upd H a (.dK (mergeK kvs more)))
theorem mt_update {X : Cx} : MtR X "dict.update" (rUpd X) := by
  intro pins s σ H x xs v us Q I rx rxs h
  obtain ⟨a, b, kvs, more, rfl, rfl, ne, ha, hb, hl, q⟩ := h
  cases rx
  rw [Vals.ref1 rxs]
  obtain ⟨z1, d1, vs1, r1, dd1⟩ := dk_of I.hok ha
  obtain ⟨z2, d2, vs2, r2, dd2⟩ := dk_rd I.hok hb.rd
  refine call_meetsIn PySem.F.slot_dict_update dd1.typeIs PySem.F.entry_dict_update (PySem.F.args_dict_update_2 _ _) (meets_dict_update (mixKind X.prog X.w) a b ne d2) ⟨vs1, vs2, dd1, dd2, ?_, fun h' e1 e2 hs => ?_⟩
  · rw [← r1.length, ← r2.length]; exact hl
  · have hz : (mergeK kvs more).length ≤ sizeLine := Nat.le_trans (length_mergeK more kvs) hl
    have he : ∃ q, h'.get? a = some q := let ⟨q, _, _, hq, _⟩ := e1; ⟨q, hq⟩
    exact ⟨.non, _, d_write I (by rw [ha]; exact True.intro) hs he (dk_new hz d1 (r2.merge r1) e1), rfl, q⟩
def mUpdate : D → D → T D
  | .dct false l, .dct false m => tIf (lenOk (l.length + m.length)) (.ok (.dct false (mergeD l m)))
  | _, _ => .no
section
variable {X : Cx} {e : Expr} {f : Ev → T D} {x : Str} {pos pos' apos cpos : Pos}
theorem supdate (i : Nat) (he : PE X e (tD f)) (hN : X.N[i]? = some x := by rfl) (hv : Vis X.env.scope x := by first | exact Or.inl rfl | exact Or.inr (Or.inl rfl) | exact Or.inr (Or.inr rfl)) (hd : (x == ("__debug__" : Str)) = false := by decide)
    (hcd : (x == ("__classdict__" : Str)) = false := by decide) (hbase : attributeBase (.Name x pos') "update" X.env (eval (.Name x pos') X.env) = eval (.Name x pos') X.env := by rfl)
    (hfew : ((backTo cpos (starEach [e] X.env)).all (fun x => !x.1) && (backToKw cpos (keywordEach [] X.env)).all (fun x => x.1.isSome)
      && decide (([e] : List Expr).length + ([] : List Keyword).length + (if ([] : List Keyword).isEmpty then 0 else 1) < 30)) = true := by rfl)
    (hline : (apos.endLine == cpos.line) = true := by rfl) (hs : starEach [e] X.env = (false, eval e X.env) :: starEach [] X.env := by rfl) (hplain : (backTo cpos (starEach [] X.env)).any (·.1) = false := by rfl)
    (hsw : swapsWith (.Call (.Attribute (.Name x pos') "update" apos) [e] [] cpos) none pos.line X.env = pure false := by rfl) :
    PS X (.Expr (.Call (.Attribute (.Name x pos') "update" apos) [e] [] cpos) pos) (tS (fMut i mUpdate f)) :=
  PS.imp (ps_expr (pe_bm PySem.F.plainAttrs_dict PySem.F.slot_dict_update type_dict_update mt_update (pe_var hN hv hd hcd) (pa_cons he pa_nil hs) hbase hfew hline hs hplain) hsw) fun D σ H ⟨z, P, O, ρ, R, w⟩ => by
    obtain ⟨d, e1, w⟩ := fMut_w w
    obtain ⟨p, hi, hy, op, t⟩ := own_at R e1
    cases d <;> first | exact (show False from t).elim | skip
    · rename_i ds
      have : ∀ {m : T DL.D} {Q : DL.D → Prop}, WP m (fun a => WP (mUpdate (.lst ds) a) Q) → False := by
        intro m Q
        induction m with
        | ok a => exact fun h => h
        | no => exact fun h => h
        | pk n k ih => exact fun h => ih 0 (h 0 (Int.le_refl 0) (.inr rfl))
      exact (this w).elim
    · rename_i tk kvs
      cases tk
      · obtain ⟨l, hp, rr⟩ := t
        refine ⟨.ref p, hy, .inr (.inr (.inl ⟨rfl, .inl ⟨l, hp⟩⟩)), z, P, O, ρ, R, w.mono fun a w2 v H1 g1 s1 r1 => ?_⟩
        cases a <;> first | exact (show False from w2).elim | skip
        rename_i tk' mvs
        cases tk'
        · obtain ⟨c, k⟩ := tIf_w w2
          have R1 := R.grow g1 s1
          have hp1 := g1 p _ (R.own p op).2.1 hp
          have rr1 := rr.mono (Vw.grow g1)
          obtain ⟨b, m, ev, vw, rm⟩ := r1
          subst ev
          refine ⟨p, b, l, m, rfl, rfl, fun q => vw.1 (q ▸ op), hp1, vw.2.2.2, ?_, ?_⟩
          · rw [rr.len, rm.len]; exact lenOk_le c
          · exact WP.ok k _ _ O ((SameV.of g1).trans (SameV.change op)) (R1.change hi hy op ⟨_, rfl, RepK.merge rr1 rm⟩)
        · exact (show False from w2).elim
      · have : ∀ {m : T DL.D} {Q : DL.D → Prop}, WP m (fun a => WP (mUpdate (.dct true kvs) a) Q) → False := by
          intro m Q
          induction m with
          | ok a => exact fun h => h
          | no => exact fun h => h
          | pk n k ih => exact fun h => ih 0 (h 0 (Int.le_refl 0) (.inr rfl))
        exact (this w).elim
end

/-! ### tuple(range(..)), list(range(..)) -/
def rgList : List D → T (List D)
  | [.int j] => tIf (i62 j && Nat.ble j.toNat 16777216) (.ok (rgD 0 j.toNat))
  | [.int i, .int j] => tIf (i62 i && i62 j && Nat.ble (j - i).toNat 16777216) (.ok (rgD i (j - i).toNat))
  | _ => .no
def fRgT (g : Ev → T (List D)) : Ev → T D := fun ρ => (g ρ).bind fun ds => (rgList ds).bind fun l => .ok (.tup l)
def fRgL (g : Ev → T (List D)) : Ev → T D := fun ρ => (g ρ).bind fun ds => (rgList ds).bind fun l => .ok (.lst l)
theorem rgD_reps {s : Option Addr} {R : Addr → HO → Prop} : ∀ (n : Nat) (lo : Int), Reps s R (rgD lo n) ((List.range n).map fun i => V.int (lo + (i : Nat)))
  | 0, _ => rfl
  | n + 1, lo => by
    rw [List.range_succ_eq_map, List.map_cons, List.map_map]
    refine ⟨_, _, rfl, ?_, ?_⟩
    · show V.int (lo + ((0 : Nat) : Int)) = V.int lo
      rw [Int.natCast_zero, Int.add_zero]
    · have e : ((fun i : Nat => V.int (lo + (i : Nat))) ∘ Nat.succ) = fun i : Nat => V.int (lo + 1 + (i : Nat)) := by
        funext i
        show V.int (lo + ((i + 1 : Nat) : Int)) = _
        congr 1
        rw [Int.natCast_add]
        omega
      rw [e]
      exact rgD_reps n (lo + 1)
/-- a range made by range(..) from data -/
def tRgD (g : Ev → T (List D)) : L2.St → Hp → (Int → Int → Hp → Prop) → Prop := fun σ H Q => ∃ z P O ρ, Rel z P O ρ σ H ∧ WP (g ρ) fun ds => WP (rgList ds) fun l => ∀ a b H', SameS z H H' → Src z H' → RgOk a b → l = rgD a (b - a).toNat → Q a b H'
section
variable {X : Cx} {a b e : Expr} {f g : Ev → T D} {h : Ev → T (List D)} {p pos : Pos}
def PRgD (X : Cx) (e : Expr) (g : Ev → T (List D)) : Prop := PRg X e (tRgD g)
theorem rg1 (hg : Gl X "range") (hm : X.mg "range" = none) (ha : PE X a (tD f)) (na : starEach [a] X.env = (false, eval a X.env) :: starEach [] X.env := by rfl) : PRgD X (.Call (.Name "range" p) [a] [] pos) (fCons f fNil) := by
  intro pins s σ H Q I ⟨z, P, O, ρ, R, w⟩
  refine prg_1 hg hm ha na pins s σ H Q I ⟨z, P, O, ρ, R, (WP.bind w).mono fun d w2 v H1 g1 s1 r1 => ?_⟩
  have w3 := WP.ok (WP.bind w2)
  have w4 := WP.ok w3
  cases d <;> first | exact (show False from w4).elim | skip
  rename_i j
  obtain ⟨c, k⟩ := tIf_w w4
  rw [Bool.and_eq_true] at c
  have c1 := i62_w c.1
  have c2 := Nat.le_of_ble_eq_true c.2
  refine ⟨j, r1, WP.ok k 0 j H1 g1 s1 ⟨by decide, by decide, c1.1, c1.2, ?_⟩ ?_⟩
  · rw [Int.sub_zero]; exact c2
  · rw [Int.sub_zero]
theorem rg2 (hg : Gl X "range") (hm : X.mg "range" = none) (ha : PE X a (tD f)) (hb : PE X b (tD g)) (na : starEach [a, b] X.env = (false, eval a X.env) :: starEach [b] X.env := by rfl)
    (nb : starEach [b] X.env = (false, eval b X.env) :: starEach [] X.env := by rfl) (hp : (backTo pos (starEach [b] X.env)).any (·.1) = false := by rfl) : PRgD X (.Call (.Name "range" p) [a, b] [] pos) (fCons f (fCons g fNil)) := by
  intro pins s σ H Q I ⟨z, P, O, ρ, R, w⟩
  refine prg_2 hg hm ha hb na nb hp pins s σ H Q I ⟨z, P, O, ρ, R, (WP.bind w).mono fun d w2 v H1 g1 s1 r1 => ⟨z, P, O, ρ, R.grow g1 s1, (WP.bind (WP.bind w2)).mono fun d2 w3 v2 H2 g2 s2 r2 => ?_⟩⟩
  have w4 := WP.ok (WP.ok (WP.ok (WP.bind w3)))
  cases d <;> first | exact (show False from w4).elim | skip
  rename_i i
  cases d2 <;> first | exact (show False from w4).elim | skip
  rename_i j
  obtain ⟨c, k⟩ := tIf_w w4
  rw [Bool.and_eq_true, Bool.and_eq_true] at c
  have c1 := i62_w c.1.1
  have c2 := i62_w c.1.2
  exact ⟨i, j, r1, r2, WP.ok k i j H2 (g1.trans g2) s2 ⟨c1.1, c1.2, c2.1, c2.2, Nat.le_of_ble_eq_true c.2⟩ rfl⟩
theorem dtupRg (hc : X.calm = true) (hg : Gl X "tuple") (hm : X.mg "tuple" = none) (he : PRgD X e h) (na : starEach [e] X.env = (false, eval e X.env) :: starEach [] X.env := by rfl) : PE X (.Call (.Name "tuple" p) [e] [] pos) (tD (fRgT h)) :=
  PE.imp (pe_tupRg hc hg hm he na) fun σ H Q ⟨z, P, O, ρ, R, w⟩ => ⟨z, P, O, ρ, R, (WP.bind w).mono fun ds w2 => (WP.bind w2).mono fun l w3 a b H1 g1 s1 ok el => ⟨ok, fun q hq => by
    have W := (R.grow g1 s1).ws
    refine WP.ok w3 _ _ (g1.trans (same_new hq)) (src_new s1 hq) ?_
    rw [el]
    exact W.tup hq (rgD_reps _ _)⟩⟩
theorem dlstRg (hc : X.calm = true) (hg : Gl X "list") (hm : X.mg "list" = none) (he : PRgD X e h) (na : starEach [e] X.env = (false, eval e X.env) :: starEach [] X.env := by rfl) : PE X (.Call (.Name "list" p) [e] [] pos) (tF (fRgL h)) :=
  PE.imp (pe_listRg hc hg hm he na) fun σ H Q ⟨z, P, O, ρ, R, w⟩ => ⟨z, P, O, ρ, R, (WP.bind w).mono fun ds w2 => (WP.bind w2).mono fun l w3 a b H1 g1 s1 ok el => ⟨ok, fun q hq => by
    refine WP.ok w3 q _ (none_of g1 s1 hq) (g1.trans (same_new hq)) (src_new s1 hq) ?_
    rw [el]
    exact ⟨_, upd_same, rgD_reps _ _⟩⟩⟩
end
end
end DL

set_option Elab.async false
set_option linter.all false
set_option maxRecDepth 100000
namespace DL
noncomputable section
open PySem PySem.Spec PyProof.Rows L2

/-! ### the source: a dict of cells and three numbers -/
abbrev srcO (c : Addr) (l m t : Int) : HO := .dK [(.inr "cells", .ref c), (.inr "left", .int l), (.inr "mixed", .int m), (.inr "turn", .int t)]
structure S4 (a c : Addr) (H : Hp) (cells : List Int) (l m t : Int) : Prop where
  ne : a ≠ c
  d : H a = some (srcO c l m t)
  cs : H c = some (.lst (cells.map V.int))
  nn : ∀ x ∈ cells, 0 ≤ x
theorem Src.of4 {a c : Addr} {H : Hp} {cells : List Int} {l m t : Int} (s : S4 a c H cells l m t) : Src (some (a, c)) H := ⟨s.ne, cells, l, m, t, s.d, s.cs, s.nn⟩
def Apart (a c : Addr) (H H' : Hp) : Prop := ∀ b, b ≠ a → b ≠ c → H' b = H b
theorem Apart.refl {a c : Addr} {H : Hp} : Apart a c H H := fun _ _ _ => rfl
theorem Apart.a {a c : Addr} {H H' : Hp} {o : HO} (h : Apart a c H H') : Apart a c H (upd H' a o) := fun b h1 h2 => (upd_ne h1).trans (h b h1 h2)
theorem Apart.c {a c : Addr} {H H' : Hp} {o : HO} (h : Apart a c H H') : Apart a c H (upd H' c o) := fun b h1 h2 => (upd_ne h2).trans (h b h1 h2)
theorem Apart.same {a c : Addr} {H H' : Hp} (h : Apart a c H H') : SameS (some (a, c)) H H' := fun b o n e => by
  rw [h b (fun q => n (.inl q)) fun q => n (.inr q)]; exact e
section
variable {a c : Addr} {H : Hp} {cells : List Int} {l m t l' m' t' : Int}
theorem S4.put (s : S4 a c H cells l m t) (l' m' t' : Int) : S4 a c (upd H a (srcO c l' m' t')) cells l' m' t' := ⟨s.ne, upd_same, (upd_ne (Ne.symm s.ne)).trans s.cs, s.nn⟩
theorem S4.pop (s : S4 a c H cells l m t) : S4 a c (upd H c (.lst (cells.map V.int).dropLast)) cells.dropLast l m t :=
  ⟨s.ne, (upd_ne s.ne).trans s.d, by rw [upd_same, List.map_dropLast], fun x hx => s.nn x (List.dropLast_subset _ hx)⟩
theorem S4.gc (s : S4 a c H cells l m t) : DGet H a (.str "cells") (some (.ref c)) := .inl ⟨_, .inr "cells", .inl s.d, rfl, rfl⟩
theorem S4.gl (s : S4 a c H cells l m t) : DGet H a (.str "left") (some (.int l)) := .inl ⟨_, .inr "left", .inl s.d, rfl, rfl⟩
theorem S4.gm (s : S4 a c H cells l m t) : DGet H a (.str "mixed") (some (.int m)) := .inl ⟨_, .inr "mixed", .inl s.d, rfl, rfl⟩
theorem S4.gt (s : S4 a c H cells l m t) : DGet H a (.str "turn") (some (.int t)) := .inl ⟨_, .inr "turn", .inl s.d, rfl, rfl⟩
theorem S4.pl (s : S4 a c H cells l m t) (x : Int) : DPut H a (.str "left") (.int x) (upd H a (srcO c x m t)) := .inl ⟨_, .inr "left", s.d, rfl, by rw [sizeLine_eq]; show 4 < _; omega, rfl⟩
theorem S4.pm (s : S4 a c H cells l m t) (x : Int) : DPut H a (.str "mixed") (.int x) (upd H a (srcO c l x t)) := .inl ⟨_, .inr "mixed", s.d, rfl, by rw [sizeLine_eq]; show 4 < _; omega, rfl⟩
theorem S4.pt (s : S4 a c H cells l m t) (x : Int) : DPut H a (.str "turn") (.int x) (upd H a (srcO c l m x)) := .inl ⟨_, .inr "turn", s.d, rfl, by rw [sizeLine_eq]; show 4 < _; omega, rfl⟩
end

/-- a draw below n -/
def pickF : List D → T D
  | [.src, .int n] => tIf (ilt n 18446744073709551616) (match ilt n 2 with
    | true => .ok (.int 0)
    | false => .pk n fun r => .ok (.int r))
  | _ => .no
abbrev rInt1 : List V → Hp → VK → Prop := fun xs H Q => (∃ i, xs = [.int i] ∧ Q (.int i) H) ∨ ∃ k, xs = [.bl k] ∧ Q (.int (if k then 1 else 0)) H
abbrev rLenS (K : PySem.W.Frag) : List V → Hp → VK → Prop := fun xs H Q => ∃ p ys, xs = [.ref p] ∧ (SqL K H p ys ∨ SqT K H p ys) ∧ Q (.int ys.length) H
abbrev rMulC : R2 := rI CMul fun i j => .int (i * j)
abbrev rAddI : R2 := rI0 fun i j => .int (i + j)
abbrev rModI : R2 := rI (fun _ j => 0 < j) fun i j => .int (i % j)
abbrev rDivI : R2 := rI CDivW fun i j => .int (i / j)
abbrev oI (f : TE) : TE := tCB rInt1 (tCons f tNil)
abbrev gS (k : Str) : TE := tDGet (tVar 0) (tC (.str k))
abbrev pS (k : Str) : TG := gSub (tVar 0) (tC (.str k)) rSetD

/-! the first text of the pick: source, most, cells, others, lap, stirred -/
abbrev tLp (K : PySem.W.Frag) : TS := tWhile (tAnd (L2.tB (tLt (gS "left") (tC (.int 2)))) (L2.tB (tGt (tCB (rLenS K) (tCons (tVar 2) tNil)) (tC (.int 0))))) (tAsg (tBM0 K "list" rPop (tVar 2)) (pS "left"))
abbrev tP1 (K : PySem.W.Frag) : TS :=
  tSeq (tIfS (L2.tB (tLt (tVar 1) (tC (.int 2)))) (tRet (tC (.int 0))) tNext) <|
  tSeq (tAsg (gS "cells") (gName 2)) <|
  tSeq (tLp K) <|
  tSeq (tAsg (gS "left") (gName 3)) <|
  tSeq (tIfS (L2.tB (tGt (tVar 3) (tC (.int 1)))) (tSeq (tAsg (tOp rDivI (tVar 3) (tVar 1)) (pS "left")) (tRet (tOp rModI (oI (tVar 3)) (tVar 1)))) tNext) <|
  tSeq (tAsg (tOp rAddI (gS "turn") (tC (.int 1))) (pS "turn")) <|
  tSeq (tAsg (gS "turn") (gName 4)) <|
  tSeq (tAsg (tOp rModI (oI (tOp rAddI (gS "mixed") (tOp rMulC (tVar 4) (tC (.int 104729))))) (tC (.int 998244353))) (gName 5)) <|
  tSeq (tAsg (tOp rModI (oI (tOp rAddI (tOp rMulC (tVar 5) (tVar 5)) (tOp rMulC (tVar 4) (tC (.int 17))))) (tC (.int 2147483647))) (gName 5)) <|
  tRet (tOp rModI (oI (tOp rDivI (tVar 5) (tC (.int 16)))) (tVar 1))
/-- the arguments of a pick -/
theorem pick_in {vs : List V} {H : Hp} {Q : VK} {E : XK} (h : spF 2 pickF vs H Q E) : ∃ a c n cells l m t, vs = [.ref a, .int n] ∧ S4 a c H cells l m t ∧ n < 2 ^ 64 ∧
    ((n < 2 ∧ ∀ H' cells' l' m' t', Apart a c H H' → S4 a c H' cells' l' m' t' → Q (.int 0) H') ∨ (2 ≤ n ∧ ∀ (r : Int) H' cells' l' m' t', 0 ≤ r → r < n → Apart a c H H' → S4 a c H' cells' l' m' t' → Q (.int r) H')) := by
  obtain ⟨hl, z, P, ds, W, rr, w⟩ := h
  have hd : ∃ n, ds = [.src, .int n] := by
    unfold pickF at w
    split at w
    · exact ⟨_, rfl⟩
    · exact w.elim
  obtain ⟨n, rfl⟩ := hd
  obtain ⟨c1, w⟩ := tIf_w (m := match ilt n 2 with | true => T.ok (DL.D.int 0) | false => T.pk n fun r => T.ok (DL.D.int r)) w
  obtain ⟨v, r, e, ⟨a, ea, ev⟩, u, r2, e2, ru, e3⟩ := rr
  have e3' : r2 = [] := e3
  have eu : u = V.int n := ru
  subst e3'
  subst eu
  subst e2
  subst ev
  subst e
  cases z with
  | none => cases ea
  | some ac =>
    obtain ⟨a', c⟩ := ac
    have ea' : a' = a := Option.some.inj ea
    subst ea'
    obtain ⟨ne, cells, l, m, t, h1, h2, h3⟩ := W.src
    refine ⟨a', c, n, cells, l, m, t, rfl, ⟨ne, h1, h2, h3⟩, ilt_iff.mp c1, ?_⟩
    cases hb : ilt n 2
    · have hn : 2 ≤ n := by
        have : ¬ n < 2 := fun q => by rw [ilt_iff.mpr q] at hb; cases hb
        omega
      rw [hb] at w
      exact .inr ⟨hn, fun r H' _ _ _ _ h0 h1 ap s4 => WP.ok (w r h0 (.inl h1)) _ H' ap.same (Src.of4 s4) rfl⟩
    · rw [hb] at w
      exact .inl ⟨ilt_iff.mp hb, fun H' _ _ _ _ ap s4 => WP.ok w _ H' ap.same (Src.of4 s4) rfl⟩
theorem mod_in {i n : Int} (h : 2 ≤ n) : 0 ≤ i % n ∧ i % n < n := ⟨Int.emod_nonneg _ (by omega), Int.emod_lt_of_pos _ (by omega)⟩
theorem log_small {n : Int} (h0 : 0 ≤ n) (h : n < 2 ^ 64) : n.natAbs.log2 < 9000 := by
  by_cases z : n.natAbs = 0
  · rw [z]; decide
  · have : n.natAbs < 2 ^ 64 := by omega
    have := (Nat.log2_lt z).mpr this
    omega
/-- the cells are popped until something is left -/
theorem lp_run {K : PySem.W.Frag} {a c : Addr} {D : Ends} {σ : L2.St} {H : Hp} {cells : List Int} {l m t : Int} (s : S4 a c H cells l m t) (h0 : σ[0]? = some (some (.ref a))) (h2 : σ[2]? = some (some (.ref c)))
    (k : ∀ H' cells' l', Apart a c H H' → S4 a c H' cells' l' m t → D.nx σ H') : tLp K D σ H := by
  refine ⟨fun n σ' H' => σ' = σ ∧ ∃ cells' l', cells'.length = n ∧ Apart a c H H' ∧ S4 a c H' cells' l' m t, ⟨cells.length, rfl, cells, l, rfl, Apart.refl, s⟩, fun n σ' H' ⟨e, cells', l', hl, ap, s'⟩ => ?_⟩
  subst e
  show tAnd _ _ σ' H' _
  refine ⟨_, h0, a, _, rfl, s'.gl, l', 2, rfl, rfl, _, rfl, ?_⟩
  by_cases hc : l' < 2
  · show if decide (l' < 2) = true then _ else _
    rw [if_pos (decide_eq_true hc)]
    refine ⟨_, h2, c, _, rfl, .inl (SqL.of s'.cs), _, 0, rfl, rfl, _, rfl, ?_⟩
    by_cases hp : 0 < cells'.length
    · have hp' : (((cells'.map V.int).length : Nat) : Int) > 0 := by rw [List.length_map]; omega
      show if decide ((((cells'.map V.int).length : Nat) : Int) > 0) = true then _ else _
      rw [if_pos (decide_eq_true hp')]
      refine ⟨fun σ2 H2 => σ2 = σ' ∧ ∃ cells2 l2, cells2.length + 1 = n ∧ Apart a c H H2 ∧ S4 a c H2 cells2 l2 m t, fun σ2 H2 ⟨e, cells2, l2, q, ap2, s2⟩ => ⟨cells2.length, by omega, e, cells2, l2, rfl, ap2, s2⟩, ?_⟩
      have hlast : (cells'.map V.int)[(cells'.map V.int).length - 1]? = some (V.int (cells'[cells'.length - 1]'(by omega))) := by
        rw [List.length_map, List.getElem?_map, List.getElem?_eq_getElem (by omega)]; rfl
      refine ⟨.ref c, h2, .inl ⟨rfl, _, SqL.of s'.cs⟩, c, _, _, rfl, rfl, s'.cs, hlast, ?_⟩
      have s2 := s'.pop
      refine ⟨.ref a, h0, a, _, rfl, s2.pl _, rfl, cells'.dropLast, _, ?_, (ap.c).a, s2.put _ m t⟩
      rw [List.length_dropLast]; omega
    · have hp' : ¬ (((cells'.map V.int).length : Nat) : Int) > 0 := by rw [List.length_map]; omega
      show if decide ((((cells'.map V.int).length : Nat) : Int) > 0) = true then _ else _
      rw [if_neg (fun q => hp' (of_decide_eq_true q))]
      exact k H' cells' l' ap s'
  · show if decide (l' < 2) = true then _ else _
    rw [if_neg (fun q => hc (of_decide_eq_true q))]
    exact k H' cells' l' ap s'
theorem pick1_run {K : PySem.W.Frag} {vs : List V} {H : Hp} {Q : VK} {E : XK} (h : spF 2 pickF vs H Q E) : tP1 K { nx := fun _ H' => Q .non H', rt := Q } (start ["source", "most", "cells", "others", "lap", "stirred"] vs) H := by
  obtain ⟨a, c, n, cells, l, m, t, rfl, s, hn, hq⟩ := pick_in h
  refine ⟨_, rfl, n, 2, rfl, rfl, _, rfl, ?_⟩
  rcases hq with ⟨hlt, q⟩ | ⟨hge, q⟩
  · show if decide (n < 2) = true then _ else _
    rw [if_pos (decide_eq_true hlt)]
    exact q H cells l m t Apart.refl s
  · show if decide (n < 2) = true then _ else _
    rw [if_neg (fun q => absurd (of_decide_eq_true q) (by omega))]
    refine ⟨_, rfl, a, _, rfl, s.gc, ?_⟩
    refine lp_run s rfl rfl fun H1 cells1 l1 ap1 s1 => ?_
    refine ⟨_, rfl, a, _, rfl, s1.gl, ?_⟩
    refine ⟨_, rfl, l1, 1, rfl, rfl, _, rfl, ?_⟩
    by_cases hl : l1 > 1
    · show if decide (l1 > 1) = true then _ else _
      rw [if_pos (decide_eq_true hl)]
      refine ⟨_, rfl, _, rfl, l1, n, rfl, rfl, ⟨by omega, log_small (by omega) hn⟩, _, rfl, a, _, rfl, s1.pl _, ?_⟩
      refine ⟨_, rfl, .inl ⟨l1, rfl, _, rfl, l1, n, rfl, rfl, (by omega : 0 < n), ?_⟩⟩
      exact q _ _ _ _ _ _ (mod_in hge).1 (mod_in hge).2 ap1.a (s1.put (l1 / n) m t)
    · show if decide (l1 > 1) = true then _ else _
      rw [if_neg (fun q => hl (of_decide_eq_true q))]
      refine ⟨_, rfl, a, _, rfl, s1.gt, t, 1, rfl, rfl, _, rfl, a, _, rfl, s1.pt _, ?_⟩
      have s2 := s1.put l1 m (t + 1)
      refine ⟨_, rfl, a, _, rfl, s2.gt, ?_⟩
      refine ⟨_, rfl, a, _, rfl, s2.gm, _, rfl, t + 1, 104729, rfl, rfl, .inr ⟨by decide, by decide⟩, m, _, rfl, rfl, .inl ⟨_, rfl, _, 998244353, rfl, rfl, (by decide : (0 : Int) < 998244353), ?_⟩⟩
      have b5 : ∀ x : Int, -(2 ^ 64) < x % 998244353 ∧ x % 998244353 < 2 ^ 64 := fun x => by
        have h1 := Int.emod_nonneg x (show (998244353 : Int) ≠ 0 by decide)
        have h2 := Int.emod_lt_of_pos x (show (0 : Int) < 998244353 by decide)
        omega
      refine ⟨_, rfl, _, rfl, _, _, rfl, rfl, .inl (b5 _), _, rfl, t + 1, 17, rfl, rfl, .inr ⟨by decide, by decide⟩, _, _, rfl, rfl, .inl ⟨_, rfl, _, 2147483647, rfl, rfl, (by decide : (0 : Int) < 2147483647), ?_⟩⟩
      refine ⟨_, rfl, _, 16, rfl, rfl, ⟨by decide, by decide⟩, .inl ⟨_, rfl, _, rfl, _, n, rfl, rfl, (by omega : 0 < n), ?_⟩⟩
      exact q _ _ _ _ _ _ (mod_in hge).1 (mod_in hge).2 ap1.a s2
end
end DL

set_option Elab.async false
set_option linter.all false
set_option maxRecDepth 100000
namespace DL
noncomputable section
open PySem PySem.Spec PyProof.Rows L2

def Kept (H H' : Hp) : Prop := ∀ b o, H b = some o → H' b = some o
theorem Kept.refl {H : Hp} : Kept H H := fun _ _ h => h
theorem Kept.new {H H' : Hp} {p : Addr} {o : HO} (k : Kept H H') (h : H' p = none) : Kept H (upd H' p o) := fun b u e => by
  have q := k b u e
  rw [upd_ne (ne_of_none q h)]; exact q
theorem Kept.none {H H' : Hp} (k : Kept H H') {p : Addr} (h : H' p = none) : H p = none := by
  cases e : H p with
  | none => rfl
  | some o => rw [k p o e] at h; cases h
theorem sq_kept {K : PySem.W.Frag} {H H' : Hp} {a : Addr} {xs : List V} (k : Kept H H') (h : SqL K H a xs) : SqL K H' a xs := by
  rcases h with h | h
  · refine .inl ?_
    rcases h with h | ⟨o, h⟩
    · exact .inl (k _ _ h)
    · exact .inr ⟨o, k _ _ h⟩
  · exact .inr h
/-- what the opening of the cells promises -/
def spOpen (K : PySem.W.Frag) : Sp := fun vs H Q _ => ∃ (l : Addr) (ns : List Int), vs = [.ref l] ∧ SqL K H l (ns.map V.int) ∧ ns.length < sizeLine ∧
  ∀ a c H' cells lf m t, S4 a c H' cells lf m t → Kept H H' → H a = none → H c = none → Q (.ref a) H'
abbrev rAbs1 : List V → Hp → VK → Prop := fun xs H Q => ∃ i, xs = [.int i] ∧ Q (.int (if i < 0 then -i else i)) H
abbrev tStir (i j : Nat) : TS := tAsg (tOp rModI (oI (tOp rAddI (tOp rAddI (tOp rMulC (tVar i) (tC (.int 69069))) (tOp rMulC (tVar j) (tC (.int 31)))) (tC (.int 5)))) (tC (.int 2147483629))) (gName i)
abbrev tAbsL (K : PySem.W.Frag) (j : Nat) : TE := tLc (iList K (tVar 0)) (gName j) tYes (tCB rAbs1 (tCons (tVar j) tNil)) [j]
abbrev tO1 (K : PySem.W.Frag) : TS :=
  tSeq (tAsg (tC (.int 11)) (gName 1)) <|
  tSeq (tFor (iList K (tVar 0)) (gName 2) (tStir 1 2)) <|
  tSeq (tAsg (tAbsL K 2) (gName 3)) <|
  tRet (tDisp [(tC (.str "cells"), tRevL K (tVar 3)), (tC (.str "left"), tC (.int 1)), (tC (.str "mixed"), tVar 1), (tC (.str "turn"), tC (.int 0))])
abbrev tO2 (K : PySem.W.Frag) : TS :=
  tSeq (tAsg (tC (.int 11)) (gName 1)) <|
  tSeq (tFor (iList K (tVar 0)) (gName 2) (tStir 1 2)) <|
  tRet (tDisp [(tC (.str "cells"), tRevL K (tAbsL K 2)), (tC (.str "left"), tC (.int 1)), (tC (.str "mixed"), tVar 1), (tC (.str "turn"), tC (.int 0))])
/-- the loop that stirs -/
theorem stir_run {K : PySem.W.Frag} {D : Ends} {l : Addr} {ns : List Int} {H : Hp} {σ : L2.St} {i : Int} (hs : SqL K H l (ns.map V.int)) (hl : 2 < σ.length) (h0 : σ[0]? = some (some (.ref l))) (h1 : σ[1]? = some (some (.int i)))
    (k : ∀ σ' i', σ'[0]? = some (some (.ref l)) → σ'[1]? = some (some (.int i')) → σ'.length = σ.length → D.nx σ' H) : tFor (iList K (tVar 0)) (gName 2) (tStir 1 2) D σ H := by
  refine ⟨_, h0, l, rfl, ⟨_, hs⟩, fun n m σ' H' => n ≤ ns.length ∧ m = ns.length - n ∧ H' = H ∧ σ'[0]? = some (some (.ref l)) ∧ (∃ i', -(2 ^ 64) < i' ∧ i' < 2 ^ 64 ∧ σ'[1]? = some (some (.int i')) ∨ σ'[1]? = some (some (.int i')) ∧ n = 0) ∧ σ'.length = σ.length, ⟨_, Nat.zero_le _, rfl, rfl, h0, ⟨i, .inr ⟨h1, rfl⟩⟩, rfl⟩, fun n m σ' H' ⟨hn, hm, eH, s0, hi, hlen⟩ => ?_⟩
  subst eH
  by_cases h : n < ns.length
  · right
    refine ⟨⟨_, V.int ns[n], hs, by rw [List.getElem?_map, List.getElem?_eq_getElem h]; rfl⟩, fun σ2 H2 => n + 1 ≤ ns.length ∧ H2 = H' ∧ σ2[0]? = some (some (.ref l)) ∧ (∃ i', -(2 ^ 64) < i' ∧ i' < 2 ^ 64 ∧ σ2[1]? = some (some (.int i'))) ∧ σ2.length = σ.length, fun σ2 H2 ⟨q1, q2, q3, ⟨i', q4⟩, q5⟩ => ⟨ns.length - (n + 1), by omega, q1, rfl, q2, q3, ⟨i', .inl q4⟩, q5⟩, fun x H2 ⟨e, hx⟩ => ?_⟩
    subst e
    have ex := hx _ hs
    rw [List.getElem?_map, List.getElem?_eq_getElem h] at ex
    have ex' : x = V.int ns[n] := (Option.some.inj ex).symm
    subst ex'
    have g2 : (σ'.set 2 (some (V.int ns[n])))[2]? = some (some (V.int ns[n])) := List.getElem?_set_self (by rw [hlen]; exact hl)
    have g1 : ∃ i', (σ'.set 2 (some (V.int ns[n])))[1]? = some (some (.int i')) := by
      obtain ⟨i', q⟩ := hi
      rcases q with ⟨_, _, q⟩ | ⟨q, _⟩
      · exact ⟨i', by rw [List.getElem?_set_ne (by decide)]; exact q⟩
      · exact ⟨i', by rw [List.getElem?_set_ne (by decide)]; exact q⟩
    obtain ⟨i', g1⟩ := g1
    have b5 : ∀ x : Int, -(2 ^ 64) < x % 2147483629 ∧ x % 2147483629 < 2 ^ 64 := fun x => by
      have h1 := Int.emod_nonneg x (show (2147483629 : Int) ≠ 0 by decide)
      have h2 := Int.emod_lt_of_pos x (show (0 : Int) < 2147483629 by decide)
      omega
    refine ⟨_, g1, i', 69069, rfl, rfl, .inr ⟨by decide, by decide⟩, _, g2, ns[n], 31, rfl, rfl, .inr ⟨by decide, by decide⟩, _, _, rfl, rfl, _, 5, rfl, rfl, .inl ⟨_, rfl, _, 2147483629, rfl, rfl, (by decide : (0 : Int) < 2147483629), ?_⟩⟩
    refine ⟨h, rfl, ?_, ⟨_, (b5 _).1, (b5 _).2, List.getElem?_set_self (by rw [List.length_set, hlen]; omega)⟩, by rw [List.length_set, List.length_set]; exact hlen⟩
    rw [List.getElem?_set_ne (by decide), List.getElem?_set_ne (by decide)]
    exact s0
  · left
    refine ⟨⟨_, hs, by rw [List.length_map]; omega⟩, ?_⟩
    obtain ⟨i', q⟩ := hi
    rcases q with ⟨_, _, q⟩ | ⟨q, _⟩
    · exact k σ' i' s0 q hlen
    · exact k σ' i' s0 q hlen
/-- the list of absolute values -/
theorem abs_run {K : PySem.W.Frag} {l : Addr} {ns : List Int} {H : Hp} {σ : L2.St} {Q : VK} {j : Nat} (hs : SqL K H l (ns.map V.int)) (hz : ns.length < sizeLine) (hj : j ≠ 0) (hl : j < σ.length) (h0 : σ[0]? = some (some (.ref l)))
    (k : ∀ (p : Addr) (cells : List Int), H p = none → (∀ x ∈ cells, 0 ≤ x) → cells.length = ns.length → Q (.ref p) (upd H p (.lst (cells.map V.int)))) : tAbsL K j σ H Q := by
  refine ⟨_, h0, l, rfl, ⟨_, hs⟩, fun p hp => ?_⟩
  have kp : ∀ o, Kept H (upd H p o) := fun o => Kept.refl.new hp
  refine ⟨fun n m H' => n ≤ ns.length ∧ m = ns.length - n ∧ ∃ cells : List Int, H' = upd H p (.lst (cells.map V.int)) ∧ cells.length = n ∧ ∀ x ∈ cells, 0 ≤ x, ⟨_, Nat.zero_le _, rfl, [], rfl, rfl, fun x h => by cases h⟩, fun n m H' ⟨hn, hm, cells, eH, hc, nn⟩ => ?_⟩
  subst eH
  have hs' := sq_kept (kp (.lst (cells.map V.int))) hs
  by_cases h : n < ns.length
  · right
    refine ⟨⟨_, V.int ns[n], hs', by rw [List.getElem?_map, List.getElem?_eq_getElem h]; rfl⟩, fun H2 => ∃ cells : List Int, H2 = upd H p (.lst (cells.map V.int)) ∧ cells.length = n + 1 ∧ ∀ x ∈ cells, 0 ≤ x, fun H2 ⟨cs, q1, q2, q3⟩ => ⟨ns.length - (n + 1), by omega, h, rfl, cs, q1, q2, q3⟩, fun x H2 ⟨e, hx⟩ => ?_⟩
    subst e
    have ex := hx _ hs'
    rw [List.getElem?_map, List.getElem?_eq_getElem h] at ex
    have ex' : x = V.int ns[n] := (Option.some.inj ex).symm
    subst ex'
    have wl : j < (L2.wipe σ [j]).length := by rw [wipe_length]; exact hl
    refine ⟨?_, ?_⟩
    · show ((σ.set j none).set j (some (V.int ns[n]))).set j none = σ.set j none
      rw [List.set_set, List.set_set]
    · refine ⟨_, List.getElem?_set_self wl, ns[n], rfl, cells.map V.int, upd_same, ?_, cells ++ [if ns[n] < 0 then -ns[n] else ns[n]], ?_, ?_, ?_⟩
      · rw [List.length_map]; omega
      · rw [upd_upd, List.map_append]; rfl
      · rw [List.length_append, hc]; rfl
      · intro y hy
        rcases List.mem_append.mp hy with hy | hy
        · exact nn y hy
        · rw [List.mem_singleton.mp hy]
          split <;> omega
  · left
    exact ⟨⟨_, hs', by rw [List.length_map]; omega⟩, k p cells hp nn (by omega)⟩
/-- the end: the dict is made -/
theorem fin_run {K : PySem.W.Frag} {H0 H1 : Hp} {σ : L2.St} {Q : VK} {te : TE} {i : Int} (k0 : Kept H0 H1) (h1 : σ[1]? = some (some (.int i)))
    (ht : ∀ (H2 : Hp) (R : VK), Kept H1 H2 → (∀ (q : Addr) (cells : List Int) (H3 : Hp), H1 q = none → Kept H2 H3 → H3 q = some (.lst (cells.map V.int)) → H2 q = none → (∀ x ∈ cells, 0 ≤ x) → R (.ref q) H3) → te σ H2 R)
    (q : ∀ a c H' cells lf m t, S4 a c H' cells lf m t → Kept H0 H' → H0 a = none → H0 c = none → Q (.ref a) H') :
    tDisp [(tC (.str "cells"), te), (tC (.str "left"), tC (.int 1)), (tC (.str "mixed"), tVar 1), (tC (.str "turn"), tC (.int 0))] σ H1 Q := by
  intro p hp
  have kp : Kept H1 (upd H1 p (.dK [])) := Kept.refl.new hp
  refine ht _ _ kp fun c cells H3 hc k3 h3 hc2 nn => ?_
  have ne : p ≠ c := fun e => by subst e; rw [upd_same] at hc2; cases hc2
  refine ⟨_, h1, k3 p _ upd_same, [(.inr "cells", .ref c), (.inr "left", .int 1), (.inr "mixed", .int i), (.inr "turn", .int 0)], rfl, (by show 4 ≤ 15; decide), ?_⟩
  refine q p c _ cells 1 i 0 ⟨ne, upd_same, by rw [upd_ne (Ne.symm ne)]; exact h3, nn⟩ (fun b o e => ?_) (k0.none hp) (k0.none hc)
  have e1 := k0 b o e
  have nb : b ≠ p := fun q => by subst q; rw [hp] at e1; cases e1
  rw [upd_ne nb]
  exact k3 b o (kp b o e1)
theorem seq_set {v : V} {i : Nat} {u : TS} {D : Ends} {σ : L2.St} {H : Hp} : tSeq (tAsg (tC v) (gName i)) u D σ H = u D (σ.set i (some v)) H := rfl
theorem seq_for {a : TI} {b : TG} {c : TS} {u : TS} {D : Ends} {σ : L2.St} {H : Hp} : tSeq (tFor a b c) u D σ H = tFor a b c { D with nx := u D } σ H := rfl
theorem open1_run {K : PySem.W.Frag} {vs : List V} {H : Hp} {Q : VK} {E : XK} {x1 x2 x3 x4 : Str} (h : spOpen K vs H Q E) : tO1 K { nx := fun _ H' => Q .non H', rt := Q } (start [x1, x2, x3, x4] vs) H := by
  obtain ⟨l, ns, rfl, hs, hz, q⟩ := h
  unfold tO1
  rw [seq_set, seq_for]
  refine stir_run hs (by rw [List.length_set]; exact (by decide : 2 < 4)) rfl rfl fun σ' i' s0 s1 hl => ?_
  have hl' : σ'.length = 4 := hl
  dsimp only
  rw [show ∀ {u : TS} {D : Ends} {σ : L2.St} {H : Hp} {t : TE} {i : Nat}, tSeq (tAsg t (gName i)) u D σ H = t σ H (fun x H1 => u D (σ.set i (some x)) H1) from rfl]
  refine abs_run (j := 2) hs hz (by decide) (by rw [hl']; decide) s0 fun c cells hc nn hn => ?_
  have kc : Kept H (upd H c (.lst (cells.map V.int))) := Kept.refl.new hc
  refine fin_run (K := K) kc (i := i') (by rw [List.getElem?_set_ne (by decide)]; exact s1) (fun H2 R k2 r => ?_) q
  refine ⟨_, List.getElem?_set_self (by rw [hl']; decide), c, _, rfl, SqL.of (k2 c _ upd_same), fun q hq => ?_⟩
  exact r q cells.reverse _ (k2.none hq) (Kept.refl.new hq) (by rw [upd_same, List.map_reverse]) hq fun x hx => nn x (List.mem_reverse.mp hx)
theorem open2_run {K : PySem.W.Frag} {vs : List V} {H : Hp} {Q : VK} {E : XK} {x1 x2 x3 : Str} (h : spOpen K vs H Q E) : tO2 K { nx := fun _ H' => Q .non H', rt := Q } (start [x1, x2, x3] vs) H := by
  obtain ⟨l, ns, rfl, hs, hz, q⟩ := h
  unfold tO2
  rw [seq_set, seq_for]
  refine stir_run hs (by rw [List.length_set]; exact (by decide : 2 < 3)) rfl rfl fun σ' i' s0 s1 hl => ?_
  have hl' : σ'.length = 3 := hl
  refine fin_run (K := K) Kept.refl (i := i') s1 (fun H2 R k2 r => ?_) q
  rw [show ∀ {σ : L2.St} {H : Hp} {Q : VK} {t : TE}, tRevL K t σ H Q = t σ H (fun x H1 => ∃ a xs, x = .ref a ∧ SqL K H1 a xs ∧ ∀ p, H1 p = none → Q (.ref p) (upd H1 p (.lst xs.reverse))) from rfl]
  refine abs_run (j := 2) (sq_kept k2 hs) hz (by decide) (by rw [hl']; decide) s0 fun c cells hc nn hn => ?_
  refine ⟨c, _, rfl, SqL.of upd_same, fun q hq => ?_⟩
  exact r q cells.reverse _ ((k2.none ((Kept.refl.new hc).none hq))) ((Kept.refl.new hc).new hq) (by rw [upd_same, List.map_reverse]) ((Kept.refl.new hc).none hq) fun x hx => nn x (List.mem_reverse.mp hx)

/-! ### a law's start -/
/-- called with a script, it returns True -/
def spLaw (K : PySem.W.Frag) : Sp := fun vs H Q _ => ∃ (l : Addr) (ns : List Int), vs = [.ref l] ∧ SqL K H l (ns.map V.int) ∧ ns.length < sizeLine ∧ ∀ H', Q (.bl true) H'
theorem rel0 {a c : Addr} {H : Hp} {cells : List Int} {lf m t : Int} {σ : L2.St} {n i : Nat} (s : S4 a c H cells lf m t) (hl : σ.length = n) (hi : σ[i]? = some (some (.ref a))) :
    Rel (some (a, c)) (fun _ => False) O0 (Ev.put (List.replicate n Sl.non) i (.sh .src)) σ H where
  len := by rw [Ev.put_set, List.length_set, List.length_replicate, hl]
  src := Src.of4 s
  own := fun _ h => h.elim
  prt := fun _ h => h.elim
  at_ := fun j x y h1 h2 => by
    rw [Ev.put_set] at h1
    by_cases e : i = j
    · subst e
      rw [hi] at h2
      cases h2
      have hlt : i < n := by rw [← hl]; exact (List.getElem?_eq_some_iff.mp hi).1
      rw [List.getElem?_set_self (by rw [List.length_replicate]; exact hlt)] at h1
      cases h1
      exact ⟨_, rfl, a, rfl, rfl⟩
    · rw [List.getElem?_set_ne e] at h1
      have : x = .non := by
        have q := List.mem_of_getElem? h1
        exact (List.mem_replicate.mp q).2
      subst this
      trivial
  one := fun j k s t p h1 h2 h3 _ _ _ => by
    rw [Ev.put_set] at h1
    by_cases e : i = j
    · subst e
      rw [List.getElem?_set_self'] at h1
      cases q : (List.replicate n Sl.non)[i]? with
      | none => rw [q] at h1; cases h1
      | some y => rw [q] at h1; cases h1; cases h3
    · rw [List.getElem?_set_ne e] at h1
      have : s = .non := (List.mem_replicate.mp (List.mem_of_getElem? h1)).2
      subst this
      cases h3
/-- the law's text behind its first line -/
def LawOk (n i : Nat) (F : Ev → T Res) : Prop := WP (F (Ev.put (List.replicate n Sl.non) i (.sh .src))) fun r => match r with
  | .rt (.bl true) => True
  | _ => False
/-- source = open(script), and then the text -/
def tLaw (K : PySem.W.Frag) (i : Nat) (F : Ev → T Res) : TS := tSeq (tAsg (fun σ H Q => tCons (tVar 0) tNil σ H fun vs H1 => spOpen K vs H1 Q E0) (gName i)) (tS F)
theorem law_run {K : PySem.W.Frag} {vs : List V} {H : Hp} {Q : VK} {E : XK} {N : List Str} {n i : Nat} {F : Ev → T Res} (h : spLaw K vs H Q E) (hn : ∀ l, (start N [V.ref l]).length = n) (h0 : ∀ l, (start N [V.ref l])[0]? = some (some (V.ref l))) (hi : i < n) (ok : LawOk n i F) :
    tLaw K i F { nx := fun _ H' => Q .non H', rt := Q } (start N vs) H := by
  obtain ⟨l, ns, rfl, hs, hz, q⟩ := h
  refine ⟨_, h0 l, l, ns, rfl, hs, hz, fun a c H' cells lf m t s _ _ _ => ?_⟩
  refine ⟨some (a, c), _, _, _, rel0 (i := i) s (by rw [List.length_set]; exact hn l) (List.getElem?_set_self (by have := hn l; omega)), WP.mono ok fun r k => ?_⟩
  cases r with
  | nx ρ => exact k.elim
  | rt d =>
    cases d <;> first | exact k.elim | skip
    rename_i b
    cases b
    · exact k.elim
    · intro v H2 _ _ rv
      rw [show v = V.bl true from rv]
      exact q H2
end
end DL

set_option Elab.async false
set_option linter.all false
set_option maxRecDepth 100000
namespace DL
noncomputable section
open PySem PySem.Spec PyProof.Rows L2

/-! ### a def by its text -/
def padE : Nat → Ev
  | 0 => []
  | n + 1 => .non :: padE n
theorem padE_eq : ∀ n, padE n = List.replicate n .non
  | 0 => rfl
  | n + 1 => by rw [List.replicate_succ, ← padE_eq n]; rfl
def shE (m : Nat) : List D → Ev
  | [] => padE m
  | d :: r => .sh d :: shE m r
theorem shE_eq (m : Nat) : ∀ ds : List D, shE m ds = ds.map .sh ++ List.replicate m .non
  | [] => padE_eq m
  | d :: r => by rw [shE, shE_eq m r]; rfl
def outD : Res → T D
  | .rt d => .ok d
  | .nx _ => .ok .non
/-- what a def answers: n names are given, m more are its own -/
def defF (m : Nat) (B : Ev → T Res) : List D → T D := fun ds => (B (shE m ds)).bind outD
theorem start_rel {z : Zr} {P : Addr → Prop} {H : Hp} {ds : List D} {vs : List V} {N : List Str} {m : Nat} (W : Ws z P O0 H) (r : Reps (sa z) (Vw z P O0 H) ds vs) (hN : N.length = vs.length + m) : Rel z P O0 (shE m ds) (L2.start N vs) H := by
  have hm : N.length - vs.length = m := by omega
  have e : L2.start N vs = vs.map some ++ List.replicate m none := by unfold L2.start; rw [hm]
  rw [e, shE_eq]
  refine ⟨by rw [List.length_append, List.length_append, List.length_map, List.length_map, r.length, List.length_replicate, List.length_replicate], W.src, fun _ h => h.elim, W.prt, fun i s x h1 h2 => ?_, fun i j s t p h1 h2 h3 _ _ _ => ?_⟩
  · by_cases h : i < ds.length
    · rw [List.getElem?_append_left (by rw [List.length_map]; exact h), List.getElem?_map, List.getElem?_eq_getElem h] at h1
      cases h1
      obtain ⟨v, hv, rv⟩ := r.get (List.getElem?_eq_getElem h)
      rw [List.getElem?_append_left (by rw [List.length_map, r.length]; exact h), List.getElem?_map, hv] at h2
      cases h2
      exact ⟨v, rfl, rv⟩
    · rw [List.getElem?_append_right (by rw [List.length_map]; omega)] at h1
      have : s = .non := (List.mem_replicate.mp (List.mem_of_getElem? h1)).2
      subst this
      trivial
  · by_cases h : i < ds.length
    · rw [List.getElem?_append_left (by rw [List.length_map]; exact h), List.getElem?_map, List.getElem?_eq_getElem h] at h1
      cases h1
      cases h3
    · rw [List.getElem?_append_right (by rw [List.length_map]; omega)] at h1
      have : s = .non := (List.mem_replicate.mp (List.mem_of_getElem? h1)).2
      subst this
      cases h3
theorem def_run {N : List Str} {n m : Nat} {B : Ev → T Res} {vs : List V} {H : Hp} {Q : VK} {E : XK} (h : spF n (defF m B) vs H Q E) (hN : N.length = n + m) : tS B { nx := fun _ H' => Q .non H', rt := Q } (L2.start N vs) H := by
  obtain ⟨hl, z, P, ds, W, r, w⟩ := h
  refine ⟨z, P, O0, _, start_rel (m := m) W r (by rw [hl]; exact hN), (WP.bind w).mono fun r k => ?_⟩
  cases r with
  | nx ρ' => exact fun σ' H' O' g R => WP.ok k .non H' (fun b o n e => (g b o (fun h => h) n e).2) R.src rfl
  | rt d => exact fun v H' g s rv => WP.ok k v H' (fun b o n e => g b o (fun h => h) n e) s rv
section
variable {P : Program} {w : World} {K : PySem.W.Frag} {mg : Str → Option Value} {base : Heap} {x : Str} {st : Stmt} {f : Addr} {fd : FuncData} {N ps : List Str} {k n m : Nat} {B : Ev → T Res}
theorem has_of (F : Fun K x x st f fd) (S : FnScope N ps (defScope st)) (hb : Binds K fd ps []) (hm : mg x = some (.ref f)) (hl : ps.length = n) (hN : N.length = n + m)
    (body : ∀ (cdv : Value) (A : Around) (outer : List Env) (s : Shared) (H : Hp), Rm k (A.deeper (envOfC x (defScope st) s.heap.objs.size f cdv)) →
      PSs (cxOf CX0 P w K mg base N x (defScope st) f cdv A outer s H E0).nox (defBody st) (tS B)) : Has P w K mg base (k + 1) x n (defF m B) :=
  ⟨f, fd, ps, fnG_of F S (fun vs H Q E h => h.1.trans hl.symm) fun cdv A outer s H vs Q hr h => ⟨_, body cdv A outer s H hr, def_run h hN⟩, hm, F.kp, hb⟩
theorem Has.up {F : List D → T D} {j : Nat} (h : Has P w K mg base j x n F) (le : j ≤ k) : Has P w K mg base k x n F := by
  obtain ⟨f, fd, ps, G, r⟩ := h.ex
  exact ⟨f, fd, ps, G.mono le, r⟩
/-- a pick, by its text -/
theorem pick_of {t : TS} (F : Fun K x x st f fd) (S : FnScope N ps (defScope st)) (hb : Binds K fd ps []) (hm : mg x = some (.ref f)) (hl : ps.length = 2)
    (body : ∀ (cdv : Value) (A : Around) (outer : List Env) (s : Shared) (H : Hp), Rm k (A.deeper (envOfC x (defScope st) s.heap.objs.size f cdv)) →
      PSs (cxOf CX0 P w K mg base N x (defScope st) f cdv A outer s H E0).nox (defBody st) t) (run : ∀ vs H Q, spF 2 pickF vs H Q E0 → t { nx := fun _ H' => Q .non H', rt := Q } (L2.start N vs) H) : Has P w K mg base (k + 1) x 2 pickF :=
  ⟨f, fd, ps, fnG_of F S (fun vs H Q E h => h.1.trans hl.symm) fun cdv A outer s H vs Q hr h => ⟨_, body cdv A outer s H hr, run vs H Q h⟩, hm, F.kp, hb⟩
/-- the opening of the cells -/
structure Opens (P : Program) (w : World) (K : PySem.W.Frag) (mg : Str → Option Value) (base : Heap) (k : Nat) (x : Str) : Prop where
  ex : ∃ f fd ps, FnG P w K mg base k f fd ps (spOpen K) ∧ mg x = some (.ref f) ∧ PySem.W.keepIn K (.ref f) = true ∧ Binds K fd ps []
theorem open_of {t : TS} (F : Fun K x x st f fd) (S : FnScope N ps (defScope st)) (hb : Binds K fd ps []) (hm : mg x = some (.ref f)) (hl : ps.length = 1)
    (body : ∀ (cdv : Value) (A : Around) (outer : List Env) (s : Shared) (H : Hp), Rm k (A.deeper (envOfC x (defScope st) s.heap.objs.size f cdv)) →
      PSs (cxOf CX0 P w K mg base N x (defScope st) f cdv A outer s H E0).nox (defBody st) t) (run : ∀ vs H Q, spOpen K vs H Q E0 → t { nx := fun _ H' => Q .non H', rt := Q } (L2.start N vs) H) : Opens P w K mg base (k + 1) x :=
  ⟨f, fd, ps, fnG_of F S (fun vs H Q E h => by obtain ⟨l, ns, e, _⟩ := h; rw [e, hl]; rfl) fun cdv A outer s H vs Q hr h => ⟨_, body cdv A outer s H hr, run vs H Q h⟩, hm, F.kp, hb⟩
/-- a law's text -/
theorem law_of {i : Nat} (F : Fun K x x st f fd) (S : FnScope N ps (defScope st)) (hl : ps.length = 1) (hN : N.length = m) (hi : i < m) (ok : LawOk m i B)
    (body : ∀ (cdv : Value) (A : Around) (outer : List Env) (s : Shared) (H : Hp), Rm k (A.deeper (envOfC x (defScope st) s.heap.objs.size f cdv)) →
      PSs (cxOf CX0 P w K mg base N x (defScope st) f cdv A outer s H E0).nox (defBody st) (tLaw K i B)) : FnG P w K mg base (k + 1) f fd ps (spLaw K) :=
  fnG_of F S (fun vs H Q E h => by obtain ⟨l, ns, e, _⟩ := h; rw [e, hl]; rfl) fun cdv A outer s H vs Q hr h => ⟨_, body cdv A outer s H hr, law_run h (fun l => by
    show ((([V.ref l]).map some) ++ List.replicate (N.length - 1) none).length = m
    have : 0 < N.length := by omega
    rw [List.length_append, List.length_replicate, hN]
    show 1 + (m - 1) = m
    omega) (fun l => rfl) hi ok⟩
end
section
variable {X : Cx} {x y : Str} {p pos py : Pos} {e : Expr} {k i : Nat} {rest : List Stmt} {F : Ev → T Res}
/-- the law's first line, and then its text -/
theorem claw (i : Nat) {z : Str} (h : Opens X.prog X.w X.K X.mg X.base k x) (hr : Rm k X.A) (hN : X.N.Nodup) (hg : Gl X x) (hb : PSs X rest (tS F)) (h0 : X.N[0]? = some z := by rfl) (hv : Vis X.env.scope z := by first | exact Or.inl rfl | exact Or.inr (Or.inl rfl))
    (hd : (z == ("__debug__" : Str)) = false := by decide) (hcd : (z == ("__classdict__" : Str)) = false := by decide)
    (hx : Loc X.env.scope y := by first | exact Or.inl rfl | exact Or.inr rfl) (hi : X.N[i]? = some y := by rfl) (hs : swapsWith (.Call (.Name x p) [.Name z py] [] pos) (some (.Name y ppy)) sp.line X.env = pure false := by rfl)
    (hf : X.fn y = true ∨ X.env.scope.names.lookup y = some .local := by first | exact .inl rfl | exact .inr rfl) (hdb : (x == ("__debug__" : Str)) = false := by decide)
    (he : starEach [.Name z py] X.env = (false, eval (.Name z py) X.env) :: starEach [] X.env := by rfl) (hpl : (backTo pos (starEach [] X.env)).any (·.1) = false := by rfl) :
    PSs X (.Assign [.Name y ppy] (.Call (.Name x p) [.Name z py] [] pos) sp :: rest) (tLaw X.K i F) := by
  obtain ⟨f, fd, ps, G, hm, hk, hb'⟩ := h.ex
  exact pss_cons (ps_set hN hi hx (g_call G hr hg hm hk hb' (pa_cons (pe_var h0 hv hd hcd) pa_nil he) hdb he hpl) hs hf) hb
end
end
end DL

set_option Elab.async false
set_option linter.all false
set_option maxRecDepth 100000
namespace DL
noncomputable section
open PySem PySem.Spec PyProof.Rows L2
theorem bt_len : bootBuiltins "len" = some (.builtin "len") := by decide +kernel
theorem bt_abs : bootBuiltins "abs" = some (.builtin "abs") := by decide +kernel
theorem bt_sum : bootBuiltins "sum" = some (.builtin "sum") := by decide +kernel
theorem bt_max : bootBuiltins "max" = some (.builtin "max") := by decide +kernel
theorem bt_min : bootBuiltins "min" = some (.builtin "min") := by decide +kernel
theorem bt_any : bootBuiltins "any" = some (.builtin "any") := by decide +kernel
theorem bt_all : bootBuiltins "all" = some (.builtin "all") := by decide +kernel
theorem bt_sorted : bootBuiltins "sorted" = some (.builtin "sorted") := by decide +kernel
theorem bt_repr : bootBuiltins "repr" = some (.builtin "repr") := by decide +kernel
theorem bt_int : bootBuiltins "int" = some (.type "int") := by decide +kernel
theorem bt_list : bootBuiltins "list" = some (.type "list") := by decide +kernel
theorem bt_tuple : bootBuiltins "tuple" = some (.type "tuple") := by decide +kernel
theorem bt_dict : bootBuiltins "dict" = some (.type "dict") := by decide +kernel
abbrev srtS : List Sh := [.i, .r .i, .r (.r .i), .c [.i, .r .i], .c [.r .i, .r .i], .c [.r .i, .i]]
theorem Opens.up {P : Program} {w : World} {K : PySem.W.Frag} {mg : Str → Option Value} {base : Heap} {x : Str} {j k : Nat} (h : Opens P w K mg base j x) (le : j ≤ k) : Opens P w K mg base k x := by
  obtain ⟨f, fd, ps, G, r⟩ := h.ex
  exact ⟨f, fd, ps, G.mono le, r⟩
section
variable {X : Cx} {x y : Str} {pos py spos lpos : Pos} {tg elt : Expr} {ifs : List Expr} {scope : Scope} {own : List (Str × Nat)} {p : Pat} {t : Ev → T Bool} {e : Ev → T D}
/-- y = [e for k in d if ..], y shared -/
theorem ssetLcKS (j i : Nat) (hc : X.calm = true) (hN : X.N.Nodup) (ok : blkC X.N X.env.scope scope own = true) (hv : (p.slots.all fun j => decide (j ∈ own.map (·.2))) = true)
    (hg : ∀ (s : Shared) (H : Hp) (C : Addr) (cl : List (Str × Addr)) (fp : List Addr), PG (X.blk s H scope (compEnvC scope cl C X.env) fp) tg (tG p)) (ht : ∀ (s : Shared) (H : Hp) (C : Addr) (cl : List (Str × Addr)) (fp : List Addr), PTs (X.blk s H scope (compEnvC scope cl C X.env) fp) ifs (tT t))
    (he : ∀ (s : Shared) (H : Hp) (C : Addr) (cl : List (Str × Addr)) (fp : List Addr), PE (X.blk s H scope (compEnvC scope cl C X.env) fp) elt (tD e)) (hn : X.N[i]? = some x := by rfl) (hvis : Vis X.env.scope x := by first | exact Or.inl rfl | exact Or.inr (Or.inl rfl) | exact Or.inr (Or.inr rfl)) (hd : (x == ("__debug__" : Str)) = false := by decide)
    (hcd : (x == ("__classdict__" : Str)) = false := by decide) (hy : X.N[j]? = some y := by rfl) (hyl : X.env.scope.names.lookup y = some .local := by rfl)
    (hsw : swapsWith (.ListComp elt [⟨tg, .Name x pos, ifs, 0⟩] scope lpos) (some (.Name y py)) spos.line X.env = pure true := by exact sw_true rfl rfl rfl (by decide +kernel)) (hs : ∀ y, foldedSetIterable (.Name x pos) X.env y = pure y := by intro _; rfl) :
    PS X (.Assign [.Name y py] (.ListComp elt [⟨tg, .Name x pos, ifs, 0⟩] scope lpos) spos) (tS (fSet j (fLc (own.map (·.2)) (fKeys i) p t e))) := by
  have h := ps_setLc hc hN hy hyl hsw (bkeys (tg := tg) (pos := pos) i hn hvis hd hcd) (blkOk_by ok) hg ht he hs
  refine PS.imp (PS.or h (ps_lock h)) fun Dn σ H hh => ?_
  obtain ⟨z, P, O, ρ, R, w⟩ := tAsg_D hh
  have q := tLc_K (i := i) (p := p) (t := t) (e := e) (Q := fun v H1 => Dn.nx (σ.set j (some v)) H1) (vs := own.map (·.2)) (fun j hj => of_decide_eq_true (List.all_eq_true.mp hv j hj)) ⟨z, P, O, ρ, R, w.mono fun d k q H' hq g s tt =>
    k (.ref q) H' g s (top_rep (fun o => (R.own q o).1.ne hq) (fun o => (R.prt q o).ne hq) (not_src R.src hq) (tt.mono Vw.un fun _ h => h))⟩
  exact q.elim .inl .inr
/-- .. owned -/
theorem ssetLcK (j i : Nat) (hc : X.calm = true) (hN : X.N.Nodup) (ok : blkC X.N X.env.scope scope own = true) (hv : (p.slots.all fun j => decide (j ∈ own.map (·.2))) = true)
    (hg : ∀ (s : Shared) (H : Hp) (C : Addr) (cl : List (Str × Addr)) (fp : List Addr), PG (X.blk s H scope (compEnvC scope cl C X.env) fp) tg (tG p)) (ht : ∀ (s : Shared) (H : Hp) (C : Addr) (cl : List (Str × Addr)) (fp : List Addr), PTs (X.blk s H scope (compEnvC scope cl C X.env) fp) ifs (tT t))
    (he : ∀ (s : Shared) (H : Hp) (C : Addr) (cl : List (Str × Addr)) (fp : List Addr), PE (X.blk s H scope (compEnvC scope cl C X.env) fp) elt (tD e)) (hn : X.N[i]? = some x := by rfl) (hvis : Vis X.env.scope x := by first | exact Or.inl rfl | exact Or.inr (Or.inl rfl) | exact Or.inr (Or.inr rfl)) (hd : (x == ("__debug__" : Str)) = false := by decide)
    (hcd : (x == ("__classdict__" : Str)) = false := by decide) (hy : X.N[j]? = some y := by rfl) (hyl : X.env.scope.names.lookup y = some .local := by rfl)
    (hsw : swapsWith (.ListComp elt [⟨tg, .Name x pos, ifs, 0⟩] scope lpos) (some (.Name y py)) spos.line X.env = pure true := by exact sw_true rfl rfl rfl (by decide +kernel)) (hs : ∀ y, foldedSetIterable (.Name x pos) X.env y = pure y := by intro _; rfl) :
    PS X (.Assign [.Name y py] (.ListComp elt [⟨tg, .Name x pos, ifs, 0⟩] scope lpos) spos) (tS (fSetF j (fLc (own.map (·.2)) (fKeys i) p t e))) := by
  have h := ps_setLc hc hN hy hyl hsw (bkeys (tg := tg) (pos := pos) i hn hvis hd hcd) (blkOk_by ok) hg ht he hs
  refine PS.imp (PS.or h (ps_lock h)) fun Dn σ H hh => ?_
  obtain ⟨z, P, O, ρ, R, w⟩ := tAsg_F hh
  have q := tLc_K (i := i) (p := p) (t := t) (e := e) (Q := fun v H1 => Dn.nx (σ.set j (some v)) H1) (vs := own.map (·.2)) (fun j hj => of_decide_eq_true (List.all_eq_true.mp hv j hj)) ⟨z, P, O, ρ, R, w⟩
  exact q.elim .inl .inr
end
end
end DL

set_option Elab.async false
set_option linter.all false
set_option maxRecDepth 100000
namespace DL
noncomputable section
/-! ### computing with the kernel -/
def okB : T D → D → Bool
  | .ok a, b => D.beq a b
  | _, _ => false
theorem okB_eq {m : T D} {d : D} (h : okB m d = true) : m = .ok d := by
  cases m with
  | ok a => exact congrArg T.ok (D.beq_eq h)
  | no => cases h
  | pk n k => cases h
def allR (p : Int → Bool) : Nat → Int → Bool
  | 0, _ => true
  | n + 1, i => p i && allR p n (i + 1)
theorem allR_w {p : Int → Bool} : ∀ {n : Nat} {i : Int}, allR p n i = true → ∀ r, i ≤ r → r < i + n → p r = true
  | 0, i, _, r, h1, h2 => by omega
  | n + 1, i, h, r, h1, h2 => by
    rw [allR, Bool.and_eq_true] at h
    by_cases e : r = i
    · rw [e]; exact h.1
    · exact allR_w h.2 r (by omega) (by omega)
/-- every draw leads to an end that p takes -/
def T.chk {α : Type} (p : α → Bool) (m : T α) : Bool := T.rec (motive := fun _ => Bool) p false (fun n _ ih => allR ih ((n.toNat - 1) + 1) 0) m
theorem T.chk_w {α : Type} {p : α → Bool} : ∀ {m : T α}, T.chk p m = true → WP m fun a => p a = true
  | .ok _, h => h
  | .no, h => nomatch h
  | .pk n k, h => fun r h0 h1 => by
    refine T.chk_w (allR_w h r h0 ?_)
    omega
def isT : Res → Bool
  | .rt (.bl b) => b
  | _ => false
theorem lawOk_of {n i : Nat} {F : Ev → T Res} (h : T.chk isT (F (Ev.put (List.replicate n Sl.non) i (.sh .src))) = true) : LawOk n i F := (T.chk_w h).mono fun r h => by
  cases r with
  | nx _ => cases h
  | rt d =>
    cases d <;> first | (cases h; done) | skip
    rename_i b
    have hb : b = true := h
    subst hb
    trivial
end
end DL

set_option Elab.async false
set_option linter.all false
set_option maxRecDepth 100000
namespace DL
noncomputable section
/-! ### less known: .no below all -/
def T.le {α : Type} : T α → T α → Prop
  | .no, _ => True
  | .ok a, .ok b => a = b
  | .pk n k, .pk n' k' => n = n' ∧ ∀ r, T.le (k r) (k' r)
  | _, _ => False
theorem T.le_refl {α : Type} : ∀ m : T α, T.le m m
  | .no => trivial
  | .ok _ => rfl
  | .pk _ k => ⟨rfl, fun r => T.le_refl (k r)⟩
theorem T.le_wp {α : Type} {Q : α → Prop} : ∀ {m m' : T α}, T.le m m' → WP m Q → WP m' Q
  | .no, _, _, w => w.elim
  | .ok a, .ok b, e, w => (show a = b from e) ▸ w
  | .pk n k, .pk n' k', ⟨e, h⟩, w => fun r h0 h1 => T.le_wp (h r) (w r h0 (e ▸ h1))
  | .ok _, .no, h, _ => h.elim
  | .ok _, .pk _ _, h, _ => h.elim
  | .pk _ _, .no, h, _ => h.elim
  | .pk _ _, .ok _, h, _ => h.elim
theorem T.le_bind {α β : Type} {f f' : α → T β} (hf : ∀ a, T.le (f a) (f' a)) : ∀ {m m' : T α}, T.le m m' → T.le (m.bind f) (m'.bind f')
  | .no, _, _ => trivial
  | .ok a, .ok b, e => by cases (show a = b from e); exact hf a
  | .pk n k, .pk n' k', ⟨e, h⟩ => ⟨e, fun r => T.le_bind hf (h r)⟩
  | .ok _, .no, h => h.elim
  | .ok _, .pk _ _, h => h.elim
  | .pk _ _, .no, h => h.elim
  | .pk _ _, .ok _, h => h.elim
theorem T.le_ok {α : Type} {m : T α} {a : α} (h : T.le (.ok a) m) : m = .ok a := by
  cases m with
  | ok b => exact congrArg T.ok (show a = b from h).symm
  | no => exact h.elim
  | pk _ _ => exact h.elim
def LE {α β : Type} (f f' : α → T β) : Prop := ∀ x, T.le (f x) (f' x)
theorem LE.refl {α β : Type} {f : α → T β} : LE f f := fun x => T.le_refl _
section
variable {f f' g g' h h' : Ev → T D} {c c' d d' : Ev → T Bool} {a a' b b' : Ev → T (List D)} {F F' G G' : Ev → T Res} {o o' u u' : Ev → T (Option Int)} {m m' : Ev → T (List Sl)} {X X' : List D → T D}
theorem tif_le {α : Type} {k : Bool} {x y : T α} (e : T.le x y) : T.le (tIf k x) (tIf k y) := by cases k <;> first | exact e | trivial
theorem le_fBin {fo} (h1 : LE f f') (h2 : LE g g') : LE (fBin fo f g) (fBin fo f' g') := fun ρ => T.le_bind (fun _ => T.le_bind (fun _ => T.le_refl _) (h2 ρ)) (h1 ρ)
theorem le_fUn {fo} (h1 : LE f f') : LE (fUn fo f) (fUn fo f') := fun ρ => T.le_bind (fun _ => T.le_refl _) (h1 ρ)
theorem le_fTru (h1 : LE f f') : LE (fTru f) (fTru f') := fun ρ => T.le_bind (fun _ => T.le_refl _) (h1 ρ)
theorem le_fTb (h1 : LE f f') : LE (fTb f) (fTb f') := fun ρ => T.le_bind (fun _ => T.le_refl _) (h1 ρ)
theorem le_fAnd (h1 : LE c c') (h2 : LE d d') : LE (fAnd c d) (fAnd c' d') := fun ρ => T.le_bind (fun k => by cases k <;> first | exact h2 ρ | exact T.le_refl _) (h1 ρ)
theorem le_fOr (h1 : LE c c') (h2 : LE d d') : LE (fOr c d) (fOr c' d') := fun ρ => T.le_bind (fun k => by cases k <;> first | exact h2 ρ | exact T.le_refl _) (h1 ρ)
theorem le_fNot (h1 : LE c c') : LE (fNot c) (fNot c') := fun ρ => T.le_bind (fun _ => T.le_refl _) (h1 ρ)
theorem le_fAndV (h1 : LE f f') (h2 : LE g g') : LE (fAndV f g) (fAndV f' g') := fun ρ => T.le_bind (fun _ => T.le_bind (fun k => by cases k <;> first | exact h2 ρ | exact T.le_refl _) (T.le_refl _)) (h1 ρ)
theorem le_fOrV (h1 : LE f f') (h2 : LE g g') : LE (fOrV f g) (fOrV f' g') := fun ρ => T.le_bind (fun _ => T.le_bind (fun k => by cases k <;> first | exact h2 ρ | exact T.le_refl _) (T.le_refl _)) (h1 ρ)
theorem le_fNotV (h1 : LE f f') : LE (fNotV f) (fNotV f') := fun ρ => T.le_bind (fun _ => T.le_refl _) (h1 ρ)
theorem le_fIf (h0 : LE c c') (h1 : LE f f') (h2 : LE g g') : LE (fIf c f g) (fIf c' f' g') := fun ρ => T.le_bind (fun k => by cases k <;> first | exact h2 ρ | exact h1 ρ) (h0 ρ)
theorem le_fChain {fo fo'} (h1 : LE f f') (h2 : LE g g') (h3 : LE h h') : LE (fChain fo fo' f g h) (fChain fo fo' f' g' h') := fun ρ => T.le_bind (fun _ => T.le_bind (fun _ => T.le_bind (fun _ => T.le_bind (fun k => by
  cases k
  · exact T.le_refl _
  · exact T.le_bind (fun _ => T.le_refl _) (h3 ρ)) (T.le_refl _)) (T.le_refl _)) (h2 ρ)) (h1 ρ)
theorem le_fSo (h1 : LE f f') : LE (fSo f) (fSo f') := fun ρ => T.le_bind (fun _ => T.le_refl _) (h1 ρ)
theorem le_fSl (h1 : LE f f') (h2 : LE o o') (h3 : LE u u') : LE (fSl f o u) (fSl f' o' u') := fun ρ => T.le_bind (fun _ => T.le_bind (fun _ => T.le_bind (fun _ => T.le_refl _) (h3 ρ)) (h2 ρ)) (h1 ρ)
theorem le_fCons (h1 : LE f f') (h2 : LE a a') : LE (fCons f a) (fCons f' a') := fun ρ => T.le_bind (fun _ => T.le_bind (fun _ => T.le_refl _) (h2 ρ)) (h1 ρ)
theorem le_fTup (h1 : LE a a') : LE (fTup a) (fTup a') := fun ρ => T.le_bind (fun _ => T.le_refl _) (h1 ρ)
theorem le_fLst (h1 : LE a a') : LE (fLst a) (fLst a') := fun ρ => T.le_bind (fun _ => T.le_refl _) (h1 ρ)
theorem le_fFn {fo} (h1 : LE a a') : LE (fFn fo a) (fFn fo a') := fun ρ => T.le_bind (fun _ => T.le_refl _) (h1 ρ)
theorem le_fRgT (h1 : LE a a') : LE (fRgT a) (fRgT a') := fun ρ => T.le_bind (fun _ => T.le_refl _) (h1 ρ)
theorem le_fRgL (h1 : LE a a') : LE (fRgL a) (fRgL a') := fun ρ => T.le_bind (fun _ => T.le_refl _) (h1 ρ)
theorem le_fCall {n} (h0 : LE X X') (h1 : LE a a') : LE (fCall n X a) (fCall n X' a') := fun ρ => T.le_bind (fun ds => tif_le (h0 ds)) (h1 ρ)
theorem le_fCallB {n} (h0 : LE X X') (h1 : LE a a') : LE (fCallB n X a) (fCallB n X' a') := fun ρ => T.le_bind (fun ds => tif_le (T.le_bind (fun _ => T.le_refl _) (h0 ds))) (h1 ρ)
theorem le_fParts (h1 : LE f f') : LE (fParts f) (fParts f') := fun ρ => T.le_bind (fun _ => T.le_refl _) (h1 ρ)
theorem le_fRng1 (h1 : LE a a') : LE (fRng1 a) (fRng1 a') := fun ρ => T.le_bind (fun _ => T.le_refl _) (h1 ρ)
theorem le_fRng2 (h1 : LE a a') : LE (fRng2 a) (fRng2 a') := fun ρ => T.le_bind (fun _ => T.le_refl _) (h1 ρ)
theorem le_prs {ps ps' : List ((Ev → T D) × (Ev → T D))} (h1 : LE f f') (h2 : LE g g') (h3 : LE (fPrs ps) (fPrs ps')) : LE (fPrs ((f, g) :: ps)) (fPrs ((f', g') :: ps')) := fun ρ => T.le_bind (fun _ => T.le_bind (fun _ => T.le_bind (fun _ => T.le_refl _) (h3 ρ)) (h2 ρ)) (h1 ρ)
theorem le_fDisp {ps ps' : List ((Ev → T D) × (Ev → T D))} (h1 : LE (fPrs ps) (fPrs ps')) : LE (fDisp ps) (fDisp ps') := fun ρ => T.le_bind (fun _ => T.le_refl _) (h1 ρ)
theorem le_mapC {p : Pat} (h1 : LE c c') (h2 : LE f f') (ρ : Ev) : ∀ ds : List D, T.le (mapC p c f ρ ds) (mapC p c' f' ρ ds)
  | [] => T.le_refl _
  | d :: ds => T.le_bind (fun ρ1 => T.le_bind (fun k => by
      cases k
      · exact le_mapC h1 h2 ρ ds
      · exact T.le_bind (fun _ => T.le_bind (fun _ => T.le_refl _) (le_mapC h1 h2 ρ ds)) (h2 ρ1)) (h1 ρ1)) (T.le_refl _)
theorem le_fLc {vs p} (h0 : LE a a') (h1 : LE c c') (h2 : LE f f') : LE (fLc vs a p c f) (fLc vs a' p c' f') := fun ρ => T.le_bind (fun _ => tif_le (T.le_bind (fun _ => T.le_refl _) (le_mapC h1 h2 _ _))) (h0 ρ)
theorem le_fSeq (h1 : LE F F') (h2 : LE G G') : LE (fSeq F G) (fSeq F' G') := fun ρ => T.le_bind (fun r => by cases r <;> first | exact h2 _ | exact T.le_refl _) (h1 ρ)
theorem le_fRet (h1 : LE f f') : LE (fRet f) (fRet f') := fun ρ => T.le_bind (fun _ => T.le_refl _) (h1 ρ)
theorem le_fDrop (h1 : LE f f') : LE (fDrop f) (fDrop f') := fun ρ => T.le_bind (fun _ => T.le_refl _) (h1 ρ)
theorem le_fIfS (h0 : LE c c') (h1 : LE F F') (h2 : LE G G') : LE (fIfS c F G) (fIfS c' F' G') := fun ρ => T.le_bind (fun k => by cases k <;> first | exact h2 ρ | exact h1 ρ) (h0 ρ)
theorem le_fSet {i} (h1 : LE f f') : LE (fSet i f) (fSet i f') := fun ρ => T.le_bind (fun _ => T.le_refl _) (h1 ρ)
theorem le_fSetF {i} (h1 : LE f f') : LE (fSetF i f) (fSetF i f') := fun ρ => T.le_bind (fun _ => T.le_refl _) (h1 ρ)
theorem le_mSh (h1 : LE f f') (h2 : LE m m') : LE (mSh f m) (mSh f' m') := fun ρ => T.le_bind (fun _ => T.le_bind (fun _ => T.le_refl _) (h2 ρ)) (h1 ρ)
theorem le_mOw (h1 : LE f f') (h2 : LE m m') : LE (mOw f m) (mOw f' m') := fun ρ => T.le_bind (fun _ => T.le_bind (fun _ => T.le_refl _) (h2 ρ)) (h1 ρ)
theorem le_fParM {is} (h2 : LE m m') : LE (fParM is m) (fParM is m') := fun ρ => T.le_bind (fun _ => T.le_refl _) (h2 ρ)
theorem le_fAsg {p} (h1 : LE f f') : LE (fAsg f p) (fAsg f' p) := fun ρ => T.le_bind (fun _ => T.le_refl _) (h1 ρ)
theorem le_fDem {i} (h1 : LE F F') : LE (fDem i F) (fDem i F') := fun ρ => h1 _
theorem le_fMut {i mm} (h1 : LE f f') : LE (fMut i mm f) (fMut i mm f') := fun ρ => by
  unfold fMut
  cases ρ.at i <;> first | exact T.le_refl _ | exact T.le_bind (fun _ => T.le_refl _) (h1 ρ)
theorem le_fPut {i} (h1 : LE f f') (h2 : LE g g') : LE (fPut i f g) (fPut i f' g') := fun ρ => by
  unfold fPut
  cases ρ.at i <;> first | exact T.le_refl _ | exact T.le_bind (fun _ => T.le_bind (fun _ => T.le_refl _) (h1 ρ)) (h2 ρ)
theorem le_while (h0 : LE c c') (h1 : LE F F') : ∀ (n : Nat), LE (whileT c F n) (whileT c' F' n)
  | 0 => LE.refl
  | n + 1 => fun ρ => T.le_bind (fun k => by
      cases k
      · exact T.le_refl _
      · exact T.le_bind (fun r => by cases r <;> first | exact le_while h0 h1 n _ | exact T.le_refl _) (h1 ρ)) (h0 ρ)
theorem le_fWhile {n} (h0 : LE c c') (h1 : LE F F') : LE (fWhile n c F) (fWhile n c' F') := le_while h0 h1 n
theorem le_foldB {p} (h1 : LE F F') : ∀ (ds : List D) (ρ : Ev), T.le (foldB p F ds ρ) (foldB p F' ds ρ)
  | [], _ => T.le_refl _
  | d :: ds, ρ => T.le_bind (fun _ => T.le_bind (fun r => by cases r <;> first | exact le_foldB h1 ds _ | exact T.le_refl _) (h1 _)) (T.le_refl _)
theorem le_fFor {p} (h0 : LE a a') (h1 : LE F F') : LE (fFor a p F) (fFor a' p F') := fun ρ => T.le_bind (fun _ => le_foldB h1 _ _) (h0 ρ)
theorem le_defF {n} (h1 : LE F F') : LE (defF n F) (defF n F') := fun ds => T.le_bind (fun _ => T.le_refl _) (h1 _)
end
/-- a table of answers -/
def tabF : List (List D × D) → List D → T D
  | [], _ => .no
  | (a, v) :: r, ds => match D.beqs a ds with
    | true => .ok v
    | false => tabF r ds
theorem tab_nil {F : List D → T D} : LE (tabF []) F := fun _ => trivial
theorem tab_cons {F : List D → T D} {a : List D} {v : D} {r : List (List D × D)} (h : F a = .ok v) (hr : LE (tabF r) F) : LE (tabF ((a, v) :: r)) F := fun ds => by
  unfold tabF
  cases e : D.beqs a ds
  · exact hr ds
  · rw [← D.beqs_eq e, h]; exact rfl
end
end DL
namespace DL
noncomputable section
def tabOk (F : List D → T D) : List (List D × D) → Bool
  | [] => true
  | (a, v) :: r => match okB (F a) v with
    | true => tabOk F r
    | false => false
theorem tab_of {F : List D → T D} : ∀ {t : List (List D × D)}, tabOk F t = true → LE (tabF t) F
  | [], _ => tab_nil
  | (a, v) :: r, h => by
    unfold tabOk at h
    cases e : okB (F a) v
    · rw [e] at h; cases h
    · rw [e] at h; exact tab_cons (okB_eq e) (tab_of h)
/-- two tables in one: the first asked first -/
def alt (F G : List D → T D) : List D → T D := fun ds => match F ds with
  | .no => G ds
  | m => m
theorem le_alt {F G X : List D → T D} (h1 : LE F X) (h2 : LE G X) : LE (alt F G) X := fun ds => by
  unfold alt
  have q1 := h1 ds
  have q2 := h2 ds
  cases e : F ds with
  | no => exact q2
  | ok a => rw [e] at q1; exact q1
  | pk n k => rw [e] at q1; exact q1
def T.isPk {α : Type} (n : Int) : T α → Bool
  | .pk m _ => ieq n m
  | _ => false
def T.at {α : Type} : T α → Int → T α
  | .pk _ k, r => k r
  | _, _ => .no
theorem T.pk_of {α : Type} {n : Int} {Q : α → Prop} {m : T α} (h : T.isPk n m = true) (h2 : ∀ r : Int, 0 ≤ r → (r < n ∨ r = 0) → WP (T.at m r) Q) : WP m Q := by
  cases m with
  | pk n' k =>
    have e := ieq_iff.mp h
    subst e
    exact h2
  | ok _ => cases h
  | no => cases h
/-- .. each draw shown by itself -/
theorem T.pk_list {α : Type} {n : Nat} {Q : α → Prop} {m : T α} (h : T.isPk (n : Nat) m = true) (hn : 0 < n) (h2 : ∀ r : Nat, r < n → WP (T.at m (r : Nat)) Q) : WP m Q := T.pk_of h fun r h0 h1 => by
  have e : r = ((r.toNat : Nat) : Int) := by omega
  rw [e]
  exact h2 r.toNat (by omega)
end
end DL
namespace DL
noncomputable section
theorem T.le_trans {α : Type} : ∀ {a b c : T α}, T.le a b → T.le b c → T.le a c
  | .no, _, _, _, _ => trivial
  | .ok _, .ok _, .ok _, h1, h2 => (show _ = _ from h1).trans h2
  | .pk _ _, .pk _ _, .pk _ _, ⟨e, h⟩, ⟨e2, h2⟩ => ⟨e.trans e2, fun r => T.le_trans (h r) (h2 r)⟩
  | .ok _, .no, _, h, _ => h.elim
  | .ok _, .pk _ _, _, h, _ => h.elim
  | .pk _ _, .no, _, h, _ => h.elim
  | .pk _ _, .ok _, _, h, _ => h.elim
  | .ok _, .ok _, .no, _, h => h.elim
  | .ok _, .ok _, .pk _ _, _, h => h.elim
  | .pk _ _, .pk _ _, .no, _, h => h.elim
  | .pk _ _, .pk _ _, .ok _, _, h => h.elim
theorem T.le_at {α : Type} {m m' : T α} (h : T.le m m') (r : Int) : T.le (T.at m r) (T.at m' r) := by
  cases m with
  | no => exact trivial
  | ok a => exact trivial
  | pk n k =>
    cases m' with
    | pk n' k' => exact h.2 r
    | ok _ => exact h.elim
    | no => exact h.elim
theorem lawOk_wp {n i : Nat} {F : Ev → T Res} (h : WP (F (Ev.put (List.replicate n Sl.non) i (.sh .src))) fun r => isT r = true) : LawOk n i F := h.mono fun r h => by
  cases r with
  | nx _ => cases h
  | rt d =>
    cases d <;> first | (cases h; done) | skip
    rename_i b
    have hb : b = true := h
    subst hb
    trivial
end
end DL
namespace DL
theorem law_glue {F G : Ev → T Res} {ρ : Ev} {r : Int} (h : LE G F) (c : T.chk isT (T.at (G ρ) r) = true) : WP (T.at (F ρ) r) (fun x => isT x = true) := T.le_wp (T.le_at (h ρ) r) (T.chk_w c)
end DL

set_option Elab.async false
set_option linter.all false
set_option maxRecDepth 100000
namespace DL
noncomputable section
open PySem PySem.Spec PyProof.Rows L2

/-! ### x[::-1] -/
theorem adj_back (n : Nat) : Builtin.Slice.sliceAdjust none none (-1) (n : Int) = ((n : Int) - 1, -1) := by
  unfold Builtin.Slice.sliceAdjust
  simp
theorem places_back (n : Nat) : Builtin.Slice.slicePlaces ((n : Int) - 1) (-1) (-1) = n := by
  unfold Builtin.Slice.slicePlaces
  have h1 : ¬ (-1 : Int) > 0 := by decide
  simp only [h1, if_false]
  split
  · have e : ((n : Int) - 1 - -1 - 1) / - -1 + 1 = (n : Int) := by
      rw [show (- -1 : Int) = 1 from rfl, Int.ediv_one]; omega
    rw [e]; omega
  · omega
theorem fm_congr {α β : Type} {f g : α → Option β} : ∀ {l : List α}, (∀ x ∈ l, f x = g x) → l.filterMap f = l.filterMap g
  | [], _ => rfl
  | x :: r, h => by
    rw [List.filterMap_cons, List.filterMap_cons, h x List.mem_cons_self, fm_congr fun y hy => h y (List.mem_cons_of_mem _ hy)]
theorem pick_back (xs : Array Value) : ((List.range xs.size).filterMap fun (m : Nat) => xs[(((xs.size : Nat) : Int) - 1 + (m : Int) * -1).toNat]?).toArray = xs.toList.reverse.toArray := by
  have h := PySem.W.krv_pick xs
  unfold slicePick at h
  rw [PySem.W.krv_bounds] at h
  dsimp only at h
  rw [PySem.W.krv_sliceRange, List.filterMap_map] at h
  rw [← h]
  congr 1
  refine fm_congr fun m hm => ?_
  have := List.mem_range.mp hm
  show xs[_]? = xs[xs.size - 1 - m]?
  congr 1
  omega
section
variable {prog : Program} {w : World} {A : Around} {E : Value → Shared → Prop} {s : Shared}
theorem applied_back {sl : Addr} {vs : Value} {n : Nat} {Q : Int × Int × Nat → Shared → Prop} (hs : s.heap.IsSliceOf sl .none .none vs) (ps : IsPart vs (some (-1)))
    (h : Q ((n : Int) - 1, -1, n) s) : wpAny (model prog w) A (Builtin.Slice.sliceApplied (.ref sl) (pure (n : Int))) Q E s := by
  obtain ⟨os, hos, hcs, hds⟩ := id hs
  unfold Builtin.Slice.sliceApplied Builtin.Slice.sliceFields
  refine wpAny_bind (wpAny_bind (wpAny_field hos hds (x := .none) rfl (wpAny_bind (wpAny_field hos hds (x := .none) rfl (wpAny_bind (wpAny_field hos hds (x := vs) rfl (wpAny_pure ?_)))))))
  refine wpAny_bind (HT.slicePart_ ps ?_)
  show wpAny _ _ (if ((-1 : Int) == 0) = true then _ else _) _ _ s
  rw [if_neg (by decide)]
  refine wpAny_bind (HT.slicePart_ .none (wpAny_bind (HT.slicePart_ .none (wpAny_bind (wpAny_pure ?_)))))
  show wpAny _ _ (match Builtin.Slice.sliceAdjust none none (-1) (n : Int) with | (lo, hi) => pure (lo, (-1 : Int), Builtin.Slice.slicePlaces lo hi (-1))) _ _ s
  rw [adj_back n]
  show wpAny _ _ (pure ((n : Int) - 1, (-1 : Int), Builtin.Slice.slicePlaces ((n : Int) - 1) (-1) (-1))) _ _ s
  rw [places_back]
  exact wpAny_pure h
theorem tuple_back {t sl : Addr} {items : Array Value} {vs : Value} {Q : Value → Shared → Prop} (ht : IsTup s.heap t items) (hs : s.heap.IsSliceOf sl .none .none vs) (ps : IsPart vs (some (-1)))
    (h : Q (.ref s.heap.objs.size) { s with heap := s.heap.push { cls := .type "tuple", data := .seq items.toList.reverse.toArray } })
    (hsz : items.size ≤ sizeLine) : wpAny (model prog w) A (getItem (.ref t) (.ref sl)) Q E s := by
  have hsize : sizeOk (.seq items.toList.reverse.toArray) := by
    show items.toList.reverse.toArray.size ≤ sizeLine
    rw [List.size_toArray, List.length_reverse, Array.length_toList]
    exact hsz
  obtain ⟨os, hos, hcs, hds⟩ := id hs
  have hTs : s.TypeIs (.ref sl) "slice" := ⟨os, hos, hcs⟩
  unfold getItem
  try with_reducible refine wpAny_holding ?_
  first | refine wpAny_bind (wpAny_pure ?_) | skip
  refine wpAny_bind (wpAny_sequenceKey ht.typeIs (by decide) ?_)
  refine wpAny_bind (wpAny_callSpecial?_slot (name := Str.ofString "__getitem__") ht.typeIs PyProof.Rows.slot_tuple_getitem
    (wpAny_call_entry PyProof.Rows.slot_tuple_getitem ht.typeIs PyProof.Rows.entry_tuple_getitem ?_ (PyProof.Rows.args_tuple_getitem _ _)))
  show wpAny _ _ (Builtin.Tuple.tupleItemsOf (.ref t) >>= _) _ _ s
  refine wpAny_bind (tupleItemsOf_ ht ?_)
  refine wpAny_bind (wpAny_typeOf hTs ?_)
  rw [if_pos (by decide)]
  refine wpAny_bind (applied_back hs ps ?_)
  have hno : ¬ ((((items.size : Nat) : Int) - 1 == 0 && (-1 : Int) == 1 && items.size == items.size) = true) := by
    rw [show ((-1 : Int) == 1) = false from rfl, Bool.and_false, Bool.false_and]
    exact Bool.false_ne_true
  show wpAny _ _ (if (((items.size : Nat) : Int) - 1 == 0 && (-1 : Int) == 1 && items.size == items.size) = true then _ else _) _ _ s
  rw [if_neg hno, pick_back]
  first
    | exact wpAny_bind (m := Builtin.Tuple.tupleExact _) (wpAny_newObj_type (wpAny_pure ⟨_, rfl, wpAny_pure h⟩) hsize)
    | exact wpAny_bind (m := Builtin.Tuple.tupleExact _) (wpAny_newObj_type (wpAny_bind (wpAny_pure (wpAny_pure ⟨_, rfl, wpAny_pure h⟩))) hsize)
    | exact wpAny_bind (wpAny_bind (m := Builtin.Tuple.tupleExact _) (wpAny_newObj_type (wpAny_pure (wpAny_pure ⟨_, rfl, wpAny_pure h⟩)) hsize))
    | exact wpAny_bind (wpAny_bind (m := Builtin.Tuple.tupleExact _) (wpAny_newObj_type (wpAny_pure ⟨_, rfl, wpAny_pure h⟩) hsize))
end
/-- what x[::-1] is, of a list, of a tuple -/
def tBack (K : PySem.W.Frag) (te : TE) : TE := fun σ H Q => te σ H fun x H1 => ∃ a xs, x = .ref a ∧ ((SqL K H1 a xs ∧ ∀ p, H1 p = none → Q (.ref p) (upd H1 p (.lst xs.reverse))) ∨ (SqT K H1 a xs ∧ ∀ p, H1 p = none → Q (.ref p) (upd H1 p (.tup xs.reverse))))
theorem pe_back {X : Cx} {e : Expr} {te : TE} {k : Nat} {p1 p2 p3 pos : Pos} (he : PE X e te) : PE X (.Subscript e (.Slice none none (some (.UnaryOp .USub (.Constant (.int 1) k p1) p2)) p3) pos) (tBack X.K te) := by
  refine ⟨fun pins s σ H Q I h => ?_⟩
  refine Subscript_ (thn (he.run pins s σ H _ I h) fun v s1 ⟨x, H1, I1, r1, q1⟩ => ?_)
  obtain ⟨a, xs, ex, hx⟩ := q1
  subst ex
  cases r1
  have hst : PO X (some (.UnaryOp .USub (.Constant (.int 1) k p1) p2)) (tPart (tUn (rU fun i => .int (-i)) (tC (.int 1)))) := po_some (pe_un un_neg pe_int)
  refine wpAny_Slice ?_
  rw [evalPart_none]
  refine wpAny_pure (wpAny_pure ?_)
  refine thn (hst.run pins s1 σ H1 (fun o H4 => o = some (-1) ∧ H4 = H1) I1 ⟨1, rfl, -1, rfl, rfl, rfl⟩) fun vs s4 ⟨o, H4, I4, ps, eo, e4⟩ => ?_
  subst eo e4
  have I5 : Inv X pins σ H4 { s4 with heap := s4.heap.push { cls := .type "slice", data := .fields #[.none, .none, vs] } } := I4.kept (t' := s4.toks) fun b ob q => Heap.get?_push_of_some _ q
  show wpAny (model X.prog X.w) X.A (subscriptTail e (.Slice none none (some (.UnaryOp .USub (.Constant (.int 1) k p1) p2)) p3) (.ref a) (.ref s4.heap.objs.size)) (EP X pins σ Q) X.xe { s4 with heap := s4.heap.push { cls := .type "slice", data := .fields #[.none, .none, vs] } }
  rcases hx with ⟨hx, q⟩ | ⟨hx, q⟩
  · obtain ⟨its, r, ht, hz⟩ := I5.list hx
    have hlen := r.length
    refine tail_any (ops := [.ref a, .ref s4.heap.objs.size]) ht.isList.typeIs (PySem.slot_list_getitem.lookup) ?_ (by with_unfolding_all rfl)
    refine wpAny_getItem_list_slice ht.isList (Heap.IsSliceOf.new _ .none .none vs) .none .none ps (by decide) ?_ (by rw [List.size_toArray]; omega)
    rw [PySem.W.krv_pick]
    refine ⟨.ref _, _, I5.laid (t' := s4.toks) (o := .lst xs.reverse) (fun b ob q => Heap.get?_push_of_some _ q) (Nat.le_refl _) ?_, rfl, q _ (I5.hok.fresh (Nat.le_refl _))⟩
    exact ⟨by rw [List.length_reverse]; exact hz, _, 0, r.reverse, Heap.get?_push_size _ rfl⟩
  · obtain ⟨its, r, ht, hz⟩ := I5.tuple hx
    have hlen := r.length
    refine tail_any (ops := [.ref a, .ref s4.heap.objs.size]) ht.typeIs PyProof.Rows.slot_tuple_getitem.lookup ?_ (by with_unfolding_all rfl)
    refine tuple_back ht (Heap.IsSliceOf.new _ .none .none vs) ps ?_ (by rw [List.size_toArray]; omega)
    refine ⟨.ref _, _, I5.laid (t' := s4.toks) (o := .tup xs.reverse) (fun b ob q => Heap.get?_push_of_some _ q) (Nat.le_refl _) ?_, rfl, q _ (I5.hok.fresh (Nat.le_refl _))⟩
    exact ⟨by rw [List.length_reverse]; exact hz, _, r.reverse, IsTup.new _ _⟩
def dRev : D → T D
  | .lst ds => .ok (.lst ds.reverse)
  | .tup ds => .ok (.tup ds.reverse)
  | _ => .no
section
variable {X : Cx} {e : Expr} {f : Ev → T D} {k : Nat} {p1 p2 p3 pos : Pos}
theorem dback (he : PE X e (tB f)) : PE X (.Subscript e (.Slice none none (some (.UnaryOp .USub (.Constant (.int 1) k p1) p2)) p3) pos) (tD (fUn dRev f)) := PE.imp (pe_back he) fun σ H Q ⟨z, P, O, ρ, R, w⟩ => ⟨z, P, O, ρ, R, (WP.bind w).mono fun d w2 x H1 g1 s1 r1 => by
  have W := (R.grow g1 s1).ws
  cases d <;> first | exact (show False from w2).elim | skip
  · obtain ⟨a, vs, e, vw, hp, rr⟩ := r1.tup
    exact ⟨a, vs, e, .inr ⟨SqT.of hp, fun p hp => KD.tup W (fun v H2 g2 => WP.ok w2 v H2 (g1.trans g2)) rr.reverse p hp⟩⟩
  · obtain ⟨a, vs, e, hp, rr⟩ := r1.lst
    exact ⟨a, vs, e, .inl ⟨SqL.of hp, fun p hp => KD.lst W (fun v H2 g2 => WP.ok w2 v H2 (g1.trans g2)) rr.reverse p hp⟩⟩⟩
end
end
end DL

set_option Elab.async false
set_option linter.all false
set_option maxRecDepth 100000
namespace DL
noncomputable section
open PySem PySem.Spec PyProof.Rows L2

/-! ### a list or a tuple, and its iterator -/
def sqO : Bool → List V → HO
  | false, xs => .lst xs
  | true, xs => .tup xs
def itAt (tup : Bool) (h : Heap) (it a : Addr) (i : Nat) : Prop := match tup with
  | false => h.IsListIter it a i
  | true => h.IsTupleIter it a i
def sqAt (tup : Bool) (h : Heap) (a : Addr) (items : Array Value) : Prop := match tup with
  | false => h.IsList a items
  | true => h.IsTuple a items
def itO (tup : Bool) (a : Addr) : Obj := match tup with
  | false => { cls := .type "list_iterator", data := .fields #[.ref a, .int 0 0] }
  | true => { cls := .type "tuple_iterator", data := .fields #[.ref a, .int 0 0] }
theorem drw {prog : Program} {w : World} {A : Around} (hh : A.handled = none) (tup : Bool) (it a : Addr) (hne : a ≠ it) (items : Array Value) :
    Draws prog w A it [it, a] items.size (fun i v => items[i]? = some v) (fun i h => itAt tup h it a i ∧ sqAt tup h a items) := by
  cases tup
  · exact Draws.list hh it a hne items
  · exact Draws.tuple hh it a hne items
theorem bgn (tup : Bool) (a : Addr) (items : Array Value) : Begins (.ref a) (itO tup a) fun h => sqAt tup h a items := by
  cases tup
  · exact begins_list a items
  · exact begins_tuple a items
theorem itAt.obj {tup : Bool} {h : Heap} {it a : Addr} {i : Nat} (q : itAt tup h it a i) : ∃ o, h.get? it = some o ∧ ∀ v, o.data ≠ .cell v := by
  cases tup
  · obtain ⟨o, ho, hc, hd⟩ := q
    exact ⟨o, ho, fun v q => by rw [hd] at q; cases q⟩
  · obtain ⟨o, ho, hc, hd⟩ := q
    exact ⟨o, ho, fun v q => by rw [hd] at q; cases q⟩
theorem itAt.at_ {tup : Bool} {h h' : Heap} {it a : Addr} {i : Nat} (q : itAt tup h it a i) (k : ∀ o, h.get? it = some o → h'.get? it = some o) : itAt tup h' it a i := by
  cases tup
  · obtain ⟨o, ho, hc, hd⟩ := q
    exact ⟨o, k o ho, hc, hd⟩
  · obtain ⟨o, ho, hc, hd⟩ := q
    exact ⟨o, k o ho, hc, hd⟩
theorem itAt.start {tup : Bool} {h : Heap} {it a : Addr} (e : h.get? it = some (itO tup a)) : itAt tup h it a 0 := by
  cases tup
  · exact ⟨_, e, rfl, rfl⟩
  · exact ⟨_, e, rfl, rfl⟩
section
variable {X : Cx} {pins : List (Addr × Obj)} {σ : L2.St} {H : Hp} {s : Shared} {a : Addr} {xs : List V} {tup : Bool}
theorem seq_of (I : L2.Inv X pins σ H s) (e : H a = some (sqO tup xs)) : ∃ its : List Value, Vals xs its ∧ sqAt tup s.heap a its.toArray := by
  cases tup
  · obtain ⟨its, r, p, _⟩ := I.list (SqL.of e)
    exact ⟨its, r, p.isList⟩
  · obtain ⟨its, r, p, _⟩ := I.tuple (SqT.of e)
    exact ⟨its, r, p⟩
end
theorem sqO_inj {t : Bool} {xs ys : List V} (h : sqO t xs = sqO t ys) : xs = ys := by
  cases t <;> (cases h; rfl)

/-! ### enumerate -/
def Jen (tup : Bool) (a : Addr) (k0 : Int) : It :=
  ⟨fun i H => ∃ xs, H a = some (sqO tup xs) ∧ i < xs.length, fun i H v H' => ∃ T' x, v = .ref T' ∧ H T' = none ∧ H' = upd H T' (.tup [.int (k0 + (i : Nat)), x]) ∧ ∀ xs, H a = some (sqO tup xs) → xs[i]? = some x, fun i H => ∃ xs, H a = some (sqO tup xs) ∧ i = xs.length⟩
theorem turn_en {P : Program} {w : World} {K : PySem.W.Frag} {elts : List Expr} {kk : Nat} {tpos : Pos} (tup : Bool) (a e it : Addr) (k0 : Int) :
    Turn P w K (.Tuple elts kk tpos) (Jen tup a k0) [e, it] e (fun i h => (∃ old, IsEnum h e it (k0 + (i : Nat)) old) ∧ itAt tup h it a i ∧ e ≠ it) where
  mem := by simp
  obj := fun i h st b hb => by
    obtain ⟨⟨old, he⟩, hi, _⟩ := st
    have e' : b = e ∨ b = it := by simpa using hb
    rcases e' with z | z
    · rw [z]; exact ⟨_, he, fun v q => nomatch q⟩
    · rw [z]; exact hi.obj
  keep := fun i h h' st k => let ⟨⟨old, he⟩, hi, hne⟩ := st; ⟨⟨old, k e (by simp) _ he⟩, hi.at_ fun o q => k it (by simp) o q, hne⟩
  item := by
    intro X hP hw hK hc i pins s σ H E I hf st hg
    subst hP hw hK
    obtain ⟨⟨old, he⟩, hit, hne⟩ := st
    obtain ⟨xs, hq, hx⟩ := hg
    obtain ⟨its, rv, p⟩ := seq_of I hq
    have hin : H it = none := (hf it (by simp)).1
    have hen : H e = none := (hf e (by simp)).1
    have hai : a ≠ it := fun z => by rw [z, hin] at hq; cases hq
    have hae : e ≠ a := fun z => by rw [← z, hen] at hq; cases hq
    have hel : e < s.heap.objs.size := Heap.lt_size he
    have hil : it < s.heap.objs.size := by obtain ⟨_, q, _⟩ := hit.obj; exact Heap.lt_size q
    have hsz : i < its.toArray.size := by rw [List.size_toArray, ← rv.length]; exact hx
    refine wpAny_pyNext_enum_itemC (drw (A := X.A.in1) (I.ok.hd hc) tup it a hai its.toArray) he ⟨hit, p⟩ hsz hne (by simp [hne, hae]) fun u h' tk hu ho hst' hT hsz' hk => ?_
    obtain ⟨x, hxv⟩ : ∃ x, xs[i]? = some x := ⟨_, List.getElem?_eq_getElem hx⟩
    obtain ⟨u', hu', ru⟩ := rv.get hxv
    have eu : u = u' := by
      have q : its.toArray[i]? = some u := hu
      rw [List.getElem?_toArray] at q
      exact Option.some.inj (q.symm.trans hu')
    subst eu
    refine ⟨_, rfl, wpAny_letOwnedTupleGo_enum (s := { s with heap := h', toks := tk + 1 }) ho fun h'' he' sb => ?_⟩
    have hT2 : h''.get? s.heap.objs.size = some { cls := .type "tuple", data := .seq #[.int (k0 + (i : Nat)) tk, u] } := (sb.2 _ (Nat.ne_of_gt hel)).trans hT
    have new : ObjOk X.prog X.w (upd H s.heap.objs.size (.tup [.int (k0 + (i : Nat)), x])) h'' s.heap.objs.size (.tup [.int (k0 + (i : Nat)), x]) :=
      ⟨by show 2 ≤ sizeLine; decide, [.int (k0 + (i : Nat)) tk, u], .cons ⟨_, rfl⟩ (.cons ru .nil), ⟨_, hT2, rfl, _, rfl⟩⟩
    have I1 : L2.Inv X pins σ (upd H s.heap.objs.size (.tup [.int (k0 + (i : Nat)), x])) { s with heap := h'', toks := tk + 1 } :=
      I.turnedNew (ch := [e, it]) (fun b ob hb q => (sb.2 b (fun z => hb (by simp [z]))).trans (hk b ob (fun z => hb (by simp [z])) (fun z => hb (by simp [z])) q)) hf (Nat.le_refl _) new
    refine ⟨.ref s.heap.objs.size, _, I1, rfl, ⟨_, x, rfl, I.hok.fresh (Nat.le_refl _), rfl, fun ys hy => ?_⟩, ⟨⟨u, ?_⟩, hst'.1.at_ fun o q => (sb.2 it (Ne.symm hne)).trans q, hne⟩, fun b hb => ?_⟩
    · have e2 : sqO tup ys = sqO tup xs := Option.some.inj (hy.symm.trans hq)
      rw [sqO_inj e2]; exact hxv
    · have e1 : k0 + ((i + 1 : Nat) : Int) = k0 + (i : Int) + 1 := by omega
      rw [e1]; exact he'
    · have hb' : b < s.heap.objs.size := by
        have e' : b = e ∨ b = it := by simpa using hb
        rcases e' with z | z
        · rw [z]; exact hel
        · rw [z]; exact hil
      rw [upd_ne (Nat.ne_of_lt hb')]
      exact (hf b hb).1
  done := by
    intro X hP hw hK hc i pins s σ H E I hf st hg
    subst hP hw hK
    obtain ⟨⟨old, he⟩, hit, hne⟩ := st
    obtain ⟨xs, hq, hx⟩ := hg
    obtain ⟨its, rv, p⟩ := seq_of I hq
    have hin : H it = none := (hf it (by simp)).1
    have hai : a ≠ it := fun z => by rw [z, hin] at hq; cases hq
    obtain ⟨f0, f1, f2, f3, f4, f5⟩ := hf it (by simp)
    have hsz : i = its.toArray.size := by rw [List.size_toArray, ← rv.length]; exact hx
    subst hsz
    exact wpAny_pyNext_enum_endD (drw (A := X.A.in1) (I.ok.hd hc) tup it a hai its.toArray) he ⟨hit, p⟩ fun h' eb => ⟨rfl, I.turned (t' := s.toks) (fun b o hb q => eb b o hb q) f0 f1 f3 f4 f5⟩
  self := fun A i s Q E st h => let ⟨⟨_, he⟩, _⟩ := st; wpAny_pyIter_enum he h
def iEn (ta : TA) (k0 : List V → Option (V × Int)) : TI := fun σ H R => ta σ H fun vs H1 => ∃ a k xs tup, k0 vs = some (.ref a, k) ∧ H1 a = some (sqO tup xs) ∧ R (Jen tup a k) H1
def en1 : List V → Option (V × Int)
  | [v] => some (v, 0)
  | _ => none
def en2 : List V → Option (V × Int)
  | [v, .int k] => if -(2 ^ 63) ≤ k ∧ k < 2 ^ 63 then some (v, k) else none
  | _ => none
theorem pi_en2 {X : Cx} {e e2 : Expr} {ta : TA} {p pos tpos : Pos} {elts : List Expr} {kk : Nat} (hg : Gl X "enumerate") (hm : X.mg "enumerate" = none) (ha : PA X [e, e2] ta)
    (hs : starEach [e, e2] X.env = (false, eval e X.env) :: starEach [e2] X.env := by rfl) (hpl : (backTo pos (starEach [e2] X.env)).any (·.1) = false := by rfl) :
    PI X (.Tuple elts kk tpos) (.Call (.Name "enumerate" p) [e, e2] [] pos) (iEn ta en2) := by
  refine ⟨fun pins s σ H R I h => ?_⟩
  refine Call_ (ld_blt I hg hm boot_enumerate (PyProof.Rows.callWith_type1 (thn (ha.run pos pins s σ H _ I h) fun us s1 ⟨vs, H1, I1, r1, q1⟩ => ?_) hs hpl))
  obtain ⟨a, k, xs, tup, ex, hq, q⟩ := q1
  unfold en2 at ex
  split at ex
  · rename_i v k'
    split at ex
    · rename_i hb
      have e1 : v = .ref a := (Prod.mk.inj (Option.some.inj ex)).1
      have e2 : k' = k := (Prod.mk.inj (Option.some.inj ex)).2
      subst e1 e2
      obtain ⟨u1, u2, rfl, r, rk⟩ := Vals.two r1
      cases r
      obtain ⟨t, rfl⟩ := rk
      obtain ⟨its, rv, p'⟩ := seq_of I1 hq
      refine enum_begins (bgn tup a its.toArray) p' hb.1 hb.2 fun h' he hit hsz hk => wpAny_pyIter_enum he ?_
      have I2 : L2.Inv X pins σ H1 { s1 with heap := h' } := I1.kept (t' := s1.toks) hk
      refine ⟨s1.heap.objs.size + 1, [s1.heap.objs.size + 1, s1.heap.objs.size], _, _, H1, rfl, I2, turn_en tup a (s1.heap.objs.size + 1) s1.heap.objs.size k', ⟨⟨.none, by rw [show k' + ((0 : Nat) : Int) = k' by omega]; exact he⟩, itAt.start hit, Nat.succ_ne_self _⟩, fun b hb => ?_, q⟩
      have e' : b = s1.heap.objs.size + 1 ∨ b = s1.heap.objs.size := by simpa using hb
      have hle : s1.heap.objs.size ≤ b := by
        rcases e' with z | z
        · rw [z]; exact Nat.le_add_right _ _
        · rw [z]; exact Nat.le_refl _
      exact I1.fpOk hle (I1.hok.fresh hle)
    · cases ex
  · cases ex
end
end DL

set_option Elab.async false
set_option linter.all false
set_option maxRecDepth 100000
namespace DL
noncomputable section
open PySem PySem.Spec PyProof.Rows L2

section
set_option maxHeartbeats 1000000
theorem meets_en1 {v : Value} {o : Obj} {H : Heap → Prop} (B : Begins v o H) :
    Meets (Builtin.«enumerate.__new__» ⟨[.type "enumerate", v], []⟩) (fun _ R s => H s.heap ∧
      R (.ok (.ret (.ref (s.heap.push o).objs.size))) { s with heap := (s.heap.push o).push { cls := .type "enumerate", data := .fields #[.none, .bool false, .ref s.heap.objs.size, rawInt 0, .none, .none] } }) :=
  .of_wp fun prog w A R s h => by
    obtain ⟨hp, g, d, tk, os⟩ := s; obtain ⟨h1, h⟩ := h
    have hsub := sub_enumerate
    have q1 : ∀ {A' : Around} {E : Value → Shared → Prop} {Q : Value → Shared → Prop}, Q (.ref hp.objs.size) ⟨hp.push o, g, d, tk, os⟩ → wpAny (model prog w) A' (pyIter v) Q E ⟨hp, g, d, tk, os⟩ :=
      fun q => B.iter prog w _ _ ⟨hp, g, d, tk, os⟩ _ h1 q
    wp_walk using q1
    refine wpAny_stack_any fun st => wpAny_pure ?_
    split
    · rename_i c _ _ _ _ _
      cases (c == Value.type "enumerate")
      · wp_walk using q1
        exact ⟨_, rfl, h⟩
      · wp_walk using q1
        exact ⟨_, rfl, h⟩
    · wp_walk using q1
      exact ⟨_, rfl, h⟩
end
section
variable {prog : Program} {w : World} {A : Around} {E : Value → Shared → Prop} {s : Shared}
theorem en1_begins {v : Value} {o : Obj} {H : Heap → Prop} {Q : Value → Shared → Prop} (B : Begins v o H) (h1 : H s.heap)
    (h : ∀ h', IsEnum h' (s.heap.objs.size + 1) s.heap.objs.size 0 .none → h'.get? s.heap.objs.size = some o →
      (∀ b o, s.heap.get? b = some o → h'.get? b = some o) → Q (.ref (s.heap.objs.size + 1)) { s with heap := h' }) :
    wpAny (model prog w) A (call (.type "enumerate") [v]) Q E s := by
  refine callType_new F.called_enumerate (by decide) (F.typeCall_enumerate_1 _) (F.newCall_enumerate_1 _) (fun obj => F.args_object_init_2 obj _) F.entry_enumerate_new
    (meets_en1 B) ⟨h1, ?_⟩
  have hz : (s.heap.push o).objs.size = s.heap.objs.size + 1 := Heap.size_push ..
  show _ ∧ _
  rw [hz]
  have he : IsEnum ((s.heap.push o).push { cls := .type "enumerate", data := .fields #[.none, .bool false, .ref s.heap.objs.size, rawInt 0, .none, .none] }) (s.heap.objs.size + 1) s.heap.objs.size 0 .none := by
    have := Heap.get?_push_size (s.heap.push o) (o := { cls := .type "enumerate", data := .fields #[.none, .bool false, .ref s.heap.objs.size, rawInt 0, .none, .none] }) rfl
    rw [hz] at this; exact this
  exact ⟨⟨_, he, rfl⟩, h _ he (Heap.get?_push_of_some _ (Heap.get?_push_size _ B.free)) fun b o x => Heap.get?_push_of_some _ (Heap.get?_push_of_some _ x)⟩
end
theorem pi_en1 {X : Cx} {e : Expr} {ta : TA} {p pos tpos : Pos} {elts : List Expr} {kk : Nat} (hg : Gl X "enumerate") (hm : X.mg "enumerate" = none) (ha : PA X [e] ta) (hs : starEach [e] X.env = [(false, eval e X.env)] := by rfl) :
    PI X (.Tuple elts kk tpos) (.Call (.Name "enumerate" p) [e] [] pos) (iEn ta en1) := by
  refine ⟨fun pins s σ H R I h => ?_⟩
  refine Call_ (ld_blt I hg hm boot_enumerate (PyProof.Rows.callWith_type1 (thn (ha.run pos pins s σ H _ I h) fun us s1 ⟨vs, H1, I1, r1, q1⟩ => ?_) hs rfl))
  obtain ⟨a, k, xs, tup, ex, hq, q⟩ := q1
  unfold en1 at ex
  split at ex
  · rename_i v
    have e1 : v = .ref a := (Prod.mk.inj (Option.some.inj ex)).1
    have e2 : (0 : Int) = k := (Prod.mk.inj (Option.some.inj ex)).2
    subst e1 e2
    obtain ⟨u1, rfl, r⟩ := Vals.one r1
    cases r
    obtain ⟨its, rv, p'⟩ := seq_of I1 hq
    refine en1_begins (bgn tup a its.toArray) p' fun h' he hit hk => wpAny_pyIter_enum he ?_
    have I2 : L2.Inv X pins σ H1 { s1 with heap := h' } := I1.kept (t' := s1.toks) hk
    refine ⟨s1.heap.objs.size + 1, [s1.heap.objs.size + 1, s1.heap.objs.size], _, _, H1, rfl, I2, turn_en tup a (s1.heap.objs.size + 1) s1.heap.objs.size 0, ⟨⟨.none, he⟩, itAt.start hit, Nat.succ_ne_self _⟩, fun b hb => ?_, q⟩
    have e' : b = s1.heap.objs.size + 1 ∨ b = s1.heap.objs.size := by simpa using hb
    have hle : s1.heap.objs.size ≤ b := by
      rcases e' with z | z
      · rw [z]; exact Nat.le_add_right _ _
      · rw [z]; exact Nat.le_refl _
    exact I1.fpOk hle (I1.hok.fresh hle)
  · cases ex

/-! ### enumerate by data -/
def enD (k : Int) : List D → List D
  | [] => []
  | d :: r => .tup [.int k, d] :: enD (k + 1) r
theorem enD_len : ∀ (ds : List D) (k : Int), (enD k ds).length = ds.length
  | [], _ => rfl
  | _ :: r, k => congrArg (· + 1) (enD_len r (k + 1))
theorem enD_get : ∀ (ds : List D) (k : Int) (i : Nat) (d : D), ds[i]? = some d → (enD k ds)[i]? = some (.tup [.int (k + (i : Nat)), d])
  | [], _, i, d, h => by simp at h
  | x :: r, k, 0, d, h => by cases h; show some (D.tup [.int k, x]) = _; rw [show k + ((0 : Nat) : Int) = k by omega]
  | x :: r, k, i + 1, d, h => by
    show (enD (k + 1) r)[i]? = _
    rw [enD_get r (k + 1) i d h, show k + 1 + (i : Int) = k + ((i + 1 : Nat) : Int) by omega]
def enO : List D → T (List D)
  | [d] => match partsOf d with
    | some ds => .ok (enD 0 ds)
    | none => .no
  | [d, .int k] => tIf (i62 k) (match partsOf d with
    | some ds => .ok (enD k ds)
    | none => .no)
  | _ => .no
def fEn (g : Ev → T (List D)) : Ev → T (List D) := fun ρ => (g ρ).bind enO
section
variable {z : Zr} {P O : Addr → Prop} {H : Hp} {d : D} {v : V} {ds : List D}
theorem parts_sq (h : partsOf d = some ds) (r : Rep (sa z) (Vw z P O H) d v) : ∃ a vs tup, v = .ref a ∧ Vw z P O H a (sqO tup vs) ∧ H a = some (sqO tup vs) ∧ Reps (sa z) (Vw z P O H) ds vs := by
  cases d <;> first | (cases h; done) | skip
  · cases h
    obtain ⟨a, vs, e, vw, rr⟩ := r
    exact ⟨a, vs, true, e, vw, vw.2.2.2.tup, rr⟩
  · cases h
    obtain ⟨a, vs, e, vw, rr⟩ := r
    exact ⟨a, vs, false, e, vw, vw.2.2.2.lst, rr⟩
theorem parts_sqB (h : partsOf d = some ds) (r : RepB z P O H d v) : ∃ a vs tup, v = .ref a ∧ ¬ inS z a ∧ H a = some (sqO tup vs) ∧ Reps (sa z) (Vw z P O H) ds vs := by
  cases d <;> first | (cases h; done) | skip
  · cases h
    obtain ⟨a, vs, e, vw, ha, rr⟩ := r.tup
    exact ⟨a, vs, true, e, vw.2.2.1, ha, rr⟩
  · cases h
    have r2 := r
    obtain ⟨a, vs, e, ha, rr⟩ := r.lst
    have ns : ¬ inS z a := by
      rcases r2 with ⟨a', vs', e', vw, _⟩ | ⟨p, e', _, _, h, _⟩
      · rw [e] at e'; cases e'; exact vw.2.2.1
      · rw [e] at e'; cases e'; exact h
    exact ⟨a, vs, false, e, ns, ha, rr⟩
/-- a pair made at T' stands for the pair of data -/
theorem pair_new {P2 O2 : Addr → Prop} {H2 : Hp} {T' : Addr} {x y : V} {d e : D} (W : Ws z P2 O2 H2) (hn : H2 T' = none) (rx : Rep (sa z) (Vw z P2 O2 H2) d x) (ry : Rep (sa z) (Vw z P2 O2 H2) e y) :
    SameS z H2 (upd H2 T' (.tup [x, y])) ∧ Src z (upd H2 T' (.tup [x, y])) ∧ Rep (sa z) (Vw z P2 O2 (upd H2 T' (.tup [x, y]))) (.tup [d, e]) (.ref T') :=
  ⟨same_new hn, src_new W.src hn, W.tup hn ⟨x, [y], rfl, rx, y, [], rfl, ry, rfl⟩⟩
theorem wk_en {L : (Addr → Prop) → (Addr → Prop) → Hp → Prop} {a : Addr} {tup : Bool} {vs : List V} {k : Int} (hl : ∀ P2 O2 H2, L P2 O2 H2 → Lat z P O H P2 O2 H2 ∧ H2 a = some (sqO tup vs)) (r : Reps (sa z) (Vw z P O H) ds vs) : Wk z L (Jen tup a k) (enD k ds) := fun P2 O2 H2 l => by
  obtain ⟨lt, ha⟩ := hl P2 O2 H2 l
  refine ⟨fun i hi => ⟨vs, ha, by rw [r.length]; rw [enD_len] at hi; exact hi⟩, fun i hi => ⟨vs, ha, by rw [r.length]; rw [enD_len] at hi; exact hi⟩, fun i x H3 hi ⟨T', y, ev, hn, eH, hy⟩ => ?_⟩
  rw [enD_len] at hi
  obtain ⟨d, hd, rd⟩ := r.getV (hy vs ha)
  obtain ⟨q1, q2, q3⟩ := pair_new (d := .int (k + (i : Nat))) (e := d) (x := .int (k + (i : Nat))) lt.ws hn rfl (rd.mono lt.vw)
  rw [eH, ev]
  exact ⟨q1, q2, _, enD_get ds k i d hd, q3⟩
end
theorem enO_w {ds : List D} {Q : List D → Prop} (w : WP (enO ds) Q) : ∃ d k es, partsOf d = some es ∧ (ds = [d] ∧ k = 0 ∨ ds = [d, .int k] ∧ -(2 ^ 62) ≤ k ∧ k < 2 ^ 62) ∧ Q (enD k es) := by
  unfold enO at w
  split at w
  · rename_i d
    cases h : partsOf d with
    | none => rw [h] at w; exact w.elim
    | some es => rw [h] at w; exact ⟨d, 0, es, h, .inl ⟨rfl, rfl⟩, w⟩
  · rename_i d k
    obtain ⟨c, w⟩ := tIf_w w
    have c := i62_w c
    cases h : partsOf d with
    | none => rw [h] at w; exact w.elim
    | some es => rw [h] at w; exact ⟨d, k, es, h, .inr ⟨rfl, c⟩, w⟩
  · exact w.elim
section
variable {X : Cx} {elts : List Expr} {kk : Nat} {tpos p pos : Pos} {e e2 : Expr} {g : Ev → T (List D)}
theorem en_core {k0 : List V → Option (V × Int)} {es' : List D → Prop} (hk : ∀ (z : Zr) (P O : Addr → Prop) (H : Hp) (ds : List D) (vs : List V) (d : D) (k : Int), (ds = [d] ∧ k = 0 ∨ ds = [d, .int k] ∧ -(2 ^ 62) ≤ k ∧ k < 2 ^ 62) → RepBs z P O H ds vs → es' ds → ∃ v, k0 vs = some (v, k) ∧ RepB z P O H d v)
    {σ : L2.St} {H : Hp} {R : It → Hp → Prop} (h : ∃ z P O ρ, Rel z P O ρ σ H ∧ WP (fEn g ρ) fun ds => ∀ J H', SameS z H H' → Src z H' → Wk z (LatS z P O H') J ds → R J H') (hes : ∀ ρ, WP (g ρ) (fun _ => True) → WP (g ρ) es') : iEn (tBs g) k0 σ H R := by
  obtain ⟨z, P, O, ρ, Rl, w⟩ := h
  have both : ∀ {m : T (List D)} {A B : List D → Prop}, WP m A → WP m B → WP m fun a => A a ∧ B a := by
    intro m
    induction m with
    | ok a => exact fun a b => ⟨a, b⟩
    | no => exact fun a _ => a.elim
    | pk n k ih => exact fun a b r h0 h1 => ih r (a r h0 h1) (b r h0 h1)
  have w0 := WP.bind w
  refine ⟨z, P, O, ρ, Rl, (both w0 (hes ρ (w0.mono fun _ _ => trivial))).mono fun ds ⟨w2, w3⟩ vs H1 g1 s1 r1 => ?_⟩
  obtain ⟨d, k, es, hp, hds, kk⟩ := enO_w w2
  obtain ⟨v, hv, rv⟩ := hk z P O H1 ds vs d k hds r1 w3
  obtain ⟨a, us, tup, e, ns, ha, rr⟩ := parts_sqB hp rv
  subst e
  exact ⟨a, k, us, tup, hv, ha, kk _ H1 g1 s1 (wk_en (fun P2 O2 H2 l => ⟨l.lat, l.same a _ ns ha⟩) rr)⟩
theorem wp_len {es : List Expr} {f : Ev → T D} {g' : Ev → T (List D)} {ρ : Ev} {n : Nat} (h : WP (g' ρ) (fun _ => True) → WP (g' ρ) fun ds => ds.length = n) (w : WP (fCons f g' ρ) fun _ => True) : WP (fCons f g' ρ) fun ds => ds.length = n + 1 := by
  refine WP.bind' ((WP.bind w).mono fun d w2 => WP.bind' ((h ((WP.bind w2).mono fun _ _ => trivial)).mono fun ds hl => ?_))
  show (d :: ds).length = n + 1
  rw [List.length_cons, hl]
/-- for i, x in enumerate(l), in a comprehension -/
theorem ben1 {f : Ev → T D} (hg : Gl X "enumerate") (hm : X.mg "enumerate" = none) (ha : PE X e (tB f)) (hs : starEach [e] X.env = [(false, eval e X.env)] := by rfl) : PI X (.Tuple elts kk tpos) (.Call (.Name "enumerate" p) [e] [] pos) (tIb (fEn (fCons f fNil))) :=
  PI.imp (pi_en1 hg hm (bc ha bn hs) hs) fun σ H R h => en_core (es' := fun ds => ds.length = 1) (fun z P O H ds vs d k hds r hl => by
    rcases hds with ⟨rfl, rfl⟩ | ⟨rfl, _⟩
    · obtain ⟨v, e, rv⟩ := one_w r
      exact ⟨v, by rw [e]; rfl, rv⟩
    · exact absurd hl (by simp)) h fun ρ w => wp_len (es := []) (fun _ => rfl) w
theorem ben2 {f h : Ev → T D} (hg : Gl X "enumerate") (hm : X.mg "enumerate" = none) (ha : PE X e (tB f)) (hb : PE X e2 (tB h)) (hs : starEach [e, e2] X.env = (false, eval e X.env) :: starEach [e2] X.env := by rfl) (hs2 : starEach [e2] X.env = (false, eval e2 X.env) :: starEach [] X.env := by rfl)
    (hpl : (backTo pos (starEach [e2] X.env)).any (·.1) = false := by rfl) : PI X (.Tuple elts kk tpos) (.Call (.Name "enumerate" p) [e, e2] [] pos) (tIb (fEn (fCons f (fCons h fNil)))) :=
  PI.imp (pi_en2 hg hm (bc ha (bc hb bn hs2) hs) hs hpl) fun σ H R h => en_core (es' := fun ds => ds.length = 2) (fun z P O H ds vs d k hds r hl => by
    rcases hds with ⟨rfl, rfl⟩ | ⟨rfl, h1, h2⟩
    · exact absurd hl (by simp)
    · obtain ⟨v, u, e, rv, ru⟩ := two_w (ds := []) r
      have eu := ru.int
      subst eu
      refine ⟨v, ?_, rv⟩
      rw [e]
      exact if_pos ⟨by omega, by omega⟩) h fun ρ w => wp_len (es := []) (wp_len (es := []) fun _ => rfl) w
end
end
end DL

set_option Elab.async false
set_option linter.all false
set_option maxRecDepth 100000
namespace DL
noncomputable section
open PySem PySem.Spec PyProof.Rows L2

/-! ### the items of a locked dict with tuple keys -/
def Itit (d : Addr) (o : Obj) (kvs : List (List Key × V)) : It :=
  ⟨fun i H => H d = some (.frz o (.dT kvs)) ∧ i < kvs.length, fun i H x H' => ∃ T' k v q, kvs[i]? = some (k, v) ∧ x = .ref T' ∧ H T' = none ∧ H q = some (.tup (k.map kV)) ∧ H' = upd H T' (.tup [.ref q, v]), fun i H => H d = some (.frz o (.dT kvs)) ∧ kvs.length ≤ i⟩
section
variable {X : Cx} {pins : List (Addr × Obj)} {σ : L2.St} {H : Hp} {s : Shared} {d : Addr} {o : Obj}
theorem frzT2 {kvs : List (List Key × V)} (I : L2.Inv X pins σ H s) (h : H d = some (.frz o (.dT kvs))) :
    (d == sysModules) = false ∧ s.heap.get? d = some o ∧ o.ExactDict ∧ ∃ (es : Array DictEntry) (ep : Nat), o.data = .dict es ep ∧ es.size = kvs.length ∧
      ∀ (i : Nat) (k : List Key) (v : V), kvs[i]? = some (k, v) → ∃ (en : DictEntry) (q : Addr), es[i]? = some en ∧ en.key = .ref q ∧ H q = some (.tup (k.map kV)) ∧ RelV v en.val := by
  obtain ⟨hd, z, hs, xs, pr, o', es, ep, ho, hx, hdt, he, _⟩ := I.hok d _ h
  rw [hd] at ho
  cases ho
  refine ⟨hs, hd, hx, es, ep, hdt, ?_, fun i k v e => ?_⟩
  · have l1 : es.size = xs.length := size_of_entries he
    have l2 : kvs.length = xs.length := Paired.length pr
    omega
  · obtain ⟨b, hb, e1, e2, e3⟩ := L2.paired_get pr e
    have q := entry_at he i
    rw [hb] at q
    exact ⟨_, b.2.1, q, rfl, e2, e3⟩
end
theorem turn_itT {P : Program} {w : World} {K : PySem.W.Frag} {d : Addr} {o : Obj} {es : Array DictEntry} {ep : Nat} {kvs : List (List Key × V)} {elts : List Expr} {kk : Nat} {tpos : Pos} (it : Addr) (hod : o.data = .dict es ep) :
    Turn P w K (.Tuple elts kk tpos) (Itit d o kvs) [it] it (fun i h => ∃ ok ov, IsItemIter h it d i kvs.length ep ok ov) where
  mem := by simp
  obj := fun i h st b hb => by
    have e : b = it := by simpa using hb
    subst e
    obtain ⟨ok, ov, e⟩ := st
    exact ⟨_, e, fun v z => nomatch z⟩
  keep := fun i h h' st k => let ⟨ok, ov, e⟩ := st; ⟨ok, ov, k it (by simp) _ e⟩
  item := by
    intro X hP hw hK hc i pins s σ H E I hf st hg
    subst hP hw hK
    obtain ⟨hd, hi⟩ := hg
    obtain ⟨hs, hgd, hx, es', ep', hdt, hsz, ent⟩ := frzT2 I hd
    obtain ⟨rfl, rfl⟩ := L2.dict_ep hod hdt
    obtain ⟨⟨k, v⟩, hkv⟩ : ∃ p, kvs[i]? = some p := ⟨kvs[i], List.getElem?_eq_getElem hi⟩
    obtain ⟨en, q, hen, hkey, hq, hval⟩ := ent i k v hkv
    obtain ⟨ok, ov, he⟩ := st
    rw [← hsz] at he
    have hi' : i < es'.size := by omega
    have een : es'[i] = en := Option.some.inj ((Array.getElem?_eq_getElem hi').symm.trans hen)
    have hlt : it < s.heap.objs.size := Heap.lt_size he
    refine wpAny_pyNext_items_item_raw he ⟨o, hgd, hx, hdt⟩ hi' fun h' ho hT hz hk => ?_
    rw [een] at ho hT
    refine ⟨_, rfl, wpAny_letOwnedTupleGo_items (s := { s with heap := h' }) ho fun h'' he' sb => ?_⟩
    have hT2 : h''.get? s.heap.objs.size = some { cls := .type "tuple", data := .seq #[en.key, en.val] } := (sb.2 _ (Nat.ne_of_gt hlt)).trans hT
    have new : ObjOk X.prog X.w (upd H s.heap.objs.size (.tup [.ref q, v])) h'' s.heap.objs.size (.tup [.ref q, v]) :=
      ⟨by show 2 ≤ sizeLine; decide, [en.key, en.val], .cons hkey (.cons hval .nil), ⟨_, hT2, rfl, _, rfl⟩⟩
    have I1 : L2.Inv X pins σ (upd H s.heap.objs.size (.tup [.ref q, v])) { s with heap := h'' } :=
      I.turnedNew (t' := s.toks) (ch := [it]) (fun b ob hb e => (sb.2 b (by simpa using hb)).trans (hk b ob (by simpa using hb) e)) hf (Nat.le_refl _) new
    refine ⟨.ref s.heap.objs.size, _, I1, rfl, ⟨_, k, v, q, hkv, rfl, I.hok.fresh (Nat.le_refl _), hq, rfl⟩, ⟨en.key, en.val, ?_⟩, fun b hb => ?_⟩
    · rw [← hsz]; exact he'
    · have e : b = it := by simpa using hb
      rw [e, upd_ne (Nat.ne_of_lt hlt)]
      exact (hf it (by simp)).1
  done := by
    intro X hP hw hK hc i pins s σ H E I hf st hg
    subst hP hw hK
    obtain ⟨hd, hi⟩ := hg
    obtain ⟨f0, f1, f2, f3, f4, f5⟩ := hf it (by simp)
    obtain ⟨hs, hgd, hx, es', ep', hdt, hsz, ent⟩ := frzT2 I hd
    obtain ⟨rfl, rfl⟩ := L2.dict_ep hod hdt
    obtain ⟨ok, ov, he⟩ := st
    rw [← hsz] at he
    exact wpAny_pyNext_items_end_raw (I.ok.hd hc) he ⟨o, hgd, hx, hdt⟩ (by omega) fun h' eb => ⟨rfl, I.turned (t' := s.toks) (fun b ob hb e => eb b ob hb e) f0 f1 f3 f4 f5⟩
  self := fun A i s Q E st h => let ⟨_, _, e⟩ := st; PySem.W.kcp_self e h
def iItemsT (td : TE) : TI := fun σ H R => td σ H fun x H1 => ∃ d o kvs, x = .ref d ∧ H1 d = some (.frz o (.dT kvs)) ∧ R (Itit d o kvs) H1
theorem pi_itT {X : Cx} {e : Expr} {td : TE} {apos cpos : Pos} {elts : List Expr} {kk : Nat} {tpos : Pos} (he : PE X e td) (hbase : attributeBase e "items" X.env (eval e X.env) = eval e X.env := by rfl) (hline : (apos.endLine == cpos.line) = true := by rfl) :
    PI X (.Tuple elts kk tpos) (.Call (.Attribute e "items" apos) [] [] cpos) (iItemsT td) := by
  refine ⟨fun pins s σ H R I h => ?_⟩
  refine wpAny_Call_method (T := "dict") (id := "dict.items") hbase rfl hline F.plainAttrs_dict F.slot_dict_items F.type_dict_items (thn (he.run pins s σ H _ I h) fun u s1 ⟨x, H1, I1, rx, d, o, kvs, ex, hd, q⟩ => ?_)
  subst ex
  obtain rfl : u = Value.ref d := rx
  obtain ⟨hs, hgd, hx, es, ep, hdt, hsz, ent⟩ := frzT2 I1 hd
  have raw : DT.Raw s1.heap d es ep := ⟨o, hgd, hx, hdt⟩
  refine ⟨raw.typeIs, fun a e => (by cases e; exact ⟨o, hgd, hx.2.1⟩), ?_⟩
  have I2 : L2.Inv X pins σ H1 { s1 with heap := s1.heap.push { cls := .type "dict_items", data := .fields #[.ref d] } } := I1.kept (t' := s1.toks) fun b ob q => Heap.get?_push_of_some _ q
  have fin : wpAny (model X.prog X.w) X.A (pyIter (.ref s1.heap.objs.size)) (PIE X pins σ (.Tuple elts kk tpos) R) X.xe { s1 with heap := s1.heap.push { cls := .type "dict_items", data := .fields #[.ref d] } } := by
    refine DT.iterI (d := d) ⟨_, Heap.get?_push_size _ rfl, rfl, rfl⟩ (raw.push _) ?_
    refine pi_one (tk := s1.toks) I2 _ (turn_itT _ hdt) ⟨.none, .none, ?_⟩ q
    rw [← hsz]
    exact Heap.get?_push_size _ rfl
  show wpAny _ _ (callWith cpos (.builtin "dict.items") [.ref d] [] []) _ X.xe s1
  exact method_meetsIn F.slot_dict_items F.entry_dict_items rfl (PySem.evalArgs_none ⟨rfl, raw.typeIs, F.args_dict_items_1 _, _, DT.meetsItems (es := es) (ep := ep) hs, raw, fin⟩)

/-! ### for over a dict: by keys, by items -/
theorem PI.or {X : Cx} {tg iter : Expr} {t t' : TI} (h : PI X tg iter t) (h' : PI X tg iter t') : PI X tg iter fun σ H R => t σ H R ∨ t' σ H R := ⟨fun pins s σ H R I q => q.elim (h.run pins s σ H R I) (h'.run pins s σ H R I)⟩
def dctSh (i : Nat) (ρ : Ev) : T (Bool × List (Kd × D)) := match ρ.at i with
  | .sh (.dct tk kvs) => .ok (tk, kvs)
  | _ => .no
def fKeysF (i : Nat) : Ev → T (List D) := fun ρ => (dctSh i ρ).bind fun p => .ok (p.2.map fun kv => keyD kv.1)
def fItems (i : Nat) : Ev → T (List D) := fun ρ => (dctSh i ρ).bind fun p => .ok (p.2.map fun kv => .tup [keyD kv.1, kv.2])
section
variable {z : Zr} {P O : Addr → Prop} {H : Hp} {ρ : Ev} {σ : L2.St} {i : Nat}
theorem dctSh_w {Q : Bool × List (Kd × D) → Prop} (R : Rel z P O ρ σ H) (w : WP (dctSh i ρ) Q) : ∃ tk kvs d, σ[i]? = some (some (.ref d)) ∧ ¬ O d ∧ ¬ P d ∧ ¬ inS z d ∧ ((tk = false ∧ ∃ l, Rx H d (.dK l) ∧ RepK (sa z) (Vw z P O H) kvs l) ∨ (tk = true ∧ ∃ l, Rx H d (.dT l) ∧ RepT (sa z) (Vw z P O H) kvs l)) ∧ Q (tk, kvs) := by
  unfold dctSh at w
  cases e : ρ.at i with
  | sh a =>
    rw [e] at w
    obtain ⟨y, hy, v, ey, r⟩ := R.slot (Ev.at_get e (by intro q; cases q))
    subst ey
    cases a <;> first | exact (show False from w).elim | skip
    rename_i tk kvs
    cases tk
    · obtain ⟨d, l, ev, vw, rr⟩ := r
      subst ev
      exact ⟨false, kvs, d, hy, vw.1, vw.2.1, vw.2.2.1, .inl ⟨rfl, l, vw.2.2.2, rr⟩, w⟩
    · obtain ⟨d, l, ev, vw, rr⟩ := r
      subst ev
      exact ⟨true, kvs, d, hy, vw.1, vw.2.1, vw.2.2.1, .inr ⟨rfl, l, vw.2.2.2, rr⟩, w⟩
  | _ => rw [e] at w; exact (show False from w).elim
end
theorem tup_seen {z : Zr} {P O : Addr → Prop} {H : Hp} {b : Addr} {vs : List V} {ds : List D} (W : Ws z P O H) (hb : H b = some (.tup vs)) (r : Reps (sa z) (Vw z P O H) ds vs) : Rep (sa z) (Vw z P O H) (.tup ds) (.ref b) := by
  refine ⟨b, vs, rfl, ⟨fun q => ?_, fun q => ?_, fun q => ?_, .inl hb⟩, r⟩
  · obtain ⟨u, e1, e2⟩ := W.own b q
    rw [hb] at e1; cases e1; exact e2 _ rfl
  · obtain ⟨u, e1, e2⟩ := W.prt b q
    rw [hb] at e1; cases e1; exact e2 _ rfl
  · obtain ⟨u, e1, e2⟩ := Nt.src W.src q
    rw [hb] at e1; cases e1; exact e2 _ rfl
section
variable {X : Cx} {tg : Expr} {x : Str} {pos apos cpos tpos : Pos} {elts : List Expr} {kk : Nat} {i : Nat}
theorem ikeys (i : Nat) (hN : X.N[i]? = some x := by rfl) (hv : Vis X.env.scope x := by first | exact Or.inl rfl | exact Or.inr (Or.inl rfl) | exact Or.inr (Or.inr rfl)) (hd : (x == ("__debug__" : Str)) = false := by decide)
    (hcd : (x == ("__classdict__" : Str)) = false := by decide) : PI X tg (.Name x pos) (tIc (Lk i) (tI (fKeysF i))) := PI.imp (pi_keys (pe_var hN hv hd hcd)) fun σ H R ⟨⟨d, o, u, hs, hf, hk⟩, z, P, O, ρ, Rl, w⟩ => by
  obtain ⟨tk, kvs, d', hs', no, np, ns, h, k⟩ := dctSh_w Rl (WP.bind w)
  rw [hs] at hs'
  cases hs'
  have k := WP.ok k
  refine ⟨.ref d, hs, d, o, rfl, ?_⟩
  rcases h with ⟨et, l, hl, rr⟩ | ⟨et, l, hl, rr⟩
  · have hl' : H d = some (.frz o (.dK l)) := hl.frz hf trivial
    refine .inl ⟨l, hl', k _ H SameS.refl Rl.src fun P2 O2 H2 lt => ?_⟩
    have h2 := (lt.same d _ no ns hl').2
    refine ⟨fun i hi => ⟨h2, by rw [rr.len]; simpa using hi⟩, fun i hi => ⟨h2, by rw [rr.len]; rw [List.length_map] at hi; exact Nat.le_of_eq hi.symm⟩, fun i y H3 hi ⟨e, q, v, hq, ey⟩ => ?_⟩
    subst e
    obtain ⟨d', h1, h3⟩ := rr.at_ hq
    exact ⟨SameS.refl, lt.ws.src, _, by rw [List.getElem?_map, h1]; rfl, by rw [ey]; exact keyD1_rep q⟩
  · have hl' : H d = some (.frz o (.dT l)) := hl.frz hf trivial
    refine .inr ⟨l, hl', k _ H SameS.refl Rl.src fun P2 O2 H2 lt => ?_⟩
    have h2 := (lt.same d _ no ns hl').2
    refine ⟨fun i hi => ⟨h2, by rw [rr.len]; simpa using hi⟩, fun i hi => ⟨h2, by rw [rr.len]; rw [List.length_map] at hi; exact Nat.le_of_eq hi.symm⟩, fun i y H3 hi ⟨e, q, v, b, hq, ey, hb⟩ => ?_⟩
    subst e
    obtain ⟨d', h1, h3⟩ := rr.at_ hq
    refine ⟨SameS.refl, lt.ws.src, _, by rw [List.getElem?_map, h1]; rfl, ?_⟩
    rw [ey]
    exact tup_seen lt.ws hb (keyD1s_rep q)
theorem iitems (i : Nat) (hN : X.N[i]? = some x := by rfl) (hv : Vis X.env.scope x := by first | exact Or.inl rfl | exact Or.inr (Or.inl rfl) | exact Or.inr (Or.inr rfl)) (hd : (x == ("__debug__" : Str)) = false := by decide)
    (hcd : (x == ("__classdict__" : Str)) = false := by decide) (hbase : attributeBase (.Name x pos) "items" X.env (eval (.Name x pos) X.env) = eval (.Name x pos) X.env := by rfl) (hline : (apos.endLine == cpos.line) = true := by rfl) :
    PI X (.Tuple elts kk tpos) (.Call (.Attribute (.Name x pos) "items" apos) [] [] cpos) (tIc (Lk i) (tI (fItems i))) := PI.imp (PI.or (pi_items (pe_var hN hv hd hcd) hbase hline) (pi_itT (pe_var hN hv hd hcd) hbase hline)) fun σ H R ⟨⟨d, o, u, hs, hf, hk⟩, z, P, O, ρ, Rl, w⟩ => by
  obtain ⟨tk, kvs, d', hs', no, np, ns, h, k⟩ := dctSh_w Rl (WP.bind w)
  rw [hs] at hs'
  cases hs'
  have k := WP.ok k
  rcases h with ⟨et, l, hl, rr⟩ | ⟨et, l, hl, rr⟩
  · have hl' : H d = some (.frz o (.dK l)) := hl.frz hf trivial
    refine .inl ⟨.ref d, hs, d, o, l, rfl, hl', k _ H SameS.refl Rl.src fun P2 O2 H2 lt => ?_⟩
    have h2 := (lt.same d _ no ns hl').2
    refine ⟨fun i hi => ⟨h2, by rw [rr.len]; simpa using hi⟩, fun i hi => ⟨h2, by rw [rr.len]; rw [List.length_map] at hi; exact Nat.le_of_eq hi.symm⟩, fun i y H3 hi ⟨T', q, v, hq, ey, hn, eH⟩ => ?_⟩
    obtain ⟨d', h1, h3⟩ := rr.at_ hq
    obtain ⟨q1, q2, q3⟩ := pair_new (d := keyD1 q) (e := d') (x := kV q) lt.ws hn (keyD1_rep q) (h3.mono lt.vw)
    rw [eH, ey]
    exact ⟨q1, q2, _, by rw [List.getElem?_map, h1]; rfl, q3⟩
  · have hl' : H d = some (.frz o (.dT l)) := hl.frz hf trivial
    refine .inr ⟨.ref d, hs, d, o, l, rfl, hl', k _ H SameS.refl Rl.src fun P2 O2 H2 lt => ?_⟩
    have h2 := (lt.same d _ no ns hl').2
    refine ⟨fun i hi => ⟨h2, by rw [rr.len]; simpa using hi⟩, fun i hi => ⟨h2, by rw [rr.len]; rw [List.length_map] at hi; exact Nat.le_of_eq hi.symm⟩, fun i y H3 hi ⟨T', q, v, b, hq, ey, hn, hb, eH⟩ => ?_⟩
    obtain ⟨d', h1, h3⟩ := rr.at_ hq
    obtain ⟨q1, q2, q3⟩ := pair_new (d := .tup (q.map keyD1)) (e := d') (x := .ref b) lt.ws hn (tup_seen lt.ws hb (keyD1s_rep q)) (h3.mono lt.vw)
    rw [eH, ey]
    exact ⟨q1, q2, _, by rw [List.getElem?_map, h1]; rfl, q3⟩
end
end
end DL

set_option Elab.async false
set_option linter.all false
set_option maxRecDepth 100000
namespace DL
noncomputable section
open PySem PySem.Spec PyProof.Rows L2

def fDc (i : Nat) (g : Bool × List (Kd × D) → T (List D)) : Ev → T (List D) := fun ρ => (dctSh i ρ).bind g
section
variable {X : Cx} {tg iter : Expr} {body : List Stmt} {p : Pat} {b : Ev → T Res} {pos : Pos} {i : Nat} {g : Bool × List (Kd × D) → T (List D)}
theorem sforK (hp : PassesOwn (model X.prog X.w) X.A X.env X.xe) (hc : X.calm = true) (hi : PI X tg iter (tIc (Lk i) (tI (fDc i g)))) (hg : PG X tg (tG p)) (hb : PSs X body (tS b)) (hs : ∀ x, foldedSetIterable iter X.env x = pure x := by intro _; rfl) :
    PS X (.For tg iter body [] pos) (tS (fFor (fDc i g) p b)) := by
  have h := ps_for (pos := pos) hp hc hi hg hb hs
  refine PS.imp (PS.or h (ps_lock h)) fun Dn σ H hh => ?_
  obtain ⟨z, P, O, ρ, R, w⟩ := hh
  have w1 := w
  unfold fFor at w1
  obtain ⟨tk, kvs, d, hs', no, np, ns, hd, _⟩ := dctSh_w R (WP.bind (WP.bind w1))
  have hx : ∃ u, dk u ∧ Rx H d u := by
    rcases hd with ⟨_, l, hl, _⟩ | ⟨_, l, hl, _⟩
    · exact ⟨.dK l, trivial, hl⟩
    · exact ⟨.dT l, trivial, hl⟩
  obtain ⟨u, ku, hx⟩ := hx
  rcases hx with hx | ⟨_, o, hx⟩
  · right
    have mu : Mut (some u) := by cases u <;> first | trivial | exact ku.elim
    refine ⟨d, u, hx, mu, fun od => ?_⟩
    have R1 : Rel z P O ρ σ (upd H d (.frz od u)) := R.lock hx ku ns fun j d' hj p' hp' e => by
      obtain ⟨y, hy, q, ey, oq, _⟩ := R.slot hj
      rw [hp'] at hy
      cases hy
      cases ey
      exact no (e ▸ oq)
    have key := tFor_D (Dn := ⟨fun σ' H' => H' d = some (.frz od u) ∧ Dn.nx σ' (upd H' d u), fun v H' => H' d = some (.frz od u) ∧ Dn.rt v (upd H' d u), fun σ' H' => H' d = some (.frz od u) ∧ Dn.bk σ' (upd H' d u), fun σ' H' => H' d = some (.frz od u) ∧ Dn.ct σ' (upd H' d u)⟩) ⟨z, P, O, ρ, R1, w.mono fun r k => by
      cases r with
      | nx ρ' =>
        intro σ' H' O' gs R'
        have hd' := gs d _ no ns upd_same
        refine ⟨hd'.2, k σ' _ O' (fun b' o' hb nb eb => ?_) (R'.unlock hd'.2 ku ns)⟩
        by_cases e : b' = d
        · subst e; exact ⟨hd'.1, by rw [upd_same, ← hx, eb]⟩
        · obtain ⟨q1, q2⟩ := gs b' o' hb nb (by rw [upd_ne e]; exact eb)
          exact ⟨q1, by rw [upd_ne e]; exact q2⟩
      | rt dd =>
        intro v H' gs s r
        have hd' : H' d = some (.frz od u) := gs d _ no ns upd_same
        refine ⟨hd', k v _ (fun b' o' hb nb eb => ?_) (src_keep s fun b hb => upd_ne fun e => ns (e ▸ hb)) (r.mono' (Vw.unlock hd'))⟩
        by_cases e : b' = d
        · subst e; rw [upd_same, ← hx, eb]
        · rw [upd_ne e]; exact gs b' o' hb nb (by rw [upd_ne e]; exact eb)⟩
    obtain ⟨z', P', O', ρ', R', w'⟩ := key
    exact ⟨⟨d, od, u, hs', upd_same, ku⟩, z', P', O', ρ', R', w'⟩
  · left
    obtain ⟨z', P', O', ρ', R', w'⟩ := tFor_D (⟨z, P, O, ρ, R, w⟩ : tS (fFor (fDc i g) p b) Dn σ H)
    exact ⟨⟨d, o, u, hs', hx, ku⟩, z', P', O', ρ', R', w'⟩
end

/-! ### d.get(k), d.get(k, x) -/
def getD (d k x : D) : T D := match d with
  | .dct tk kvs => match keyOf tk k with
    | some j => match lookD kvs j with
      | some v => .ok v
      | none => .ok x
    | none => .no
  | _ => .no
def fGet2 (f g h : Ev → T D) : Ev → T D := fun ρ => (f ρ).bind fun d => (g ρ).bind fun k => (h ρ).bind fun x => getD d k x
def fGet1 (f g : Ev → T D) : Ev → T D := fun ρ => (f ρ).bind fun d => (g ρ).bind fun k => getD d k .non
theorem getD_dct {d k x : D} {Q : D → Prop} (w : WP (getD d k x) Q) : ∃ tk kvs j, d = .dct tk kvs ∧ keyOf tk k = some j ∧ ((∃ v, lookD kvs j = some v ∧ Q v) ∨ (lookD kvs j = none ∧ Q x)) := by
  cases d <;> first | exact (show False from w).elim | skip
  rename_i tk kvs
  have w' : WP (match keyOf tk k with
    | some j => match lookD kvs j with
      | some v => T.ok v
      | none => .ok x
    | none => .no) Q := w
  cases hk : keyOf tk k with
  | none => rw [hk] at w'; exact w'.elim
  | some j =>
    rw [hk] at w'
    dsimp only at w'
    cases hl : lookD kvs j with
    | none => rw [hl] at w'; exact ⟨tk, kvs, j, rfl, hk, .inr ⟨hl, w'⟩⟩
    | some v => rw [hl] at w'; exact ⟨tk, kvs, j, rfl, hk, .inl ⟨v, hl, w'⟩⟩
theorem wp_ex {α : Type} : ∀ {m : T α} {Q : α → Prop}, WP m Q → ∃ a, Q a
  | .ok a, _, h => ⟨a, h⟩
  | .no, _, h => h.elim
  | .pk n k, _, h => wp_ex (h 0 (Int.le_refl 0) (.inr rfl))
section
variable {X : Cx} {o e e2 : Expr} {f g h : Ev → T D} {apos cpos : Pos}
theorem isD_dct {z : Zr} {P O : Addr → Prop} {H : Hp} {tk : Bool} {kvs : List (Kd × D)} {v : V} (r : RepB z P O H (.dct tk kvs) v) : ∃ a, v = .ref a ∧ IsD H a := by
  cases tk
  · obtain ⟨a, l, e, q, _⟩ := r.dctK
    exact ⟨a, e, .inl ⟨l, q.rd⟩⟩
  · obtain ⟨a, l, e, q, _⟩ := r.dctT
    exact ⟨a, e, .inr ⟨l, q.rd⟩⟩
theorem dget2 (hu : X.A.units + 1 < cLine) (ho : PE X o (tB f)) (he : PE X e (tB g)) (hf : PE X e2 (tD h)) (hbase : attributeBase o "get" X.env (eval o X.env) = eval o X.env := by rfl)
    (hfew : ((backTo cpos (starEach [e, e2] X.env)).all (fun x => !x.1) && (backToKw cpos (keywordEach [] X.env)).all (fun x => x.1.isSome)
      && decide (([e, e2] : List Expr).length + ([] : List Keyword).length + (if ([] : List Keyword).isEmpty then 0 else 1) < 30)) = true := by rfl)
    (hline : (apos.endLine == cpos.line) = true := by rfl) (htr : backTo cpos (starEach [e, e2] X.env) = [(false, eval e X.env), (false, eval e2 X.env)] := by rfl) :
    PE X (.Call (.Attribute o "get" apos) [e, e2] [] cpos) (tD (fGet2 f g h)) := PE.imp (pe_dget2 hu ho he hf ⟨hbase, hfew, hline, htr⟩) fun σ H Q ⟨z, P, O, ρ, R, w⟩ => by
  refine ⟨z, P, O, ρ, R, (WP.bind w).mono fun d w2 v H1 g1 s1 r1 => ?_⟩
  obtain ⟨k, hk⟩ := wp_ex (WP.bind w2)
  obtain ⟨x, hx⟩ := wp_ex (WP.bind hk)
  obtain ⟨tk, kvs, j, rfl, _, _⟩ := getD_dct hx
  obtain ⟨a, ea, hD⟩ := isD_dct r1
  refine ⟨a, ea, hD, z, P, O, ρ, R.grow g1 s1, (WP.bind w2).mono fun k w3 y H2 g2 s2 r2 => ⟨z, P, O, ρ, (R.grow g1 s1).grow g2 s2, (WP.bind w3).mono fun x w4 u H3 g3 s3 r3 => ?_⟩⟩
  obtain ⟨tk', kvs', j', e', hk', hq⟩ := getD_dct w4
  cases e'
  obtain ⟨a', ea', hg⟩ := ((r1.grow g2).grow g3).get hk' (r2.grow g3)
  rw [ea] at ea'
  cases ea'
  rcases hg with ⟨w5, v5, h1, h2, h3⟩ | ⟨h1, h2⟩
  · rcases hq with ⟨v', l1, q⟩ | ⟨l1, q⟩
    · rw [h1] at l1
      cases l1
      exact ⟨some v5, h2, q v5 H3 ((g1.trans g2).trans g3) s3 h3⟩
    · rw [h1] at l1; cases l1
  · rcases hq with ⟨v', l1, q⟩ | ⟨l1, q⟩
    · rw [h1] at l1; cases l1
    · exact ⟨none, h2, q u H3 ((g1.trans g2).trans g3) s3 r3⟩
theorem dget1 (hu : X.A.units + 1 < cLine) (ho : PE X o (tB f)) (he : PE X e (tB g)) (hbase : attributeBase o "get" X.env (eval o X.env) = eval o X.env := by rfl)
    (hfew : ((backTo cpos (starEach [e] X.env)).all (fun x => !x.1) && (backToKw cpos (keywordEach [] X.env)).all (fun x => x.1.isSome)
      && decide (([e] : List Expr).length + ([] : List Keyword).length + (if ([] : List Keyword).isEmpty then 0 else 1) < 30)) = true := by rfl)
    (hline : (apos.endLine == cpos.line) = true := by rfl) (htr : backTo cpos (starEach [e] X.env) = [(false, eval e X.env)] := by rfl) :
    PE X (.Call (.Attribute o "get" apos) [e] [] cpos) (tD (fGet1 f g)) := PE.imp (pe_dget1 hu ho he ⟨hbase, hfew, hline, htr⟩) fun σ H Q ⟨z, P, O, ρ, R, w⟩ => by
  refine ⟨z, P, O, ρ, R, (WP.bind w).mono fun d w2 v H1 g1 s1 r1 => ?_⟩
  obtain ⟨k, hk⟩ := wp_ex (WP.bind w2)
  obtain ⟨tk, kvs, j, rfl, _, _⟩ := getD_dct hk
  obtain ⟨a, ea, hD⟩ := isD_dct r1
  refine ⟨a, ea, hD, z, P, O, ρ, R.grow g1 s1, (WP.bind w2).mono fun k w3 y H2 g2 s2 r2 => ?_⟩
  obtain ⟨tk', kvs', j', e', hk', hq⟩ := getD_dct w3
  cases e'
  obtain ⟨a', ea', hg⟩ := (r1.grow g2).get hk' r2
  rw [ea] at ea'
  cases ea'
  rcases hg with ⟨w5, v5, h1, h2, h3⟩ | ⟨h1, h2⟩
  · rcases hq with ⟨v', l1, q⟩ | ⟨l1, q⟩
    · rw [h1] at l1
      cases l1
      exact ⟨some v5, h2, q v5 H2 (g1.trans g2) s2 h3⟩
    · rw [h1] at l1; cases l1
  · rcases hq with ⟨v', l1, q⟩ | ⟨l1, q⟩
    · rw [h1] at l1; cases l1
    · exact ⟨none, h2, q .non H2 (g1.trans g2) s2 rfl⟩
end
end
end DL

set_option Elab.async false
set_option linter.all false
set_option maxRecDepth 100000
namespace DL
noncomputable section
open PySem PySem.Spec PyProof.Rows L2
def gKeys : Bool × List (Kd × D) → T (List D) := fun p => .ok (p.2.map fun kv => keyD kv.1)
def gItems : Bool × List (Kd × D) → T (List D) := fun p => .ok (p.2.map fun kv => .tup [keyD kv.1, kv.2])
section
variable {X : Cx} {tg : Expr} {x : Str} {pos apos cpos tpos : Pos} {elts : List Expr} {kk : Nat}
theorem jkeys (i : Nat) (hN : X.N[i]? = some x := by rfl) (hv : Vis X.env.scope x := by first | exact Or.inl rfl | exact Or.inr (Or.inl rfl) | exact Or.inr (Or.inr rfl)) (hd : (x == ("__debug__" : Str)) = false := by decide)
    (hcd : (x == ("__classdict__" : Str)) = false := by decide) : PI X tg (.Name x pos) (tIc (Lk i) (tI (fDc i gKeys))) := ikeys i hN hv hd hcd
theorem jitems (i : Nat) (hN : X.N[i]? = some x := by rfl) (hv : Vis X.env.scope x := by first | exact Or.inl rfl | exact Or.inr (Or.inl rfl) | exact Or.inr (Or.inr rfl)) (hd : (x == ("__debug__" : Str)) = false := by decide)
    (hcd : (x == ("__classdict__" : Str)) = false := by decide) (hbase : attributeBase (.Name x pos) "items" X.env (eval (.Name x pos) X.env) = eval (.Name x pos) X.env := by rfl) (hline : (apos.endLine == cpos.line) = true := by rfl) :
    PI X (.Tuple elts kk tpos) (.Call (.Attribute (.Name x pos) "items" apos) [] [] cpos) (tIc (Lk i) (tI (fDc i gItems))) := iitems i hN hv hd hcd hbase hline
end
/-! enumerate in a for: what is walked is seen -/
section
variable {X : Cx} {elts : List Expr} {kk : Nat} {tpos p pos : Pos} {e e2 : Expr} {g : Ev → T (List D)}
theorem enF_core {k0 : List V → Option (V × Int)} {es' : List D → Prop} (hk : ∀ (z : Zr) (P O : Addr → Prop) (H : Hp) (ds : List D) (vs : List V) (d : D) (k : Int), (ds = [d] ∧ k = 0 ∨ ds = [d, .int k] ∧ -(2 ^ 62) ≤ k ∧ k < 2 ^ 62) → Reps (sa z) (Vw z P O H) ds vs → es' ds → ∃ v, k0 vs = some (v, k) ∧ Rep (sa z) (Vw z P O H) d v)
    {σ : L2.St} {H : Hp} {R : It → Hp → Prop} (h : tI (fEn g) σ H R) (hes : ∀ ρ, WP (g ρ) (fun _ => True) → WP (g ρ) es') : iEn (tDs g) k0 σ H R := by
  obtain ⟨z, P, O, ρ, Rl, w⟩ := h
  have both : ∀ {m : T (List D)} {A B : List D → Prop}, WP m A → WP m B → WP m fun a => A a ∧ B a := by
    intro m
    induction m with
    | ok a => exact fun a b => ⟨a, b⟩
    | no => exact fun a _ => a.elim
    | pk n k ih => exact fun a b r h0 h1 => ih r (a r h0 h1) (b r h0 h1)
  have w0 := WP.bind w
  refine ⟨z, P, O, ρ, Rl, (both w0 (hes ρ (w0.mono fun _ _ => trivial))).mono fun ds ⟨w2, w3⟩ vs H1 g1 s1 r1 => ?_⟩
  obtain ⟨d, k, es, hp, hds, kk⟩ := enO_w w2
  obtain ⟨v, hv, rv⟩ := hk z P O H1 ds vs d k hds r1 w3
  obtain ⟨a, us, tup, e, vw, ha, rr⟩ := parts_sq hp rv
  subst e
  exact ⟨a, k, us, tup, hv, ha, kk _ H1 g1 s1 (wk_en (fun P2 O2 H2 l => ⟨l, (l.same a _ vw.1 vw.2.2.1 ha).2⟩) rr)⟩
theorem one_wD {d : D} {vs : List V} {s : Option Addr} {R : Addr → HO → Prop} (r : Reps s R [d] vs) : ∃ v, vs = [v] ∧ Rep s R d v := by
  obtain ⟨v, q, e, rv, e3⟩ := r
  have e3' : q = [] := e3
  exact ⟨v, by rw [e, e3'], rv⟩
theorem two_wD {a b : D} {vs : List V} {s : Option Addr} {R : Addr → HO → Prop} (r : Reps s R [a, b] vs) : ∃ v u, vs = [v, u] ∧ Rep s R a v ∧ Rep s R b u := by
  obtain ⟨v, q, e, rv, u, q2, e2, ru, e3⟩ := r
  have e3' : q2 = [] := e3
  exact ⟨v, u, by rw [e, e2, e3'], rv, ru⟩
theorem ien1 {f : Ev → T D} (hg : Gl X "enumerate") (hm : X.mg "enumerate" = none) (ha : PE X e (tD f)) (hs : starEach [e] X.env = [(false, eval e X.env)] := by rfl) : PI X (.Tuple elts kk tpos) (.Call (.Name "enumerate" p) [e] [] pos) (tI (fEn (fCons f fNil))) :=
  PI.imp (pi_en1 hg hm (ac ha an hs) hs) fun σ H R h => enF_core (es' := fun ds => ds.length = 1) (fun z P O H ds vs d k hds r hl => by
    rcases hds with ⟨rfl, rfl⟩ | ⟨rfl, _⟩
    · obtain ⟨v, e, rv⟩ := one_wD r
      exact ⟨v, by rw [e]; rfl, rv⟩
    · exact absurd hl (by simp)) h fun ρ w => wp_len (es := []) (fun _ => rfl) w
theorem ien2 {f h : Ev → T D} (hg : Gl X "enumerate") (hm : X.mg "enumerate" = none) (ha : PE X e (tD f)) (hb : PE X e2 (tD h)) (hs : starEach [e, e2] X.env = (false, eval e X.env) :: starEach [e2] X.env := by rfl) (hs2 : starEach [e2] X.env = (false, eval e2 X.env) :: starEach [] X.env := by rfl)
    (hpl : (backTo pos (starEach [e2] X.env)).any (·.1) = false := by rfl) : PI X (.Tuple elts kk tpos) (.Call (.Name "enumerate" p) [e, e2] [] pos) (tI (fEn (fCons f (fCons h fNil)))) :=
  PI.imp (pi_en2 hg hm (ac ha (ac hb an hs2) hs) hs hpl) fun σ H R h => enF_core (es' := fun ds => ds.length = 2) (fun z P O H ds vs d k hds r hl => by
    rcases hds with ⟨rfl, rfl⟩ | ⟨rfl, h1, h2⟩
    · exact absurd hl (by simp)
    · obtain ⟨v, u, e, rv, ru⟩ := two_wD r
      have eu : u = V.int k := ru
      subst eu
      refine ⟨v, ?_, rv⟩
      rw [e]
      exact if_pos ⟨by omega, by omega⟩) h fun ρ w => wp_len (es := []) (wp_len (es := []) fun _ => rfl) w
end
/-! ### isinstance: left for later; a new list by + and * -/
section
variable {f f' g g' h h' : Ev → T D} {a a' : Ev → T (List D)}
theorem le_fEn (h1 : LE a a') : LE (fEn a) (fEn a') := fun ρ => T.le_bind (fun _ => T.le_refl _) (h1 ρ)
theorem le_fGet2 (h1 : LE f f') (h2 : LE g g') (h3 : LE h h') : LE (fGet2 f g h) (fGet2 f' g' h') := fun ρ => T.le_bind (fun _ => T.le_bind (fun _ => T.le_bind (fun _ => T.le_refl _) (h3 ρ)) (h2 ρ)) (h1 ρ)
theorem le_fGet1 (h1 : LE f f') (h2 : LE g g') : LE (fGet1 f g) (fGet1 f' g') := fun ρ => T.le_bind (fun _ => T.le_bind (fun _ => T.le_refl _) (h2 ρ)) (h1 ρ)
end
end
end DL

set_option Elab.async false
set_option linter.all false
set_option maxRecDepth 100000
namespace DL
noncomputable section
open PySem PySem.Spec PyProof.Rows L2
/-! ### the second text of the pick: source, many, left, mixed -/
abbrev rMax2 : List V → Hp → VK → Prop := fun vs H Q => ∃ i j, vs = [.int i, .int j] ∧ Q (.int (if j > i then j else i)) H
abbrev mxT : TE := tCB rMax2 (tCons (tC (.int 1)) (tCons (tVar 1) tNil))
abbrev tLp2 (K : PySem.W.Frag) : TS := tWhile (tAnd (L2.tB (tGt (tVar 1) (tC (.int 1)))) (tAnd (L2.tB (tLt (gS "left") (tC (.int 2)))) (L2.tB (tGt (tCB (rLenS K) (tCons (gS "cells") tNil)) (tC (.int 0)))))) (tAsg (tBM0 K "list" rPop (gS "cells")) (pS "left"))
abbrev tP2 (K : PySem.W.Frag) : TS :=
  tSeq (tLp2 K) <|
  tSeq (tAsg (gS "left") (gName 2)) <|
  tSeq (tIfS (tOr (L2.tB (tLt (tVar 1) (tC (.int 2)))) (L2.tB (tGt (tVar 2) (tC (.int 1))))) (tSeq (tAsg (tOp rDivI (tVar 2) mxT) (pS "left")) (tRet (tOp rModI (oI (tVar 2)) mxT))) tNext) <|
  tSeq (tAsg (tOp rAddI (gS "turn") (tC (.int 1))) (pS "turn")) <|
  tSeq (tAsg (tOp rModI (oI (tOp rAddI (gS "mixed") (tOp rMulC (gS "turn") (tC (.int 104729))))) (tC (.int 998244353))) (gName 3)) <|
  tSeq (tAsg (tOp rModI (oI (tOp rAddI (tOp rMulC (tVar 3) (tVar 3)) (tOp rMulC (gS "turn") (tC (.int 17))))) (tC (.int 2147483647))) (gName 3)) <|
  tSeq (tAsg (tVar 3) (pS "mixed")) <|
  tRet (tOp rModI (oI (tOp rDivI (tVar 3) (tC (.int 16)))) (tVar 1))
theorem lp2_run {K : PySem.W.Frag} {a c : Addr} {D : Ends} {σ : L2.St} {H : Hp} {cells : List Int} {l m t n : Int} (s : S4 a c H cells l m t) (h0 : σ[0]? = some (some (.ref a))) (h1 : σ[1]? = some (some (.int n)))
    (k : ∀ H' cells' l', Apart a c H H' → S4 a c H' cells' l' m t → D.nx σ H') : tLp2 K D σ H := by
  refine ⟨fun n σ' H' => σ' = σ ∧ ∃ cells' l', cells'.length = n ∧ Apart a c H H' ∧ S4 a c H' cells' l' m t, ⟨cells.length, rfl, cells, l, rfl, Apart.refl, s⟩, fun nn σ' H' ⟨e, cells', l', hl, ap, s'⟩ => ?_⟩
  subst e
  show tAnd _ _ σ' H' _
  refine ⟨_, h1, n, 1, rfl, rfl, _, rfl, ?_⟩
  by_cases hn : n > 1
  · show if decide (n > 1) = true then _ else _
    rw [if_pos (decide_eq_true hn)]
    show tAnd _ _ σ' H' _
    refine ⟨_, h0, a, _, rfl, s'.gl, l', 2, rfl, rfl, _, rfl, ?_⟩
    by_cases hc : l' < 2
    · show if decide (l' < 2) = true then _ else _
      rw [if_pos (decide_eq_true hc)]
      refine ⟨_, h0, a, _, rfl, s'.gc, c, _, rfl, .inl (SqL.of s'.cs), _, 0, rfl, rfl, _, rfl, ?_⟩
      by_cases hp : 0 < cells'.length
      · have hp' : (((cells'.map V.int).length : Nat) : Int) > 0 := by rw [List.length_map]; omega
        show if decide ((((cells'.map V.int).length : Nat) : Int) > 0) = true then _ else _
        rw [if_pos (decide_eq_true hp')]
        refine ⟨fun σ2 H2 => σ2 = σ' ∧ ∃ cells2 l2, cells2.length + 1 = nn ∧ Apart a c H H2 ∧ S4 a c H2 cells2 l2 m t, fun σ2 H2 ⟨e, cells2, l2, q, ap2, s2⟩ => ⟨cells2.length, by omega, e, cells2, l2, rfl, ap2, s2⟩, ?_⟩
        have hlast : (cells'.map V.int)[(cells'.map V.int).length - 1]? = some (V.int (cells'[cells'.length - 1]'(by omega))) := by
          rw [List.length_map, List.getElem?_map, List.getElem?_eq_getElem (by omega)]; rfl
        refine ⟨_, h0, a, _, rfl, s'.gc, .inl ⟨rfl, _, SqL.of s'.cs⟩, c, _, _, rfl, rfl, s'.cs, hlast, ?_⟩
        have s2 := s'.pop
        refine ⟨.ref a, h0, a, _, rfl, s2.pl _, rfl, cells'.dropLast, _, ?_, (ap.c).a, s2.put _ m t⟩
        rw [List.length_dropLast]; omega
      · have hp' : ¬ (((cells'.map V.int).length : Nat) : Int) > 0 := by rw [List.length_map]; omega
        show if decide ((((cells'.map V.int).length : Nat) : Int) > 0) = true then _ else _
        rw [if_neg (fun q => hp' (of_decide_eq_true q))]
        exact k H' cells' l' ap s'
    · show if decide (l' < 2) = true then _ else _
      rw [if_neg (fun q => hc (of_decide_eq_true q))]
      exact k H' cells' l' ap s'
  · show if decide (n > 1) = true then _ else _
    rw [if_neg (fun q => hn (of_decide_eq_true q))]
    exact k H' cells' l' ap s'
theorem pick2_run {K : PySem.W.Frag} {vs : List V} {H : Hp} {Q : VK} {E : XK} (h : spF 2 pickF vs H Q E) : tP2 K { nx := fun _ H' => Q .non H', rt := Q } (start ["source", "many", "left", "mixed"] vs) H := by
  obtain ⟨a, c, n, cells, l, m, t, rfl, s, hn, hq⟩ := pick_in h
  refine lp2_run (n := n) s rfl rfl fun H1 cells1 l1 ap1 s1 => ?_
  refine ⟨_, rfl, a, _, rfl, s1.gl, ?_⟩
  refine ⟨_, rfl, n, 2, rfl, rfl, _, rfl, ?_⟩
  have go : ∀ (x : Int) (mx : Int), mx = (if n > 1 then n else 1) → (n < 2 ∨ 2 ≤ n) → Q (.int (l1 % mx)) (upd H1 a (srcO c (l1 / mx) m t)) := by
    intro x mx em hc
    rcases hq with ⟨hlt, q⟩ | ⟨hge, q⟩
    · have e1 : mx = 1 := by rw [em, if_neg (by omega)]
      rw [e1, Int.emod_one]
      exact q _ _ _ _ _ ap1.a (s1.put _ m t)
    · have e1 : mx = n := by rw [em, if_pos (by omega)]
      rw [e1]
      exact q _ _ _ _ _ _ (mod_in hge).1 (mod_in hge).2 ap1.a (s1.put _ m t)
  have hmx : 0 < (if n > 1 then n else 1 : Int) ∧ (if n > 1 then n else 1 : Int).natAbs.log2 < 9000 := by
    by_cases h1 : n > 1
    · rw [if_pos h1]; exact ⟨by omega, log_small (by omega) hn⟩
    · rw [if_neg h1]; exact ⟨by decide, by decide⟩
  have early : (∀ D : Ends, D.rt = Q → tSeq (tAsg (tOp rDivI (tVar 2) mxT) (pS "left")) (tRet (tOp rModI (oI (tVar 2)) mxT)) D ((start ["source", "many", "left", "mixed"] [.ref a, .int n]).set 2 (some (.int l1))) H1) := by
    intro D hD
    refine ⟨_, rfl, _, rfl, 1, n, rfl, l1, _, rfl, rfl, hmx, _, rfl, a, _, rfl, s1.pl _, ?_⟩
    refine ⟨_, rfl, .inl ⟨l1, rfl, _, rfl, 1, n, rfl, l1, _, rfl, rfl, hmx.1, ?_⟩⟩
    show D.rt _ _
    rw [hD]
    exact go 0 _ rfl (by omega)
  by_cases h2 : n < 2
  · show if decide (n < 2) = true then _ else _
    rw [if_pos (decide_eq_true h2)]
    exact early _ rfl
  · show if decide (n < 2) = true then _ else _
    rw [if_neg (fun q => h2 (of_decide_eq_true q))]
    refine ⟨_, rfl, l1, 1, rfl, rfl, _, rfl, ?_⟩
    by_cases hl : l1 > 1
    · show if decide (l1 > 1) = true then _ else _
      rw [if_pos (decide_eq_true hl)]
      exact early _ rfl
    · show if decide (l1 > 1) = true then _ else _
      rw [if_neg (fun q => hl (of_decide_eq_true q))]
      refine ⟨_, rfl, a, _, rfl, s1.gt, t, 1, rfl, rfl, _, rfl, a, _, rfl, s1.pt _, ?_⟩
      have s2 := s1.put l1 m (t + 1)
      rcases hq with ⟨hlt, q⟩ | ⟨hge, q⟩
      · omega
      refine ⟨_, rfl, a, _, rfl, s2.gm, _, rfl, a, _, rfl, s2.gt, t + 1, 104729, rfl, rfl, .inr ⟨by decide, by decide⟩, m, _, rfl, rfl, .inl ⟨_, rfl, _, 998244353, rfl, rfl, (by decide : (0 : Int) < 998244353), ?_⟩⟩
      have b5 : ∀ x : Int, -(2 ^ 64) < x % 998244353 ∧ x % 998244353 < 2 ^ 64 := fun x => by
        have h1 := Int.emod_nonneg x (show (998244353 : Int) ≠ 0 by decide)
        have h2 := Int.emod_lt_of_pos x (show (0 : Int) < 998244353 by decide)
        omega
      refine ⟨_, rfl, _, rfl, _, _, rfl, rfl, .inl (b5 _), _, rfl, a, _, rfl, s2.gt, t + 1, 17, rfl, rfl, .inr ⟨by decide, by decide⟩, _, _, rfl, rfl, .inl ⟨_, rfl, _, 2147483647, rfl, rfl, (by decide : (0 : Int) < 2147483647), ?_⟩⟩
      refine ⟨_, rfl, _, rfl, a, _, rfl, s2.pm _, ?_⟩
      refine ⟨_, rfl, _, 16, rfl, rfl, ⟨by decide, by decide⟩, .inl ⟨_, rfl, _, rfl, _, n, rfl, rfl, (by omega : 0 < n), ?_⟩⟩
      exact q _ _ _ _ _ _ (mod_in hge).1 (mod_in hge).2 (ap1.a).a (s2.put l1 _ (t + 1))
end
end DL

set_option Elab.async false
set_option linter.all false
set_option maxRecDepth 100000
namespace DL
noncomputable section
open PySem PySem.Spec PyProof.Rows L2
/-! ### a new list by + and * -/
def BinOkF (fo : D → D → T D) (r : R2) : Prop := ∀ (z : Zr) (P O : Addr → Prop) (H : Hp) (a b : D) (x y : V) (Q : VK), Ws z P O H → RepB z P O H a x → RepB z P O H b y →
  WP (fo a b) (fun d => ∀ p H', H p = none → SameS z H H' → Src z H' → Top z (Vw z P (Ow O p) H') (fun u => H' p = some u) d → Q (.ref p) H') → r x y H Q
def dAddL : D → D → T D
  | .lst a, .lst b => tIf (lenOk (a.length + b.length)) (.ok (.lst (a ++ b)))
  | _, _ => .no
def dMulL : D → D → T D
  | .lst a, .int b => tIf (ilt b 1000000 && ile 0 b && lenOk (a.length * b.toNat)) (.ok (.lst (rep a b.toNat)))
  | _, _ => .no
section
variable {X : Cx} {a b : Expr} {f g : Ev → T D} {r : R2} {fo : D → D → T D} {pos : Pos}
theorem d_opF {op : Operator} (ho : OpR X (binaryOp op) r) (hr : BinOkF fo r) (ha : PE X a (tB f)) (hb : PE X b (tB g)) : PE X (.BinOp a op b pos) (tF (fBin fo f g)) := PE.imp (pe_op ho ha hb) fun σ H Q ⟨z, P, O, ρ, R, w⟩ =>
  ⟨z, P, O, ρ, R, (WP.bind w).mono fun d w2 x H1 g1 s1 r1 => ⟨z, P, O, ρ, R.grow g1 s1, (WP.bind w2).mono fun e w3 y H2 g2 s2 r2 =>
    hr z P O H2 d e x y Q ((R.grow g1 s1).grow g2 s2).ws (r1.grow g2) r2 (w3.mono fun d k p H3 hp g3 s3 t => k p H3 (none_of g1 s1 (none_of g2 s2 hp)) ((g1.trans g2).trans g3) s3 t)⟩⟩
end
theorem new_top {z : Zr} {P O : Addr → Prop} {H : Hp} {ds : List D} {vs : List V} {p : Addr} (hp : H p = none) (r : Reps (sa z) (Vw z P O H) ds vs) : Top z (Vw z P (Ow O p) (upd H p (.lst vs))) (fun u => upd H p (.lst vs) p = some u) (.lst ds) :=
  ⟨vs, upd_same, r.mono (Vw.old hp (same_new hp))⟩
theorem addL_ok : BinOkF dAddL rCat := fun z P O H a b x y Q W ra rb w => by
  cases a <;> first | exact (show False from w).elim | skip
  cases b <;> first | exact (show False from w).elim | skip
  obtain ⟨hl, k⟩ := tIf_w w
  obtain ⟨p, vs, ex, hp, rp⟩ := ra.lst
  obtain ⟨q, ws, ey, hq, rq⟩ := rb.lst
  exact ⟨p, q, vs, ws, ex, ey, hp, hq, by rw [rp.length, rq.length]; exact lenOk_le hl, fun l hl' => WP.ok k l _ hl' (same_new hl') (src_new W.src hl') (new_top hl' (rp.append rq))⟩
theorem mulL_ok : BinOkF dMulL rRep := fun z P O H a b x y Q W ra rb w => by
  cases a <;> first | exact (show False from w).elim | skip
  cases b <;> first | exact (show False from w).elim | skip
  rename_i ds j
  obtain ⟨c, k⟩ := tIf_w w
  rw [Bool.and_eq_true, Bool.and_eq_true] at c
  obtain ⟨⟨c1, c2⟩, c3⟩ := c
  obtain ⟨p, vs, ex, hp, rp⟩ := ra.lst
  have h1 := ilt_iff.mp c1
  have h2 := ile_iff.mp c2
  refine ⟨p, j, vs, ex, rb.int, hp, by omega, by omega, by rw [rp.length]; exact lenOk_le c3, fun l hl => ?_⟩
  rw [← rep_flat]
  exact WP.ok k l _ hl (same_new hl) (src_new W.src hl) (new_top hl (rp.rep _))
/-! ### range with a step -/
def rgS (lo c : Int) : Nat → List D
  | 0 => []
  | n + 1 => .int lo :: rgS (lo + c) c n
theorem rgS_len : ∀ (n : Nat) (lo c : Int), (rgS lo c n).length = n
  | 0, _, _ => rfl
  | n + 1, lo, c => congrArg (· + 1) (rgS_len n (lo + c) c)
theorem rgS_get : ∀ (n : Nat) (lo c : Int) (i : Nat), i < n → (rgS lo c n)[i]? = some (.int (lo + (i : Nat) * c))
  | n + 1, lo, c, 0, _ => by show some (D.int lo) = some (.int (lo + ((0 : Nat) : Int) * c)); rw [Int.natCast_zero, Int.zero_mul, Int.add_zero]
  | n + 1, lo, c, i + 1, h => by
    show (rgS (lo + c) c n)[i]? = _
    rw [rgS_get n (lo + c) c i (by omega)]
    congr 2
    rw [Int.natCast_add, Int.add_mul]
    show lo + c + (i : Int) * c = lo + ((i : Int) * c + ((1 : Nat) : Int) * c)
    rw [Int.natCast_one, Int.one_mul]
    omega
def rg3ok (i j c : Int) : Bool := !ieq c 0 && Nat.blt c.natAbs 1073741824 && Builtin.Range.small i j c && ile 0 (Builtin.Range.rangeSize i j c)
def rng3 : List D → T (List D)
  | [.int i, .int j, .int c] => tIf (rg3ok i j c) (.ok (rgS i c (Builtin.Range.rangeSize i j c).toNat))
  | _ => .no
def fRng3 (g : Ev → T (List D)) : Ev → T (List D) := fun ρ => (g ρ).bind rng3
theorem le_fRng3 {a a' : Ev → T (List D)} (h1 : LE a a') : LE (fRng3 a) (fRng3 a') := fun ρ => T.le_bind (fun _ => T.le_refl _) (h1 ρ)
theorem wk_rngS {z : Zr} {P O : Addr → Prop} {H : Hp} {lo c : Int} {n : Nat} : Wk z (Lat z P O H) (L2.Itc lo c n) (rgS lo c n) := fun P2 O2 H2 l => by
  refine ⟨fun i hi => by rw [rgS_len] at hi; exact hi, fun i hi => by rw [rgS_len] at hi; exact Nat.le_of_eq hi.symm, fun i x H3 hi ⟨e, hx⟩ => ?_⟩
  subst e
  rw [rgS_len] at hi
  exact ⟨SameS.refl, l.ws.src, _, rgS_get n lo c i hi, hx⟩
section
variable {X : Cx} {tg a b c : Expr} {g : Ev → T (List D)} {p pos : Pos}
theorem irng3 (hg : Gl X "range") (hm : X.mg "range" = none) (ha : PA X [a, b, c] (tBs g)) (hs : starEach [a, b, c] X.env = (false, eval a X.env) :: starEach [b, c] X.env := by rfl) (hpl : (backTo pos (starEach [b, c] X.env)).any (·.1) = false := by rfl) :
    PI X tg (.Call (.Name "range" p) [a, b, c] [] pos) (tI (fRng3 g)) := PI.imp (pi_range3 hg hm ha hs hpl) fun σ H R ⟨z, P, O, ρ, Rl, w⟩ => ⟨z, P, O, ρ, Rl, (WP.bind w).mono fun ds w2 vs H1 g1 s1 r1 => by
  unfold rng3 at w2
  split at w2
  · rename_i i j k
    obtain ⟨cc, q⟩ := tIf_w w2
    unfold rg3ok at cc
    rw [Bool.and_eq_true, Bool.and_eq_true, Bool.and_eq_true] at cc
    obtain ⟨⟨⟨c1, c2⟩, c3⟩, c4⟩ := cc
    have c4 := ile_iff.mp c4
    obtain ⟨v, q1, e1, rv, u, q2, e2, ru, t, q3, e3, rt, e4⟩ := r1
    have e4' : q3 = [] := e4
    subst e4'
    subst e3
    subst e2
    refine ⟨i, j, k, (Builtin.Range.rangeSize i j k).toNat, by rw [e1, rv.int, ru.int, rt.int], ⟨fun e => ?_, nblt.mp c2, c3, by omega⟩, WP.ok q _ H1 g1 s1 wk_rngS⟩
    rw [e] at c1
    exact absurd c1 (by decide)
  · exact w2.elim⟩
end
end
end DL

set_option Elab.async false
set_option linter.all false
set_option maxRecDepth 100000
namespace DL
noncomputable section
open PySem PySem.Spec PyProof.Rows L2
/-! ### zip of two -/
def Jz (t1 t2 : Bool) (a b : Addr) : It :=
  ⟨fun i H => ∃ xs ys, H a = some (sqO t1 xs) ∧ H b = some (sqO t2 ys) ∧ i < xs.length ∧ i < ys.length,
   fun i H v H' => ∃ T' x y, v = .ref T' ∧ H T' = none ∧ H' = upd H T' (.tup [x, y]) ∧ (∀ xs, H a = some (sqO t1 xs) → xs[i]? = some x) ∧ ∀ ys, H b = some (sqO t2 ys) → ys[i]? = some y,
   fun i H => ∃ xs ys, H a = some (sqO t1 xs) ∧ H b = some (sqO t2 ys) ∧ i ≤ xs.length ∧ i ≤ ys.length ∧ (i = xs.length ∨ i = ys.length)⟩
structure Zp (z TI TO i1 i2 : Addr) : Prop where
  h1 : TI ≠ z
  h2 : TO ≠ z
  h3 : TI ≠ TO
  h4 : TI ≠ i1
  h5 : TI ≠ i2
  h6 : z ≠ i1
  h7 : z ≠ i2
  h8 : TO ≠ i1
  h9 : TO ≠ i2
  h10 : i1 ≠ i2
theorem Zp.sep {z TI TO i1 i2 a b : Addr} (Z : Zp z TI TO i1 i2) {H : Hp} (ha : H a ≠ none) (hb : H b ≠ none) (hz : H z = none) (hO : H TO = none) (n1 : H i1 = none) (n2 : H i2 = none) : ZipSep2 z TI TO i1 i2 [i1, a] [i2, b] := by
  have ne : ∀ {p q : Addr}, H p = none → H q ≠ none → p ≠ q := fun hp hq e => hq (e ▸ hp)
  refine ⟨Z.h1, Z.h2, Z.h3, Z.h4, by simp, ?_, ?_, Z.h5, by simp, ?_, ?_, ?_, ?_⟩
  · simp [Z.h6, ne hz ha]
  · simp [Z.h8, ne hO ha]
  · simp [Z.h7, ne hz hb]
  · simp [Z.h9, ne hO hb]
  · simp [Z.h10, ne n1 hb]
  · simp [Ne.symm Z.h10, ne n2 ha]
theorem turn_zp {P : Program} {w : World} {K : PySem.W.Frag} {elts : List Expr} {kk : Nat} {tpos : Pos} (t1 t2 : Bool) (a b z TI TO i1 i2 : Addr) (Z : Zp z TI TO i1 i2) :
    Turn P w K (.Tuple elts kk tpos) (Jz t1 t2 a b) [z, TI, TO, i1, i2] z (fun i h => IsZip h z TI TO .none ∧ IsTupOf2 h TI (.ref i1) (.ref i2) ∧ (∃ x y, IsTupOf2 h TO x y) ∧ itAt t1 h i1 a i ∧ itAt t2 h i2 b i) where
  mem := by simp
  obj := fun i h st c hc => by
    obtain ⟨hz, hTI, ⟨x, y, hTO⟩, q1, q2⟩ := st
    have e' : c = z ∨ c = TI ∨ c = TO ∨ c = i1 ∨ c = i2 := by simpa using hc
    rcases e' with q | q | q | q | q
    · rw [q]; exact ⟨_, hz, fun v q => nomatch q⟩
    · rw [q]; exact ⟨_, hTI, fun v q => nomatch q⟩
    · rw [q]; exact ⟨_, hTO, fun v q => nomatch q⟩
    · rw [q]; exact q1.obj
    · rw [q]; exact q2.obj
  keep := fun i h h' st k => by
    obtain ⟨hz, hTI, ⟨x, y, hTO⟩, q1, q2⟩ := st
    exact ⟨k z (by simp) _ hz, k TI (by simp) _ hTI, ⟨x, y, k TO (by simp) _ hTO⟩, q1.at_ fun o q => k i1 (by simp) o q, q2.at_ fun o q => k i2 (by simp) o q⟩
  item := by
    intro X hP hw hK hc i pins s σ H E I hf st hg
    subst hP hw hK
    obtain ⟨hz, hTI, ⟨x0, y0, hTO⟩, q1, q2⟩ := st
    obtain ⟨xs, ys, ha, hb, hx, hy⟩ := hg
    obtain ⟨its, rv, p⟩ := seq_of I ha
    obtain ⟨its2, rv2, p2⟩ := seq_of I hb
    have nz := (hf z (by simp)).1
    have nO := (hf TO (by simp)).1
    have n1 := (hf i1 (by simp)).1
    have n2 := (hf i2 (by simp)).1
    have ha' : H a ≠ none := by rw [ha]; exact fun q => nomatch q
    have hb' : H b ≠ none := by rw [hb]; exact fun q => nomatch q
    have S := Z.sep ha' hb' nz nO n1 n2
    have hai : a ≠ i1 := fun e => ha' (e ▸ n1)
    have hbi : b ≠ i2 := fun e => hb' (e ▸ n2)
    have hzl : z < s.heap.objs.size := Heap.lt_size hz
    have sz1 : i < its.toArray.size := by rw [List.size_toArray, ← rv.length]; exact hx
    have sz2 : i < its2.toArray.size := by rw [List.size_toArray, ← rv2.length]; exact hy
    refine wpAny_pyNext_zipD2_item S (drw (A := X.A.in1) (I.ok.hd hc) t1 i1 a hai its.toArray) (drw (A := X.A.in1) (I.ok.hd hc) t2 i2 b hbi its2.toArray) hz hTI hTO ⟨q1, p⟩ ⟨q2, p2⟩ sz1 sz2 fun u u2 h' tk e1 e2 z' TO' d1 d2 hT hsz hk => ?_
    obtain ⟨x, hxv⟩ : ∃ x, xs[i]? = some x := ⟨_, List.getElem?_eq_getElem hx⟩
    obtain ⟨y, hyv⟩ : ∃ y, ys[i]? = some y := ⟨_, List.getElem?_eq_getElem hy⟩
    obtain ⟨u', hu', ru⟩ := rv.get hxv
    obtain ⟨u2', hu2', ru2⟩ := rv2.get hyv
    have eu : u = u' := by
      have q : its.toArray[i]? = some u := e1
      rw [List.getElem?_toArray] at q
      exact Option.some.inj (q.symm.trans hu')
    have eu2 : u2 = u2' := by
      have q : its2.toArray[i]? = some u2 := e2
      rw [List.getElem?_toArray] at q
      exact Option.some.inj (q.symm.trans hu2')
    subst eu
    subst eu2
    refine ⟨_, rfl, wpAny_letOwnedTupleGo_zip (s := { s with heap := h', toks := tk }) z' fun h'' z'' sb => ?_⟩
    have hT2 : h''.get? s.heap.objs.size = some { cls := .type "tuple", data := .seq #[u, u2] } := (sb.2 _ (Nat.ne_of_gt hzl)).trans hT
    have new : ObjOk X.prog X.w (upd H s.heap.objs.size (.tup [x, y])) h'' s.heap.objs.size (.tup [x, y]) :=
      ⟨by show 2 ≤ sizeLine; decide, [u, u2], .cons ru (.cons ru2 .nil), ⟨_, hT2, rfl, _, rfl⟩⟩
    have I1 : L2.Inv X pins σ (upd H s.heap.objs.size (.tup [x, y])) { s with heap := h'', toks := tk } :=
      I.turnedNew (t' := tk) (ch := [z, TI, TO, i1, i2]) (fun c o hb q => (sb.2 c (fun q' => hb (by simp [q']))).trans (hk c o (fun q' => hb (by simp [q'])) (fun q' => hb (by simp [q'])) (fun q' => hb (by simp [q'])) (fun q' => hb (by simp [q'])) q)) hf (Nat.le_refl _) new
    refine ⟨.ref s.heap.objs.size, _, I1, rfl, ⟨_, x, y, rfl, I.hok.fresh (Nat.le_refl _), rfl, fun l hl => ?_, fun l hl => ?_⟩, ⟨z'', ?_, ⟨u, u2, ?_⟩, ?_, ?_⟩, fun c hcm => ?_⟩
    · rw [sqO_inj (Option.some.inj (hl.symm.trans ha))]; exact hxv
    · rw [sqO_inj (Option.some.inj (hl.symm.trans hb))]; exact hyv
    · exact (sb.2 _ Z.h1).trans (hk _ _ Z.h1 Z.h3 Z.h4 Z.h5 hTI)
    · exact (sb.2 _ Z.h2).trans TO'
    · exact d1.1.at_ fun o q => (sb.2 _ (Ne.symm Z.h6)).trans q
    · exact d2.1.at_ fun o q => (sb.2 _ (Ne.symm Z.h7)).trans q
    · have hlt : c < s.heap.objs.size := by
        have e' : c = z ∨ c = TI ∨ c = TO ∨ c = i1 ∨ c = i2 := by simpa using hcm
        rcases e' with q | q | q | q | q
        · rw [q]; exact hzl
        · rw [q]; exact Heap.lt_size hTI
        · rw [q]; exact Heap.lt_size hTO
        · rw [q]; obtain ⟨_, e1, _⟩ := q1.obj; exact Heap.lt_size e1
        · rw [q]; obtain ⟨_, e2, _⟩ := q2.obj; exact Heap.lt_size e2
      rw [upd_ne (Nat.ne_of_lt hlt)]
      exact (hf c hcm).1
  done := by
    intro X hP hw hK hc i pins s σ H E I hf st hg
    subst hP hw hK
    obtain ⟨hz, hTI, ⟨x0, y0, hTO⟩, q1, q2⟩ := st
    obtain ⟨xs, ys, ha, hb, hx, hy, hend⟩ := hg
    obtain ⟨its, rv, p⟩ := seq_of I ha
    obtain ⟨its2, rv2, p2⟩ := seq_of I hb
    have nz := (hf z (by simp)).1
    have nO := (hf TO (by simp)).1
    have n1 := (hf i1 (by simp)).1
    have n2 := (hf i2 (by simp)).1
    have ha' : H a ≠ none := by rw [ha]; exact fun q => nomatch q
    have hb' : H b ≠ none := by rw [hb]; exact fun q => nomatch q
    have S := Z.sep ha' hb' nz nO n1 n2
    have hai : a ≠ i1 := fun e => ha' (e ▸ n1)
    have hbi : b ≠ i2 := fun e => hb' (e ▸ n2)
    have l1 : its.toArray.size = xs.length := by rw [List.size_toArray, ← rv.length]
    have l2 : its2.toArray.size = ys.length := by rw [List.size_toArray, ← rv2.length]
    exact wpAny_pyNext_zipD2_end S (drw (A := X.A.in1) (I.ok.hd hc) t1 i1 a hai its.toArray) (drw (A := X.A.in1) (I.ok.hd hc) t2 i2 b hbi its2.toArray) hz hTI hTO ⟨q1, p⟩ ⟨q2, p2⟩ (by omega) (by omega) (by omega) fun h' tk hk =>
      ⟨rfl, I.turnedL (t' := tk) (ch := [z, TI, TO, i1, i2]) (fun c o hb q => hk c o (fun q' => hb (by simp [q'])) (fun q' => hb (by simp [q'])) (fun q' => hb (by simp [q'])) (fun q' => hb (by simp [q'])) q) hf⟩
  self := fun A i s Q E st h => wpAny_pyIter_zip st.1 h
def iZp (ta : TA) : TI := fun σ H R => ta σ H fun vs H1 => ∃ a b xs ys t1 t2, vs = [.ref a, .ref b] ∧ H1 a = some (sqO t1 xs) ∧ H1 b = some (sqO t2 ys) ∧ R (Jz t1 t2 a b) H1
theorem bt_zip : bootBuiltins "zip" = some (.type "zip") := by decide +kernel
theorem pi_zp {X : Cx} {e e2 : Expr} {ta : TA} {p pos tpos : Pos} {elts : List Expr} {kk : Nat} (hg : Gl X "zip") (hm : X.mg "zip" = none) (ha : PA X [e, e2] ta)
    (hs : starEach [e, e2] X.env = (false, eval e X.env) :: starEach [e2] X.env := by rfl) (hpl : (backTo pos (starEach [e2] X.env)).any (·.1) = false := by rfl) :
    PI X (.Tuple elts kk tpos) (.Call (.Name "zip" p) [e, e2] [] pos) (iZp ta) := by
  refine ⟨fun pins s σ H R I h => ?_⟩
  refine Call_ (ld_blt I hg hm bt_zip (PyProof.Rows.callWith_type1 (thn (ha.run pos pins s σ H _ I h) fun us s1 ⟨vs, H1, I1, r1, q1⟩ => ?_) hs hpl))
  obtain ⟨a, b, xs, ys, t1, t2, rfl, hqa, hqb, q⟩ := q1
  obtain ⟨u1, u2, rfl, r, r'⟩ := Vals.two r1
  cases r
  cases r'
  obtain ⟨its, rv, p1⟩ := seq_of I1 hqa
  obtain ⟨its2, rv2, p2⟩ := seq_of I1 hqb
  refine zip_begins2 (bgn t1 a its.toArray) (bgn t2 b its2.toArray) p1 p2 fun h' hz hTI hTO g1 g2 hsz hk => wpAny_pyIter_zip hz ?_
  have I2 : L2.Inv X pins σ H1 { s1 with heap := h' } := I1.kept (t' := s1.toks) hk
  have Z : Zp (s1.heap.objs.size + 4) (s1.heap.objs.size + 2) (s1.heap.objs.size + 3) s1.heap.objs.size (s1.heap.objs.size + 1) := by
    constructor
    · exact (by omega : (s1.heap.objs.size + 2 : Nat) ≠ s1.heap.objs.size + 4)
    · exact (by omega : (s1.heap.objs.size + 3 : Nat) ≠ s1.heap.objs.size + 4)
    · exact (by omega : (s1.heap.objs.size + 2 : Nat) ≠ s1.heap.objs.size + 3)
    · exact (by omega : (s1.heap.objs.size + 2 : Nat) ≠ s1.heap.objs.size)
    · exact (by omega : (s1.heap.objs.size + 2 : Nat) ≠ s1.heap.objs.size + 1)
    · exact (by omega : (s1.heap.objs.size + 4 : Nat) ≠ s1.heap.objs.size)
    · exact (by omega : (s1.heap.objs.size + 4 : Nat) ≠ s1.heap.objs.size + 1)
    · exact (by omega : (s1.heap.objs.size + 3 : Nat) ≠ s1.heap.objs.size)
    · exact (by omega : (s1.heap.objs.size + 3 : Nat) ≠ s1.heap.objs.size + 1)
    · exact (by omega : (s1.heap.objs.size : Nat) ≠ s1.heap.objs.size + 1)
  refine ⟨_, _, _, _, H1, rfl, I2, turn_zp t1 t2 a b _ _ _ _ _ Z, ⟨hz, hTI, ⟨_, _, hTO⟩, itAt.start g1, itAt.start g2⟩, fun c hc => ?_, q⟩
  have hle : s1.heap.objs.size ≤ c := by
    have e' : c = s1.heap.objs.size + 4 ∨ c = s1.heap.objs.size + 2 ∨ c = s1.heap.objs.size + 3 ∨ c = s1.heap.objs.size ∨ c = s1.heap.objs.size + 1 := by simpa using hc
    rcases e' with z | z | z | z | z <;> rw [z]
    · exact Nat.le_add_right _ _
    · exact Nat.le_add_right _ _
    · exact Nat.le_add_right _ _
    · exact Nat.le_refl _
    · exact Nat.le_add_right _ _
  exact I1.fpOk hle (I1.hok.fresh hle)
/-! zip by data -/
def zpD : List D → List D → List D
  | a :: r, b :: s => .tup [a, b] :: zpD r s
  | _, _ => []
theorem zpD_len : ∀ (a b : List D), (zpD a b).length = min a.length b.length
  | [], b => by simp [zpD]
  | _ :: _, [] => by simp [zpD]
  | _ :: r, _ :: s => by rw [zpD, List.length_cons, zpD_len r s, List.length_cons, List.length_cons]; omega
theorem zpD_get : ∀ (a b : List D) (i : Nat) (x y : D), a[i]? = some x → b[i]? = some y → (zpD a b)[i]? = some (.tup [x, y])
  | [], _, i, _, _, h, _ => by simp at h
  | _ :: _, [], i, _, _, _, h => by simp at h
  | _ :: r, _ :: s, 0, x, y, h1, h2 => by cases h1; cases h2; rfl
  | _ :: r, _ :: s, i + 1, x, y, h1, h2 => zpD_get r s i x y h1 h2
def zpO : List D → T (List D)
  | [a, b] => match partsOf a, partsOf b with
    | some x, some y => .ok (zpD x y)
    | _, _ => .no
  | _ => .no
def fZp (g : Ev → T (List D)) : Ev → T (List D) := fun ρ => (g ρ).bind zpO
theorem le_fZp {a a' : Ev → T (List D)} (h1 : LE a a') : LE (fZp a) (fZp a') := fun ρ => T.le_bind (fun _ => T.le_refl _) (h1 ρ)
theorem zpO_w {ds : List D} {Q : List D → Prop} (w : WP (zpO ds) Q) : ∃ a b x y, ds = [a, b] ∧ partsOf a = some x ∧ partsOf b = some y ∧ Q (zpD x y) := by
  unfold zpO at w
  split at w
  · rename_i a b
    split at w
    · rename_i x y h1 h2
      exact ⟨a, b, x, y, rfl, h1, h2, w⟩
    · exact w.elim
  · exact w.elim
theorem wk_zp {z : Zr} {P O : Addr → Prop} {H : Hp} {ds es : List D} {L : (Addr → Prop) → (Addr → Prop) → Hp → Prop} {a b : Addr} {t1 t2 : Bool} {vs us : List V} (hl : ∀ P2 O2 H2, L P2 O2 H2 → Lat z P O H P2 O2 H2 ∧ H2 a = some (sqO t1 vs) ∧ H2 b = some (sqO t2 us))
    (r : Reps (sa z) (Vw z P O H) ds vs) (r' : Reps (sa z) (Vw z P O H) es us) : Wk z L (Jz t1 t2 a b) (zpD ds es) := fun P2 O2 H2 l => by
  obtain ⟨lt, ha, hb⟩ := hl P2 O2 H2 l
  refine ⟨fun i hi => ?_, fun i hi => ?_, fun i x H3 hi ⟨T', x1, y1, ev, hn, eH, hx, hy⟩ => ?_⟩
  · rw [zpD_len] at hi
    exact ⟨vs, us, ha, hb, by rw [r.length]; omega, by rw [r'.length]; omega⟩
  · rw [zpD_len] at hi
    exact ⟨vs, us, ha, hb, by rw [r.length]; omega, by rw [r'.length]; omega, by rw [r.length, r'.length]; omega⟩
  · obtain ⟨d, hd, rd⟩ := r.getV (hx vs ha)
    obtain ⟨e, he, re⟩ := r'.getV (hy us hb)
    obtain ⟨q1, q2, q3⟩ := pair_new (d := d) (e := e) lt.ws hn (rd.mono lt.vw) (re.mono lt.vw)
    rw [eH, ev]
    exact ⟨q1, q2, _, zpD_get ds es i d e hd he, q3⟩
section
variable {X : Cx} {elts : List Expr} {kk : Nat} {tpos p pos : Pos} {e e2 : Expr} {g : Ev → T (List D)}
theorem bzip (hg : Gl X "zip") (hm : X.mg "zip" = none) (ha : PA X [e, e2] (tBs g)) (hs : starEach [e, e2] X.env = (false, eval e X.env) :: starEach [e2] X.env := by rfl) (hpl : (backTo pos (starEach [e2] X.env)).any (·.1) = false := by rfl) :
    PI X (.Tuple elts kk tpos) (.Call (.Name "zip" p) [e, e2] [] pos) (tIb (fZp g)) := PI.imp (pi_zp hg hm ha hs hpl) fun σ H R ⟨z, P, O, ρ, Rl, w⟩ => ⟨z, P, O, ρ, Rl, (WP.bind w).mono fun ds w2 vs H1 g1 s1 r1 => by
  obtain ⟨d1, d2, x, y, rfl, h1, h2, k⟩ := zpO_w w2
  obtain ⟨v, u, ev, rv, ru⟩ := two_w (ds := []) r1
  obtain ⟨a, us, t1, ea, na, ha, ra⟩ := parts_sqB h1 rv
  obtain ⟨b, ws, t2, eb, nb, hb, rb⟩ := parts_sqB h2 ru
  exact ⟨a, b, us, ws, t1, t2, by rw [ev, ea, eb], ha, hb, k _ H1 g1 s1 (wk_zp (fun P2 O2 H2 l => ⟨l.lat, l.same a _ na ha, l.same b _ nb hb⟩) ra rb)⟩⟩
theorem izip (hg : Gl X "zip") (hm : X.mg "zip" = none) (ha : PA X [e, e2] (tDs g)) (hs : starEach [e, e2] X.env = (false, eval e X.env) :: starEach [e2] X.env := by rfl) (hpl : (backTo pos (starEach [e2] X.env)).any (·.1) = false := by rfl) :
    PI X (.Tuple elts kk tpos) (.Call (.Name "zip" p) [e, e2] [] pos) (tI (fZp g)) := PI.imp (pi_zp hg hm ha hs hpl) fun σ H R ⟨z, P, O, ρ, Rl, w⟩ => ⟨z, P, O, ρ, Rl, (WP.bind w).mono fun ds w2 vs H1 g1 s1 r1 => by
  obtain ⟨d1, d2, x, y, rfl, h1, h2, k⟩ := zpO_w w2
  obtain ⟨v, u, ev, rv, ru⟩ := two_wD r1
  obtain ⟨a, us, t1, ea, va, ha, ra⟩ := parts_sq h1 rv
  obtain ⟨b, ws, t2, eb, vb, hb, rb⟩ := parts_sq h2 ru
  exact ⟨a, b, us, ws, t1, t2, by rw [ev, ea, eb], ha, hb, k _ H1 g1 s1 (wk_zp (fun P2 O2 H2 l => ⟨l, (l.same a _ va.1 va.2.2.1 ha).2, (l.same b _ vb.1 vb.2.2.1 hb).2⟩) ra rb)⟩⟩
end
end
end DL

set_option Elab.async false
set_option linter.all false
set_option maxRecDepth 100000
namespace PySem
section
variable {prog : Program} {w : World} {K : Type} [DecidableEq K] {knd : HeapKind prog w K} {A : Around} {E : Value → Shared → Prop} {s : Shared}
theorem atKey_none : ∀ {xs : List (K × Addr × Value)} {k : K}, k ∉ xs.map (·.1) → atKey xs k = none := by
  intro xs
  induction xs with
  | nil => intro k h; rfl
  | cons x xs ih =>
    intro k h
    rw [List.map_cons, List.mem_cons, not_or] at h
    have h1 : x.1 ≠ k := fun e => h.1 e.symm
    have := ih h.2
    simp_all [atKey]
    assumption
theorem storedAllH_apart : ∀ (ys xs : List (K × Addr × Value)), ((xs ++ ys).map (·.1)).Nodup → storedAllH xs ys = xs ++ ys := by
  intro ys
  induction ys with
  | nil => intro xs _; simp [storedAllH]
  | cons y ys ih =>
    intro xs h
    have e : storedH xs y.1 y.2.1 y.2.2 = xs ++ [y] := storedH_new (atKey_none (by
      intro hm
      rw [List.map_append, List.nodup_append] at h
      exact h.2.2 _ hm _ (by simp) rfl)) _ _
    have h' := ih (xs ++ [y]) (by rw [List.append_assoc]; exact h)
    show storedAllH (storedH xs y.1 y.2.1 y.2.2) ys = _
    rw [e, h', List.append_assoc]; rfl
theorem kt_call_dictH (st : knd.Stays) {o : Addr} {more : List (K × Addr × Value)} {Q : Value → Shared → Prop} (hu : ∀ A' : Around, A'.units ≤ A.units + 3 → knd.room A') (hoS : (o == sysModules) = false) (ho : s.heap.DictOfH knd o more) (hsz : more.length ≤ sizeLine)
    (hap : (more.map fun x => knd.hash x.1).Nodup)
    (h : ∀ h', h'.DictOfH knd s.heap.objs.size more → Heap.SameBut s.heap.objs.size (s.heap.push { cls := .type "dict", data := .dict #[] }) h' → Q (.ref s.heap.objs.size) { s with heap := h' }) :
    wpAny (model prog w) A (call (.type "dict") [.ref o]) Q E s := by
  refine callType_codes (Q₁ := fun obj s₁ => obj = .ref s.heap.objs.size ∧ s₁ = { s with heap := s.heap.push { cls := .type "dict", data := .dict #[] } }) F.kt_called_dict (F.kt_typeCall_dict_1 _) F.entry_dict_init (kt_code_dict_new _ ⟨rfl, rfl⟩) ?_
  rintro obj s₁ ⟨rfl, rfl⟩
  have hnew : (s.heap.push { cls := .type "dict", data := .dict #[] }).DictOfH knd s.heap.objs.size [] := Heap.DictOfH.new s.heap
  have ho' : (s.heap.push { cls := .type "dict", data := .dict #[] }).DictOfH knd o more := by
    obtain ⟨o1, es, ep, h1, h2, h3, h4, h5, h6⟩ := ho
    exact ⟨o1, es, ep, Heap.get?_push_of_some _ h1, h2, h3, h4, fun x hm => st.stays (fun b o _ _ e _ => Heap.get?_push_of_some _ e) (h5 x hm), h6⟩
  have hn : (more.map (·.1)).Nodup := let ⟨_, _, _, _, _, _, _, _, hn⟩ := ho; hn
  have hdo : s.heap.objs.size ≠ o := by
    obtain ⟨_, _, _, hg, _⟩ := ho
    exact fun e => absurd (Heap.lt_size hg) (by rw [e]; exact Nat.lt_irrefl _)
  refine ⟨hnew.typeIs, F.args_dict_init_2 _ _, ?_⟩
  unfold Builtin.«dict.__init__»
  refine wpAny_bind ?_
  unfold Builtin.Dict.selfAndRest
  refine wpAny_bind (wpAny_notOrdered_dict hnew.typeIs ?_)
  show wpAny _ _ (pure (s.heap.objs.size, [Value.ref o])) _ _ _
  refine wpAny_pure ?_
  show wpAny _ _ (Builtin.Dict.updateFrom "dict.__init__" s.heap.objs.size (.ref o) [] .none) _ _ _
  refine updateFrom_dictH .none ?_ hdo hoS hnew ho' (.inr ⟨fun x hm => ?_, hap⟩) (by simpa using hsz) fun h' hd' _ hs' => ?_
  · exact hu _ (by first | exact Nat.le_refl _ | (show _ + _ ≤ _; omega) | (simp [Around.in1]; done))
  · obtain ⟨_, _, _, _, _, _, _, his, _⟩ := ho'
    exact st.tuple (his x hm)
  · rw [storedAllH_apart more [] hn] at hd'
    exact ⟨rfl, h h' hd' hs'⟩
end
end PySem

namespace L2
noncomputable section
open PySem PySem.Spec PyProof.Rows
/-- the keys of a dict of tuples hash apart (what the model asks of a copy) -/
def Apart (prog : Program) (w : World) (ks : List (List Key)) : Prop := (ks.map (tupleKind (mixKind prog w)).hash).Nodup
section
variable {X : Cx} {pins : List (Addr × Obj)} {σ : St} {H : Hp} {s : Shared} {a : Addr} {kvs : List (List Key × V)} {A : Around} {E : Value → Shared → Prop}
theorem KT.keys {H : Hp} : ∀ {l : List (List Key × V)} {m : List (List Key × Addr × Value)}, KT H l m → l.map (·.1) = m.map (·.1) := by
  intro l m q
  induction q with
  | nil => rfl
  | cons h t ih => simp only [List.map_cons]; rw [ih, h.1]
theorem d_copyOfT {Q : Value → Shared → Prop} (hu : A.units + 4 < cLine) (I : Inv X pins σ H s) (e : Rd H a (.dT kvs)) (hap : Apart X.prog X.w (kvs.map (·.1)))
    (h : ∀ p s', H p = none → Inv X pins σ (upd H p (.dT kvs)) s' → Q (.ref p) s') : wpAny (model X.prog X.w) A (call (.type "dict") [.ref a]) Q E s := by
  obtain ⟨z, hd, xs, rel, dd⟩ := dt_rd I.hok e
  have rk := KT.keys rel
  have hn : H s.heap.objs.size = none := I.hok.fresh (Nat.le_refl _)
  refine kt_call_dictH tupleKind_stays (fun A' q => show A'.units < cLine by omega) hd dd (by rw [← rel.length]; exact z) (by
      have h2 : (List.map (tupleKind (mixKind X.prog X.w)).hash (xs.map (·.1))).Nodup := by rw [← rk]; exact hap
      simpa [Function.comp_def] using h2) fun h' dd' hs => ?_
  refine h _ _ hn (I.laid (a := s.heap.objs.size) (o := .dT kvs) (t' := s.toks) (fun b q hq => ?_) (Nat.le_refl _) ?_)
  · exact (hs.2 b (Nat.ne_of_lt (Heap.lt_size hq))).trans (Heap.get?_push_of_some _ hq)
  · obtain ⟨o1, es, ep, h1, h2, h3, h4, h5, h6⟩ := dd'
    exact ⟨z, beq_eq_false_iff_ne.mpr (Ne.symm (Nat.ne_of_lt I.big)), xs, Paired.mapP rel fun p q z => ⟨z.1, by rw [upd_ne (ne_of_none z.2.1 hn)]; exact z.2.1, z.2.2⟩, o1, es, ep, h1, h2, h3, h4, h6⟩
end
end
end L2

set_option Elab.async false
set_option linter.all false
set_option maxRecDepth 100000
namespace L2
noncomputable section
open PySem PySem.Spec PyProof.Rows
/-! ### dict(d): a copy; tuple keys that are pairs of small numbers -/
def hsh2 (a b : Int) : Int := reduceHash (Builtin.Tuple.tupleHashOf [hashInt a, hashInt b])
def boxI : List Int := [0, 1, 2, 3, 4, 5, 6, 7, 8, 9, 10]
def boxJ : List Int := (List.range 47).map fun i => ((i : Nat) : Int)
def boxA (f : Int → Bool) : Bool := boxI.all f
def ndI : List Int → Bool
  | [] => true
  | a :: r => r.all (fun b => match DL.ieq a b with | true => false | false => true) && ndI r
theorem ndI_w : ∀ {l : List Int}, ndI l = true → l.Nodup
  | [], _ => List.nodup_nil
  | a :: r, h => by
    unfold ndI at h
    rw [Bool.and_eq_true] at h
    refine List.nodup_cons.mpr ⟨fun hm => ?_, ndI_w h.2⟩
    have := List.all_eq_true.mp h.1 a hm
    rw [DL.ieq_eq, decide_eq_true rfl] at this
    cases this
def boxL : List (Int × Int) := boxI.flatMap fun a => boxJ.map fun b => (a, b)
theorem box_nd : ndI (boxL.map fun p => hsh2 p.1 p.2) = true := by decide +kernel
theorem nodup_on {α β : Type} {f : α → β} : ∀ {l : List α}, (l.map f).Nodup → ∀ x ∈ l, ∀ y ∈ l, f x = f y → x = y
  | [], _, _, hx, _, _, _ => nomatch hx
  | a :: r, h, x, hx, y, hy, e => by
    rw [List.map_cons, List.nodup_cons] at h
    rcases List.mem_cons.mp hx with hx | hx <;> rcases List.mem_cons.mp hy with hy | hy
    · rw [hx, hy]
    · exact absurd (List.mem_map_of_mem (f := f) hy) (by rw [← e, hx]; exact h.1)
    · exact absurd (List.mem_map_of_mem (f := f) hx) (by rw [e, hy]; exact h.1)
    · exact nodup_on h.2 x hx y hy e
theorem map_nodup {α β : Type} {f : α → β} : ∀ {l : List α}, (∀ x ∈ l, ∀ y ∈ l, f x = f y → x = y) → l.Nodup → (l.map f).Nodup
  | [], _, _ => List.nodup_nil
  | a :: r, h, hn => by
    obtain ⟨h1, h2⟩ := List.nodup_cons.mp hn
    rw [List.map_cons, List.nodup_cons]
    refine ⟨fun hm => ?_, map_nodup (fun x hx y hy => h x (List.mem_cons_of_mem _ hx) y (List.mem_cons_of_mem _ hy)) h2⟩
    obtain ⟨y, hy, e⟩ := List.mem_map.mp hm
    have := h y (List.mem_cons_of_mem _ hy) a List.mem_cons_self e
    exact h1 (this ▸ hy)
/-- a key that is a pair of small numbers -/
def boxK : List Key → Bool
  | [.inl a, .inl b] => (DL.ile 0 a && DL.ile a 10) && (DL.ile 0 b && DL.ile b 46)
  | _ => false
theorem boxK_w {k : List Key} (h : boxK k = true) : ∃ a b : Int, k = [.inl a, .inl b] ∧ (a, b) ∈ boxL := by
  unfold boxK at h
  split at h
  · rename_i a b
    rw [Bool.and_eq_true, Bool.and_eq_true, Bool.and_eq_true] at h
    have h1 := DL.ile_iff.mp h.1.1
    have h2 := DL.ile_iff.mp h.1.2
    have h3 := DL.ile_iff.mp h.2.1
    have h4 := DL.ile_iff.mp h.2.2
    refine ⟨a, b, rfl, List.mem_flatMap.mpr ⟨a, ?_, List.mem_map.mpr ⟨b, ?_, rfl⟩⟩⟩
    · have : a = 0 ∨ a = 1 ∨ a = 2 ∨ a = 3 ∨ a = 4 ∨ a = 5 ∨ a = 6 ∨ a = 7 ∨ a = 8 ∨ a = 9 ∨ a = 10 := by omega
      unfold boxI
      rcases this with e | e | e | e | e | e | e | e | e | e | e <;> (subst e; simp)
    · exact List.mem_map.mpr ⟨b.toNat, List.mem_range.mpr (by omega), by omega⟩
  · cases h
theorem boxK_hash {prog : Program} {w : World} {ks : List (List Key)} (hb : ∀ k ∈ ks, boxK k = true) (hn : ks.Nodup) : Apart prog w ks := by
  refine map_nodup (fun x hx y hy e => ?_) hn
  obtain ⟨a, b, rfl, h1⟩ := boxK_w (hb x hx)
  obtain ⟨c, d, rfl, h2⟩ := boxK_w (hb y hy)
  have e' : hsh2 a b = hsh2 c d := e
  have := nodup_on (f := fun p : Int × Int => hsh2 p.1 p.2) (ndI_w box_nd) (a, b) h1 (c, d) h2 e'
  cases this
  rfl
section
variable {X : Cx} {pins : List (Addr × Obj)} {σ : St} {H : Hp} {s : Shared} {a : Addr} {kvs : List (List Key × V)} {A : Around} {E : Value → Shared → Prop}
theorem d_copyOfB {Q : Value → Shared → Prop} (hu : A.units + 4 < cLine) (I : Inv X pins σ H s) (e : Rd H a (.dT kvs)) (hb : ∀ k ∈ kvs.map (·.1), boxK k = true)
    (h : ∀ p s', H p = none → Inv X pins σ (upd H p (.dT kvs)) s' → Q (.ref p) s') : wpAny (model X.prog X.w) A (call (.type "dict") [.ref a]) Q E s := by
  obtain ⟨z, hd, xs, rel, dd⟩ := dt_rd I.hok e
  have rk := KT.keys rel
  have hn : (xs.map (·.1)).Nodup := let ⟨_, _, _, _, _, _, _, _, hn⟩ := dd; hn
  exact d_copyOfT hu I e (boxK_hash hb (by rw [rk]; exact hn)) h
end
end
end L2
namespace DL
noncomputable section
open PySem PySem.Spec PyProof.Rows L2
/-- dict(d) of a dict: a copy -/
def rCopy : List V → Hp → VK → Prop := fun xs H Q => ∃ a, xs = [.ref a] ∧
  ((∃ kvs, Rx H a (.dK kvs) ∧ ∀ p, H p = none → Q (.ref p) (upd H p (.dK kvs))) ∨ (∃ kvs, Rx H a (.dT kvs) ∧ (∀ k ∈ kvs.map (·.1), boxK k = true) ∧ ∀ p, H p = none → Q (.ref p) (upd H p (.dT kvs))))
theorem call_dictC {X : Cx} (hu : X.A.units + 65 < cLine) : CallR X (.type "dict") rCopy := by
  intro pins s σ H xs us Q I r q
  obtain ⟨a, ex, q⟩ := q
  subst ex
  obtain ⟨u, eu, rx⟩ := vals1 r
  subst eu
  cases rx
  rcases q with ⟨kvs, hx, q⟩ | ⟨kvs, hx, hb, q⟩
  · exact d_copyOf I hx.rd fun p s' hp I' => ⟨.ref p, _, I', rfl, q p hp⟩
  · exact d_copyOfB (by omega) I hx.rd hb fun p s' hp I' => ⟨.ref p, _, I', rfl, q p hp⟩
def boxKd : Kd → Bool
  | .t ks => boxK ks
  | .k _ => false
def dCopy : D → T D
  | .dct false kvs => .ok (.dct false kvs)
  | .dct true kvs => tIf (kvs.all fun kv => boxKd kv.1) (.ok (.dct true kvs))
  | _ => .no
theorem boxT {sa' : Option Addr} {R : Addr → HO → Prop} : ∀ {kvs : List (Kd × D)} {l : List (List Key × V)}, RepT sa' R kvs l → (kvs.all fun kv => boxKd kv.1) = true → ∀ k ∈ l.map (·.1), boxK k = true
  | [], l, r, _, k, hk => by rw [show l = [] from r] at hk; exact nomatch hk
  | (kd, d) :: r, l, ⟨q, v, l', e, ek, _, t⟩, h, k, hk => by
    rw [List.all_cons, Bool.and_eq_true] at h
    rw [e, List.map_cons] at hk
    rcases List.mem_cons.mp hk with hk | hk
    · rw [hk]
      have := h.1
      rw [ek] at this
      exact this
    · exact boxT t h.2 k hk
theorem dcopy_ok : CallOkF (on1 dCopy) rCopy := fun z P O H ds vs Q W r w => by
  obtain ⟨d, v, e, rv, w⟩ := on1_w r w
  subst e
  cases d <;> first | exact (show False from w).elim | skip
  rename_i tk kvs
  cases tk
  · obtain ⟨a, l, ev, hx, rk⟩ := rv.dctK
    subst ev
    refine ⟨a, rfl, .inl ⟨l, hx, fun p hp => ?_⟩⟩
    exact WP.ok w p _ hp (same_new hp) (src_new W.src hp) ⟨_, upd_same, rk.mono (Vw.old hp (same_new hp))⟩
  · obtain ⟨c, w⟩ := tIf_w w
    obtain ⟨a, l, ev, hx, rk⟩ := rv.dctT
    subst ev
    refine ⟨a, rfl, .inr ⟨l, hx, boxT rk c, fun p hp => ?_⟩⟩
    exact WP.ok w p _ hp (same_new hp) (src_new W.src hp) ⟨_, upd_same, rk.mono (Vw.old hp (same_new hp))⟩
end
end DL

set_option Elab.async false
set_option linter.all false
set_option maxRecDepth 100000
namespace DL
noncomputable section
open PySem PySem.Spec PyProof.Rows L2
/-! ### {(a, b): v}: one pair, the key a tuple -/
def tDisp1 (tk tv : TE) : TE := fun σ H Q => ∀ p, H p = none → tk σ (upd H p (.dT [])) fun x H1 => tv σ H1 fun y H2 => H2 p = some (.dT []) ∧ ∃ a ks, x = .ref a ∧ H2 a = some (.tup (ks.map kV)) ∧ Q (.ref p) (upd H2 p (.dT [(ks, y)]))
theorem pe_disp1T {X : Cx} {pos : Pos} {k v : Expr} {tk tv : TE} (hu : X.A.units + 65 < cLine) (hk : PE X k tk) (hv : PE X v tv) : PE X (.Dict [some k] [v] pos) (tDisp1 tk tv) := by
  refine ⟨fun pins s σ H Q I q => ?_⟩
  have hn := I.hok.fresh (Nat.le_refl s.heap.objs.size)
  have I1 := I.laid (a := s.heap.objs.size) (o := .dT []) (h' := s.heap.push { cls := .type "dict", data := .dict #[] }) (t' := s.toks) (fun _ _ q => Heap.get?_push_of_some _ q) (Nat.le_refl _) (dt_empty s.heap I.big)
  have hz := zip_pairTrees [some k] [v] X.env pos rfl rfl
  have h0 : pairTrees [some k] [v] X.env pos ≠ [] := by
    have := pairTrees_length [some k] [v] X.env pos rfl rfl
    intro e
    rw [e] at this
    cases this
  have hlen : (pairTrees [some k] [v] X.env pos).length ≤ 15 := by
    rw [pairTrees_length [some k] [v] X.env pos rfl rfl]; exact (by decide : 1 ≤ 15)
  rw [arm_eval_Dict, hz, dictDisplay_pairs _ h0 (by omega)]
  refine wpAny_bind (wpAny_standAt (wpAny_bind (wpAny_subDictH (knd := tupleKind (mixKind X.prog X.w)) (Q := fun d s' => wpAny (model X.prog X.w) X.A (pure (Value.ref d)) _ X.xe s') (show X.A.units < cLine by omega) hlen ?_)))
  refine pairTrees_cons_walk (thn (hk.run pins _ σ _ _ I1 (q _ hn)) fun u s1 ⟨x, H1, I1', rx, q1⟩ => thn (hv.run pins s1 σ H1 _ I1' q1) fun w s2 ⟨y, H2, I2, ry, e, a, ks, ex, ea, q2⟩ => pairTrees_nil_walk ?_)
  subst ex
  cases (show u = Value.ref a from rx)
  obtain ⟨z, hd, xs, rel, dd⟩ := dt_of I2.hok e
  cases rel
  refine ⟨[(ks, a, w)], ⟨rfl, rfl, key_of I2.hok ea, trivial⟩, dd, fun h' tk' dd' hs => wpAny_pure ⟨.ref s.heap.objs.size, _, ?_, rfl, q2⟩⟩
  obtain ⟨q, es, ep, hq, h2, h3, h4, _, h5⟩ := dd'
  exact d_write I2 (by rw [e]; exact True.intro) hs ⟨q, hq⟩ ⟨by rw [sizeLine_eq]; exact (by decide : 1 ≤ 16777216), hd, [(ks, a, w)], .cons ⟨rfl, by
    show upd H2 _ _ a = _
    rw [upd_ne (L2.ne_of ea e (fun z => nomatch z))]; exact ea, ry⟩ .nil, q, es, ep, hq, h2, h3, h4, h5⟩
def fDispT (f g : Ev → T D) : Ev → T D := fun ρ => (f ρ).bind fun k => (g ρ).bind fun v => match keyOf true k with
  | some q => .ok (.dct true [(q, v)])
  | none => .no
theorem ddispT {X : Cx} {pos : Pos} {k v : Expr} {f g : Ev → T D} (hu : X.A.units + 65 < cLine) (hk : PE X k (tD f)) (hv : PE X v (tD g)) : PE X (.Dict [some k] [v] pos) (tF (fDispT f g)) := PE.imp (pe_disp1T hu hk hv) fun σ H Q ⟨z, P, O, ρ, R, w⟩ p hp => by
  have g0 : SameS z H (upd H p (.dT [])) := same_new hp
  have R1 := R.protect hp g0 (src_new R.src hp) ⟨_, upd_same, fun _ q => nomatch q⟩
  have hn := not_src R.src hp
  refine ⟨z, _, O, ρ, R1, (WP.bind w).mono fun k w2 x H1 g1 s1 r1 => ⟨z, _, O, ρ, R1.grow g1 s1, (WP.bind w2).mono fun v w3 y H2 g2 s2 r2 => ?_⟩⟩
  have hp2 : H2 p = some (.dT []) := (g1.trans g2) p _ hn upd_same
  cases k <;> first | exact w3.elim | skip
  rename_i ds
  cases hk : key2 ds with
  | none =>
    rw [show keyOf true (.tup ds) = (key2 ds).map Kd.t from rfl, hk] at w3
    exact w3.elim
  | some ks =>
    rw [show keyOf true (.tup ds) = (key2 ds).map Kd.t from rfl, hk] at w3
    obtain ⟨a, us, ex, vw, ru⟩ := r1.mono (Vw.grow g2)
    have eu := key2_v hk ru
    refine ⟨hp2, a, ks, ex, by rw [← eu]; exact vw.2.2.2.tup, WP.ok w3 p _ hp ?_ ?_ ⟨_, upd_same, ⟨ks, y, [], rfl, rfl, r2.mono ?_, rfl⟩⟩⟩
    · intro b o nb hb
      have ne : b ≠ p := fun q => by subst q; rw [hp] at hb; cases hb
      rw [upd_ne ne]
      exact (g1.trans g2) b o nb (g0 b o nb hb)
    · exact src_keep s2 fun b hb => upd_ne fun q => hn (q ▸ hb)
    · intro a u hv
      obtain ⟨q1, q2, q3, q4⟩ := hv
      have ne : a ≠ p := fun q => q2 (.inr q)
      refine ⟨fun q => q.elim q1 ne, fun q => q2 (.inl q), q3, ?_⟩
      rcases q4 with q4 | ⟨k', ob, q4⟩
      · exact .inl (by rw [upd_ne ne]; exact q4)
      · exact .inr ⟨k', ob, by rw [upd_ne ne]; exact q4⟩
theorem le_fDispT {f f' g g' : Ev → T D} (h1 : LE f f') (h2 : LE g g') : LE (fDispT f g) (fDispT f' g') := fun ρ => T.le_bind (fun _ => T.le_bind (fun _ => T.le_refl _) (h2 ρ)) (h1 ρ)
end
end DL

set_option Elab.async false
set_option linter.all false
set_option maxRecDepth 100000
namespace DL
noncomputable section
open PySem PySem.Spec PyProof.Rows L2
/-! ### isinstance(e, T), T a built-in type by its name -/
theorem bt_isinstance : bootBuiltins "isinstance" = some (.builtin "isinstance") := by decide +kernel
theorem bt_bool : bootBuiltins "bool" = some (.type "bool") := by decide +kernel
theorem bt_str : bootBuiltins "str" = some (.type "str") := by decide +kernel
def tyNs : List String := ["NoneType", "bool", "int", "str", "list", "tuple", "dict"]
inductive Ty where
  | non | bl | int | str | lst | tup | dct
def Ty.n : Ty → String
  | .non => "NoneType" | .bl => "bool" | .int => "int" | .str => "str" | .lst => "list" | .tup => "tuple" | .dct => "dict"
def Ty.is : Ty → Ty → Bool
  | .non, .non => true | .bl, .bl => true | .int, .int => true | .str, .str => true | .lst, .lst => true | .tup, .tup => true | .dct, .dct => true
  | .bl, .int => true
  | _, _ => false
theorem kit_is (a b : Ty) : kitB a.n b.n = some (a.is b) := by
  cases a <;> cases b <;> decide +kernel
def tyD : D → Option Ty
  | .non => some .non
  | .bl _ => some .bl
  | .int _ => some .int
  | .str _ => some .str
  | .txt _ => some .str
  | .lst _ => some .lst
  | .tup _ => some .tup
  | .dct false _ => some .dct
  | _ => none
def isiD (t : Ty) (d : D) : T D := match tyD d with
  | some a => .ok (.bl (a.is t))
  | none => .no
def fIsi (t : Ty) (f : Ev → T D) : Ev → T D := fun ρ => (f ρ).bind (isiD t)
theorem tyX_of {z : Zr} {P O : Addr → Prop} {H : Hp} {K : PySem.W.Frag} {d : D} {v : V} {a : Ty} (r : RepB z P O H d v) (h : tyD d = some a) : TyX K H v (.type a.n) := by
  cases d <;> first | (cases h; done) | skip
  · cases h; rw [r.non]; exact .base .non
  · cases h; rw [r.bl]; exact .base (.bl _)
  · cases h; rw [r.int]; exact .base (.int _)
  · cases h; rw [r.str]; exact .base (.str _)
  · cases h
    obtain ⟨p, vs, e, _, hp, _⟩ := r.tup
    rw [e]; exact .base (.tup hp)
  · cases h
    obtain ⟨p, vs, e, hp, _⟩ := r.lst
    rw [e]; exact .base (.lst hp)
  · rename_i tk kvs
    cases tk
    · cases h
      obtain ⟨p, l, e, hx, _⟩ := r.dctK
      rw [e]
      rcases hx with hx | ⟨_, o, hx⟩
      · exact .base (.dK hx)
      · exact .fDict hx
    · cases h
  · cases h; rw [r.txt]; exact .base (.str _)
theorem disi {X : Cx} {e : Expr} {f : Ev → T D} {p q pos : Pos} {x : Str} (t : Ty) (hg : Gl X "isinstance") (hm : X.mg "isinstance" = none) (hgT : Gl X x) (hmT : X.mg x = none) (hb : bootBuiltins x = some (.type t.n)) (he : PE X e (tB f))
    (hn : x ≠ "__name__" := by decide) (hd : (x == ("__debug__" : Str)) = false := by decide)
    (h1 : starEach [e, .Name x q] X.env = (false, eval e X.env) :: starEach [.Name x q] X.env := by rfl) (h2 : starEach [.Name x q] X.env = (false, eval (.Name x q) X.env) :: starEach [] X.env := by rfl)
    (hpl : (backTo pos (starEach [.Name x q] X.env)).any (·.1) = false := by rfl) :
    PE X (.Call (.Name "isinstance" p) [e, .Name x q] [] pos) (tD (fIsi t f)) :=
  PE.imp (pe_callB call_isi hg hm bt_isinstance (pa_cons he (pa_cons (pe_bltn (v := .ty t.n) hgT hmT hb rfl hn hd) pa_nil h2) h1) (by decide) (by decide) h1 hpl) fun σ H Q ⟨z, P, O, ρ, R, w⟩ =>
    ⟨z, P, O, ρ, R, (WP.bind w).mono fun d w2 v H1 g1 s1 r1 => by
      have w2 : WP (match tyD d with | some a => T.ok (D.bl (a.is t)) | none => .no) _ := w2
      cases h : tyD d with
      | none => rw [h] at w2; exact w2.elim
      | some a =>
        rw [h] at w2
        exact ⟨v, .ty t.n, .type a.n, .type t.n, a.is t, rfl, .ty t.n, tyX_of r1 h, kit_ty (kit_is a t), WP.ok w2 _ H1 g1 s1 rfl⟩⟩
theorem le_fIsi {t : Ty} {f f' : Ev → T D} (h1 : LE f f') : LE (fIsi t f) (fIsi t f') := fun ρ => T.le_bind (fun _ => T.le_refl _) (h1 ρ)
end
end DL

set_option Elab.async false
set_option linter.all false
set_option maxRecDepth 100000
namespace DL
noncomputable section
open PySem PySem.Spec PyProof.Rows L2
/-! ### x in (a, b, ..), data of any depth -/
def rInT (K : PySem.W.Frag) (neg : Bool) : R2 := fun x y H Q => ∃ d ds, Dp K H x d ∧ Dp K H y (.tuple ds) ∧ SeqAt.shaped d = true ∧ SeqAt.shaped (.tuple ds) = true ∧ Q (.bl (if neg then !(ds.any fun z => PyData.eqv z d) else ds.any fun z => PyData.eqv z d)) H
theorem op_inT {X : Cx} (hu : X.A.units + 65 < cLine) : OpR X (compareOp .In) (rInT X.K false) := by
  intro pins s σ H x y v u Q I rx ry h
  obtain ⟨d, ds, hd, he, sd, se, q⟩ := h
  obtain ⟨as, r1⟩ := Dp.reads I d x v hd rx
  obtain ⟨bs, r2⟩ := Dp.reads I (.tuple ds) y u he ry
  exact SeqAt.in_tuple_reads r2 r1 (SeqAt.canLay_of_shaped se) (SeqAt.canLay_of_shaped sd) (room_in_shaped sd hu) ⟨.bl _, H, I, rfl, q⟩
theorem op_notInT {X : Cx} (hu : X.A.units + 65 < cLine) : OpR X (compareOp .NotIn) (rInT X.K true) := by
  intro pins s σ H x y v u Q I rx ry h
  obtain ⟨d, ds, hd, he, sd, se, q⟩ := h
  obtain ⟨as, r1⟩ := Dp.reads I d x v hd rx
  obtain ⟨bs, r2⟩ := Dp.reads I (.tuple ds) y u he ry
  exact SeqAt.notIn_tuple_reads r2 r1 (SeqAt.canLay_of_shaped se) (SeqAt.canLay_of_shaped sd) (room_in_shaped sd hu) ⟨.bl _, H, I, rfl, q⟩
def dInT (neg : Bool) : D → D → T D
  | x, .tup ds => tIf (pl 59 x && pls 59 ds) (.ok (.bl (if neg then !anyq x ds else anyq x ds)))
  | _, _ => .no
theorem pl_tup {n : Nat} {ds : List D} (h : pls n ds = true) : pl (n + 1) (.tup ds) = true := h
theorem inT_ok {X : Cx} {neg : Bool} : BinOk (dInT neg) (rInT X.K neg) := fun z P O H a b x y Q W ra rb w => by
  cases b <;> first | exact w.elim | skip
  rename_i ds
  obtain ⟨c, k⟩ := tIf_w w
  rw [Bool.and_eq_true] at c
  refine ⟨toPy a, toPys ds, ra.dp c.1, RepB.dp (d := .tup ds) (pl_tup c.2) rb, pl_sh (by decide) c.1, pl_sh (d := .tup ds) (by decide) (pl_tup c.2), ?_⟩
  rw [any_anyq c.1 c.2]
  exact KD.self W k.ok rfl
end
end DL

set_option Elab.async false
set_option linter.all false
set_option maxRecDepth 100000
namespace DL
noncomputable section
open PySem PySem.Spec PyProof.Rows L2
/-! ### (*e, ..), [*e, ..] -/
def fSta (f : Ev → T D) (g : Ev → T (List D)) : Ev → T (List D) := fun ρ => (f ρ).bind fun d => match partsOf d with
  | some xs => (g ρ).bind fun r => .ok (xs ++ r)
  | none => .no
theorem acS {X : Cx} {e : Expr} {es : List Expr} {f : Ev → T D} {g : Ev → T (List D)} {p : Pos} (h : PE X e (tB f)) (r : PA X es (tDs g)) (hs : starEach (.Starred e p :: es) X.env = (true, eval e X.env) :: starEach es X.env := by rfl) :
    PA X (.Starred e p :: es) (tDs (fSta f g)) := PA.imp (StX.pa_star h r hs) fun σ H Q ⟨z, P, O, ρ, R, w⟩ =>
  ⟨z, P, O, ρ, R, (WP.bind w).mono fun d w2 v H1 g1 s1 r1 => by
    cases hd : partsOf d with
    | none => rw [hd] at w2; exact w2.elim
    | some xs =>
      rw [hd] at w2
      obtain ⟨a, vs, ev, hv, rr⟩ := parts_v (X := X) hd r1
      refine ⟨a, vs, ev, hv.symm, z, P, O, ρ, R.grow g1 s1, (WP.bind w2).mono fun ds w3 us H2 g2 s2 r2 => ?_⟩
      exact WP.ok w3 _ H2 (g1.trans g2) s2 ((rr.mono (Vw.grow g2)).append r2)⟩
theorem le_fSta {f f' : Ev → T D} {g g' : Ev → T (List D)} (h1 : LE f f') (h2 : LE g g') : LE (fSta f g) (fSta f' g') := fun ρ => T.le_bind (fun d => by cases partsOf d <;> first | exact trivial | exact T.le_bind (fun _ => T.le_refl _) (h2 ρ)) (h1 ρ)
end
end DL

set_option Elab.async false
set_option linter.all false
set_option maxRecDepth 100000
namespace L2
noncomputable section
open PySem PySem.Spec PyProof.Rows
/-! ### dict(xs) of a list of pairs whose keys are tuples -/
def mergeT (kvs more : List (List Key × V)) : List (List Key × V) := more.foldl (fun acc kv => putK acc kv.1 kv.2) kvs
theorem length_mergeT : ∀ (more kvs : List (List Key × V)), (mergeT kvs more).length ≤ kvs.length + more.length
  | [], kvs => by show kvs.length ≤ kvs.length + 0; omega
  | p :: r, kvs => by
    have h1 := length_mergeT r (putK kvs p.1 p.2)
    have h2 := length_putK kvs p.1 p.2
    show (mergeT (putK kvs p.1 p.2) r).length ≤ _
    rw [List.length_cons]; omega
theorem KT.merge {H : Hp} : ∀ {more : List (List Key × V)} {rs : List (List Key × Addr × Value)} {kvs : List (List Key × V)} {xs : List (List Key × Addr × Value)}, KT H more rs → KT H kvs xs → KT H (mergeT kvs more) (storedAllH xs rs) := by
  intro more rs kvs xs r
  induction r generalizing kvs xs with
  | nil => intro q; exact q
  | @cons p q ps qs h t ih =>
    intro r0
    obtain ⟨h1, h2, h3⟩ := h
    have e : KT H (putK kvs p.1 p.2) (storedH xs q.1 q.2.1 q.2.2) := by
      rw [← h1]
      exact KT.put r0 p.1 h2 h3
    exact ih e
section
variable {X : Cx}
/-- pairs with tuple keys, as they stand -/
abbrev PairT (K : PySem.W.Frag) (H : Hp) (p : Addr) (kv : List Key × V) : Prop := ∃ b, SqT K H p [.ref b, kv.2] ∧ H b = some (.tup (kv.1.map kV))
theorem pairsT_of {pins : List (Addr × Obj)} {σ : St} {H : Hp} {s : Shared} (I : Inv X pins σ H s) : ∀ {ps : List Addr} {kvs : List (List Key × V)}, Paired (PairT X.K H) ps kvs →
    ∃ prs : List (List Key × Addr × Value), KT H kvs prs ∧ prs.length = ps.length ∧ ∀ (j : Nat) (q : List Key × Addr × Value), prs[j]? = some q → ∃ b : Addr, ps[j]? = some b ∧ IsTup s.heap b #[.ref q.2.1, q.2.2]
  | _, _, .nil => ⟨[], .nil, rfl, fun j q e => by simp at e⟩
  | _, _, .cons (a := p) (b := kv) h t => by
    obtain ⟨prs, r, hl, hp⟩ := pairsT_of I t
    obtain ⟨c, hq, hc⟩ := h
    obtain ⟨its, rv, ht, _⟩ := I.tuple hq
    obtain ⟨u, y, ei, ru, ry⟩ := vals2 rv
    subst ei
    cases (show u = Value.ref c from ru)
    refine ⟨(kv.1, c, y) :: prs, .cons ⟨rfl, hc, ry⟩ r, by rw [List.length_cons, List.length_cons, hl], fun j q e => ?_⟩
    cases j with
    | zero =>
      have e' : (kv.1, c, y) = q := Option.some.inj e
      subst e'
      exact ⟨p, rfl, ht⟩
    | succ j =>
      obtain ⟨b, e1, e2⟩ := hp j q (by simpa using e)
      exact ⟨b, by simpa using e1, e2⟩
abbrev rDictT (X : Cx) : List V → Hp → VK → Prop := fun xs H Q => ∃ (a : Addr) (ps : List Addr) (kvs : List (List Key × V)), xs = [.ref a] ∧ SqL X.K H a (ps.map V.ref) ∧ Paired (PairT X.K H) ps kvs ∧
    ∀ p, H p = none → Q (.ref p) (upd H p (.dT (mergeT [] kvs)))
theorem call_dictT (hu : X.A.units + 65 < cLine) (hcalm : X.calm = true) : CallR X (.type "dict") (rDictT X) := by
  intro pins s σ H xs us Q I r q
  obtain ⟨a, ps, kvs, ex, hq, hp, q⟩ := q
  subst ex
  obtain ⟨u, eu, rx⟩ := vals1 r
  subst eu
  cases rx
  obtain ⟨its, rv, pl, hz⟩ := I.list hq
  have ei := refs_at rv
  subst ei
  rw [List.length_map] at hz
  obtain ⟨prs, rel, hl, hpr⟩ := pairsT_of I hp
  obtain ⟨o, n, ho, hc, hd, hdat⟩ := pl
  have hn : H s.heap.objs.size = none := I.hok.fresh (Nat.le_refl _)
  let Ts : Nat → Addr := fun j => ps.getD j 0
  let pv : List (Value × Value) := prs.map fun q => (Value.ref q.2.1, q.2.2)
  have hpv : pv.length = ps.length := by show (prs.map _).length = _; rw [List.length_map, hl]
  have his : ∀ x ∈ prs, (tupleKind (mixKind X.prog X.w)).is s.heap x.1 x.2.1 := by
    have all : ∀ {l : List (List Key × V)} {m : List (List Key × Addr × Value)}, KT H l m → ∀ x ∈ m, (tupleKind (mixKind X.prog X.w)).is s.heap x.1 x.2.1 := by
      intro l m q
      induction q with
      | nil => intro x hx; exact nomatch hx
      | @cons p q ps qs hq t ih =>
        intro x hx
        rcases List.mem_cons.mp hx with e | hx
        · subst e
          exact key_of I.hok (by rw [← hq.1]; exact hq.2.1)
        · exact ih x hx
    exact all rel
  refine call_dict_pairsH (knd := tupleKind (mixKind X.prog X.w)) (ps := prs) (PairArg.list (prog := X.prog) (w := X.w) a (ps.map Value.ref).toArray Ts pv) (I.ok.hd hcalm) (show X.A.units + 2 < cLine by omega) ⟨⟨o, n, ho, hc, hd, hdat⟩, by simp [hpv], fun j k v e => ?_⟩ ⟨by show prs.length = pv.length; rw [hpv, hl], fun i key v e => ?_⟩ (fun h' hk x hx => ?_) (by rw [hpv]; exact hz) fun h' tk hd' hk => ?_
  · have e : (prs.map fun q => (Value.ref q.2.1, q.2.2))[j]? = some (k, v) := e
    rw [List.getElem?_map] at e
    cases e1 : prs[j]? with
    | none => rw [e1] at e; cases e
    | some q =>
      rw [e1] at e
      cases e
      obtain ⟨b, e2, e3⟩ := hpr j q e1
      have e4 : Ts j = b := by show ps.getD j 0 = b; rw [List.getD_eq_getElem?_getD, e2]; rfl
      refine ⟨by simp [e2, e4], .inl ?_⟩
      rw [e4]
      exact e3
  · have e : (prs.map fun q => (Value.ref q.2.1, q.2.2))[i]? = some (key, v) := e
    rw [List.getElem?_map] at e
    cases e1 : prs[i]? with
    | none => rw [e1] at e; cases e
    | some q =>
      rw [e1] at e
      cases e
      exact ⟨q.1, q.2.1, rfl, rfl⟩
  · refine tupleKind_stays.stays (h := s.heap) (fun b ob vs m hb hbd => hk b ob ?_ (fun q => nomatch q) hb) (his x hx)
    exact Nat.ne_of_lt (Heap.lt_size hb)
  · have hm : (s.heap.objs.size == sysModules) = false := beq_eq_false_iff_ne.mpr (Nat.ne_of_gt I.big)
    have hlen : (mergeT [] kvs).length ≤ sizeLine := by
      refine Nat.le_trans (length_mergeT kvs []) ?_
      rw [List.length_nil, Nat.zero_add, rel.length, hl]
      exact hz
    obtain ⟨o1, es, ep, h1, h2, h3, h4, h5, h6⟩ := hd'
    have hrel : KT H (mergeT [] kvs) (storedAllH [] prs) := KT.merge rel .nil
    exact ⟨.ref s.heap.objs.size, upd H s.heap.objs.size (.dT (mergeT [] kvs)), I.laid (t' := tk) (fun b ob hb => hk b ob (fun q => nomatch q) hb) (Nat.le_refl _) (show ObjOk X.prog X.w _ _ _ (.dT (mergeT [] kvs)) from
      ⟨hlen, hm, storedAllH [] prs, Paired.mapP hrel fun p q z => ⟨z.1, by rw [upd_ne (ne_of_none z.2.1 hn)]; exact z.2.1, z.2.2⟩, o1, es, ep, h1, h2, h3, h4, h6⟩), rfl, q _ hn⟩
end
end
end L2
namespace DL
noncomputable section
open PySem PySem.Spec PyProof.Rows L2
def pairT : D → Option (Kd × D)
  | .tup [.tup ks, v] => (key2 ks).map fun q => (.t q, v)
  | _ => none
def pairTs : List D → Option (List (Kd × D))
  | [] => some []
  | d :: ds => match pairT d, pairTs ds with
    | some p, some ps => some (p :: ps)
    | _, _ => none
/-- dict(xs) of pairs: keys ints or texts, or else tuples -/
def dDictQ : D → T D
  | .lst ds => match pairKs ds with
    | some kvs => .ok (.dct false (mergeD [] kvs))
    | none => match pairTs ds with
      | some kvs => .ok (.dct true (mergeD [] kvs))
      | none => .no
  | _ => .no
abbrev rDictQ (X : Cx) : List V → Hp → VK → Prop := fun xs H Q => (∃ (a : Addr) (ps : List Addr) (kvs : List (Key × V)), xs = [.ref a] ∧ SqL X.K H a (ps.map V.ref) ∧ Paired (fun p kv => SqT X.K H p [kV kv.1, kv.2]) ps kvs ∧
    ∀ p, H p = none → Q (.ref p) (upd H p (.dK (mergeK [] kvs)))) ∨ rDictT X xs H Q
theorem call_dictQ {X : Cx} (hu : X.A.units + 65 < cLine) (hcalm : X.calm = true) : CallR X (.type "dict") (rDictQ X) := by
  intro pins s σ H xs us Q I r q
  rcases q with q | q
  · exact call_dictP hcalm pins s σ H xs us Q I r q
  · exact call_dictT hu hcalm pins s σ H xs us Q I r q
section
variable {z : Zr} {P O : Addr → Prop} {H : Hp} {K : PySem.W.Frag}
theorem key2_vals : ∀ {ks : List D} {q : List Key} {vs : List V}, key2 ks = some q → Reps (sa z) (Vw z P O H) ks vs → vs = q.map kV
  | [], _, _, h, r => by cases h; exact r
  | d :: ds, q, vs, h, ⟨v, r, e, rv, w⟩ => by
    unfold key2 at h
    cases h1 : key1 d with
    | none => rw [h1] at h; cases h
    | some k =>
      rw [h1] at h
      cases h2 : key2 ds with
      | none => rw [h2] at h; cases h
      | some q' =>
        rw [h2] at h
        cases h
        rw [e, key2_vals h2 w, List.map_cons]
        congr 1
        cases d <;> first | (cases h1; done) | skip
        · cases h1; exact rv
        · cases h1; exact rv
theorem pairsT_v : ∀ {ds : List D} {kvs : List (Kd × D)} {vs : List V}, pairTs ds = some kvs → Reps (sa z) (Vw z P O H) ds vs →
    ∃ (ps : List Addr) (l : List (List Key × V)), vs = ps.map V.ref ∧ Paired (PairT K H) ps l ∧ RepT (sa z) (Vw z P O H) kvs l
  | [], _, _, h, r => by cases h; exact ⟨[], [], r, .nil, rfl⟩
  | d :: ds, kvs, vs, h, ⟨v, r, e, q, w⟩ => by
    unfold pairTs at h
    cases h1 : pairT d with
    | none => rw [h1] at h; cases h
    | some p =>
      rw [h1] at h
      cases h2 : pairTs ds with
      | none => rw [h2] at h; cases h
      | some ps' =>
        rw [h2] at h
        cases h
        obtain ⟨ps, l, e2, pr, rk⟩ := pairsT_v h2 w
        cases d <;> first | (cases h1; done) | skip
        rename_i es
        match es, h1, q with
        | [.tup ks, x], h1, q =>
          have h1' : (key2 ks).map (fun q => (Kd.t q, x)) = some p := h1
          cases hk : key2 ks with
          | none => rw [hk] at h1'; cases h1'
          | some j =>
            rw [hk] at h1'
            cases h1'
            obtain ⟨a, us, ev, ha, r1, r2, e3, q1, r3, r4, e4, q2, e5⟩ := q
            obtain ⟨c, ws, ec, hc, rc⟩ := q1
            subst ec
            have e5 : r4 = [] := e5
            subst e5 e4 e3
            have hw := key2_vals hk rc
            subst hw
            refine ⟨a :: ps, (j, r3) :: l, by rw [e, ev, e2]; rfl, .cons ⟨c, SqT.of ha.2.2.2.tup, hc.2.2.2.tup⟩ pr, ⟨j, r3, l, rfl, rfl, q2, rk⟩⟩
theorem RepT.merge {R : Addr → HO → Prop} {sa' : Option Addr} : ∀ {kws kvs : List (Kd × D)} {l m : List (List Key × V)}, RepT sa' R kvs l → RepT sa' R kws m → RepT sa' R (mergeD kvs kws) (mergeT l m)
  | [], _, _, _, h, r => by rw [show _ = [] from r]; exact h
  | (_, d) :: r, _, _, _, h, ⟨q, v, r', ee, ek, w, t⟩ => by
    subst ek
    rw [ee]
    have z := RepT.merge (h.put q w) t
    exact z
theorem dictQ_ok {X : Cx} : CallOkF (on1 dDictQ) (rDictQ X) := fun z P O H ds vs Q W r w => by
  obtain ⟨d, v, e, rv, w⟩ := on1_w r w
  subst e
  cases d <;> first | exact (show False from w).elim | skip
  rename_i xs
  obtain ⟨a, us, ev, ha, rr⟩ := rv.lst
  have w : WP (match pairKs xs with
    | some kvs => T.ok (DL.D.dct false (mergeD [] kvs))
    | none => match pairTs xs with
      | some kvs => T.ok (DL.D.dct true (mergeD [] kvs))
      | none => .no) _ := w
  cases h : pairKs xs with
  | some kvs =>
    rw [h] at w
    obtain ⟨ps, l, e2, pr, rk⟩ := pairs_v (K := X.K) h rr
    refine .inl ⟨a, ps, l, by rw [ev], SqL.of (by rw [← e2]; exact ha), pr, fun p hp => ?_⟩
    exact WP.ok w p _ hp (same_new hp) (src_new W.src hp) ⟨_, upd_same, (RepK.merge (kvs := []) (l := []) rfl rk).mono (Vw.old hp (same_new hp))⟩
  | none =>
    rw [h] at w
    have w : WP (match pairTs xs with
      | some kvs => T.ok (DL.D.dct true (mergeD [] kvs))
      | none => .no) _ := w
    cases h' : pairTs xs with
    | none => rw [h'] at w; exact w.elim
    | some kvs =>
      rw [h'] at w
      obtain ⟨ps, l, e2, pr, rk⟩ := pairsT_v (K := X.K) h' rr
      refine .inr ⟨a, ps, l, by rw [ev], SqL.of (by rw [← e2]; exact ha), pr, fun p hp => ?_⟩
      exact WP.ok w p _ hp (same_new hp) (src_new W.src hp) ⟨_, upd_same, (RepT.merge (kvs := []) (l := []) rfl rk).mono (Vw.old hp (same_new hp))⟩
end
end
end DL

set_option Elab.async false
set_option linter.all false
set_option maxRecDepth 100000
namespace L2
noncomputable section
open PySem PySem.Spec PyProof.Rows
/-! ### sorted of a tuple of ints -/
section
variable {prog : Program} {w : World} {A : Around} {E : Value → Shared → Prop} {s : Shared}
theorem collect_tup {l : Addr} {vs : List Value} {Q : List Value → Shared → Prop} (hl : s.heap.IsTuple l vs.toArray)
    (h : Q vs { s with heap := (s.heap.push (seqObj "list" #[] 0)).update s.heap.objs.size (Obj.mapSeq (· ++ vs.toArray)) }) (hsz : vs.length ≤ sizeLine) :
    wpAny (model prog w) A (collect (.ref l)) Q E s := by
  obtain ⟨o, ho, hc, n, hd⟩ := id hl
  unfold collect
  refine wpAny_bind (wpAny_runValue (codeAny_builtin entry_proto_collect' ?_))
  show wpAny _ _ (do again (.builtin "list.__iadd__" ⟨[← newList [], .ref l], []⟩)) _ _ s
  refine wpAny_bind (wpAny_newList (wpAny_pure ⟨Code.quiet_builtin _ (by decide +kernel), codeAny_builtin entry_list_iadd' ?_⟩))
  show wpAny _ _ (Builtin.List.listExtendWith (.ref s.heap.objs.size) (.ref l) (.ref s.heap.objs.size)) _ _ { s with heap := s.heap.push (seqObj "list" #[] 0) }
  unfold Builtin.List.listExtendWith
  have ho' : (s.heap.push (seqObj "list" #[] 0)).get? l = some o := Heap.get?_push_of_some _ ho
  refine wpAny_bind (wpAny_typeOf (T := "tuple") ⟨o, ho', hc⟩ ?_)
  have ht : (Value.type "tuple" == Value.type "tuple") = true := by rfl
  rw [if_pos (by rw [ht]; simp)]
  refine wpAny_bind (listItems_at ho' hd ?_)
  refine wpAny_bind (listItems_at (xs := #[]) (n := 0) (Heap.get?_push_size _ rfl) rfl ?_)
  rw [if_neg (by simp)]
  refine wpAny_bind (listUpdate_at (xs := #[]) (n := 0) (Heap.get?_push_size _ rfl) rfl ?_ (Nat.zero_le _) (by show (#[] ++ vs.toArray).size ≤ sizeLine + 1; simp only [Array.size_append, List.size_toArray, List.length_nil]; omega))
  refine wpAny_pure ?_
  show wpAny (model prog w) A (do
      let o ← load s.heap.objs.size
      match o.data with
      | .seq xs _ => pure xs.toList
      | _ => unsupported "internal:collect") Q E { s with heap := (s.heap.push (seqObj "list" #[] 0)).update s.heap.objs.size (Obj.mapSeq (· ++ vs.toArray)) }
  refine wpAny_bind (wpAny_load (get?_update_seq (Heap.get?_push_size _ rfl) _) ?_)
  show wpAny _ _ (pure ((#[] : Array Value) ++ vs.toArray).toList) Q E _
  rw [show ((#[] : Array Value) ++ vs.toArray).toList = vs by simp]
  exact wpAny_pure h
open SrtO in
theorem sorted_ordT {l : Addr} {vs : List Value} {ltv : Value → Value → Bool} {Q : Value → Shared → Prop} (O : Swo ltv) (hl : s.heap.IsTuple l vs.toArray) (hz : vs.length ≤ sizeLine)
    (hS : 2 ≤ vs.length → ∀ (h₁ : Heap) (a : Addr), h₁.get? a = some (seqObj "list" vs.toArray 0) → (∀ b o, s.heap.get? b = some o → b ≠ a ∧ h₁.get? b = some o) → SortableO prog w A.in1.in1 { s with heap := h₁ } a vs ltv)
    (h : ∀ out : List Value, Srtd ltv out → Stb ltv out vs → Q (.ref (s.heap.objs.size + 1)) { s with heap := sortedAll s.heap vs out.toArray }) :
    wpAny (model prog w) A (call (.builtin "sorted") [.ref l]) Q E s := by
  refine Calls.call_function_entry kind_sorted plain_sorted entry_sorted (args_sorted1 _) ?_
  unfold Builtin.«sorted»
  refine wpAny_bind (m := checkCount "sorted" 1 1 _) (wpAny_pure ?_)
  refine wpAny_bind (collect_tup hl ?_ hz)
  refine wpAny_bind (wpAny_newList ?_ hz)
  have hsz : ((s.heap.push (seqObj "list" #[] 0)).update s.heap.objs.size (Obj.mapSeq (· ++ vs.toArray))).objs.size = s.heap.objs.size + 1 := by
    rw [Heap.size_update, size_push']
  have hoL : (((s.heap.push (seqObj "list" #[] 0)).update s.heap.objs.size (Obj.mapSeq (· ++ vs.toArray))).push (seqObj "list" vs.toArray 0)).get? (s.heap.objs.size + 1) = some (seqObj "list" vs.toArray 0) := by
    rw [← hsz]; exact Heap.get?_push_size _ rfl
  have keep : ∀ b o, s.heap.get? b = some o → b ≠ s.heap.objs.size + 1 ∧ (((s.heap.push (seqObj "list" #[] 0)).update s.heap.objs.size (Obj.mapSeq (· ++ vs.toArray))).push (seqObj "list" vs.toArray 0)).get? b = some o := fun b o q => by
    have hlt : b < s.heap.objs.size := Heap.lt_size q
    refine ⟨Nat.ne_of_lt (Nat.lt_succ_of_lt hlt), Heap.get?_push_of_some _ ?_⟩
    rw [Heap.get?_update_ne _ _ _ _ (Nat.ne_of_lt hlt)]
    exact Heap.get?_push_of_some _ q
  show wpAny _ _ _ _ _ { s with heap := ((s.heap.push (seqObj "list" #[] 0)).update s.heap.objs.size (Obj.mapSeq (· ++ vs.toArray))).push (seqObj "list" vs.toArray 0) }
  rw [hsz]
  refine wpAny_bind (wpAny_holding (wpAny_call_entry slot_list_sort ⟨_, hoL, rfl⟩ entry_list_sort (list_sort_ord O hoL hz (fun h2 => hS h2 _ _ hoL keep) fun out hs hb => ⟨_, rfl, ?_⟩) (args_list_sort _)))
  exact wpAny_pure ⟨_, rfl, h out hs hb⟩
end
abbrev rSortedIT (K : PySem.W.Frag) : List V → Hp → VK → Prop := fun vs H Q => ∃ (a : Addr) (ns : List Int), vs = [V.ref a] ∧ SqT K H a (ns.map V.int) ∧
  ∀ (ns' : List Int) (p : Addr), ns'.Perm ns → ns'.Pairwise (· ≤ ·) → H p = none → Q (.ref p) (upd H p (.lst (ns'.map V.int)))
theorem cr_sortedIT {X : Cx} : CallR X (.builtin "sorted") (rSortedIT X.K) := by
  intro pins s σ H vs us Q I r h
  obtain ⟨a, ns, rfl, hs, q⟩ := h
  obtain ⟨its, rv, hl, hz⟩ := I.tuple hs
  rw [Vals.ref1 r]
  have hi := rv.ints
  refine sorted_ordT SrtO.swo_int hl (by rw [← rv.length]; exact hz) (fun h2 h₁ a' _ _ => SrtO.ints_sortable hi h2) fun out h1 h2 => ?_
  obtain ⟨k1, k2, k3⟩ := SrtO.ints_out hi h1 h2
  obtain ⟨ep, he'⟩ := PyProof.Rows.sortedAll_at s.heap its out.toArray
  have hlen : ((out.map SrtO.iv).map V.int).length ≤ sizeLine := by
    rw [List.length_map, k2.length_eq]
    rw [List.length_map] at hz
    exact hz
  exact ⟨.ref _, upd H (s.heap.objs.size + 1) (.lst ((out.map SrtO.iv).map V.int)), I.laid (t' := s.toks) (fun _ _ => PyProof.Rows.sortedAll_old) (Nat.le_succ _) ⟨hlen, out, ep, vals_of_ints k1, he'⟩, rfl, q _ _ k2 k3 (I.hok.fresh (Nat.le_succ _))⟩
abbrev rLenTr : List V → Hp → VK → Prop := fun xs H Q => ∃ (p : Addr) (kvs : List (List Key × V)), xs = [.ref p] ∧ Rd H p (.dT kvs) ∧ Q (.int ((kvs.length : Nat) : Int)) H
theorem call_len_dTr {X : Cx} : CallR X (.builtin "len") rLenTr := by
  intro pins s σ H xs us Q I r h
  obtain ⟨p, kvs, rfl, hp, q⟩ := h
  obtain ⟨u, rfl, rx⟩ := vals1 r
  obtain rfl : u = .ref p := rx
  obtain ⟨z, hd, ys, rel, dd⟩ := dt_rd I.hok hp
  have hl : kvs.length = ys.length := Paired.length rel
  refine call_len_dictH hd dd (by rw [← hl]; rw [sizeLine_eq] at z; omega) ?_
  rw [← hl]
  exact ⟨.int ((kvs.length : Nat) : Int), H, I.tok _, ⟨_, rfl⟩, q⟩
end
end L2
namespace DL
noncomputable section
open PySem PySem.Spec PyProof.Rows L2
theorem msort_u {S R : List Int} (hR : R.Pairwise (· ≤ ·)) (hp : R.Perm S) : msort ile S = R := by
  have tot : PySem.W.TotalLe ile := ⟨fun a b c h1 h2 => ile_iff.mpr (Int.le_trans (ile_iff.mp h1) (ile_iff.mp h2)), fun a b => (Int.le_total a b).imp ile_iff.mpr ile_iff.mpr⟩
  rw [msort_eq tot]
  refine List.Perm.eq_of_pairwise (le := fun a b => ile a b = true) (fun a b _ _ h1 h2 => Int.le_antisymm (ile_iff.mp h1) (ile_iff.mp h2)) (PySem.W.sort_pairwise tot S) (hR.imp fun h => ile_iff.mpr h) ?_
  exact (List.mergeSort_perm S ile).trans hp.symm
/-- int keys -/
def intKs : List (Kd × D) → Option (List Int)
  | [] => some []
  | (.k (.inl i), _) :: r => (intKs r).map (i :: ·)
  | _ => none
/-- sorted of a list, of a tuple of ints, of a dict with int keys -/
def dSortedQ : D → T D
  | .lst ds => dSorted srtS (.lst ds)
  | .tup ds => match intsD ds with
    | some ns => .ok (.lst ((msort ile ns).map .int))
    | none => .no
  | .dct false kvs => match intKs kvs with
    | some ns => tIf (Nat.blt ns.length 64) (.ok (.lst ((msort ile ns).map .int)))
    | none => .no
  | _ => .no
abbrev rSortedDI : List V → Hp → VK → Prop := fun xs H Q => ∃ (a : Addr) (kvs : List (Key × V)) (ks : List Int), xs = [.ref a] ∧ Rd H a (.dK kvs) ∧ kvs.map (·.1) = ks.map Sum.inl ∧ ks.length < 64 ∧
    ∀ (ys : List Int) (p : Addr), ys.Perm ks → ys.Pairwise (· ≤ ·) → H p = none → Q (.ref p) (upd H p (.lst (ys.map V.int)))
abbrev rSortedQ (X : Cx) : List V → Hp → VK → Prop := fun xs H Q => rSortedD X xs H Q ∨ rSortedIT X.K xs H Q ∨ rSortedDI xs H Q
theorem call_sortedQ {X : Cx} (hu : X.A.units + 65 < cLine) (hc : X.calm = true) : CallR X (.builtin "sorted") (rSortedQ X) := by
  intro pins s σ H xs us Q I r q
  rcases q with q | q | q
  · exact DL.call_sortedD hu pins s σ H xs us Q I r q
  · exact cr_sortedIT pins s σ H xs us Q I r q
  · exact call_sortedDI hc pins s σ H xs us Q I r q
section
variable {z : Zr} {P O : Addr → Prop} {H : Hp}
theorem reps_ints : ∀ {ds : List D} {ns : List Int} {vs : List V}, intsD ds = some ns → Reps (sa z) (Vw z P O H) ds vs → vs = ns.map V.int
  | [], _, _, h, r => by cases h; exact r
  | d :: ds, ns, vs, h, ⟨v, r, e, rv, w⟩ => by
    cases d <;> first | (cases h; done) | skip
    rename_i i
    have h : (intsD ds).map (i :: ·) = some ns := h
    cases h2 : intsD ds with
    | none => rw [h2] at h; cases h
    | some m =>
      rw [h2] at h
      cases h
      rw [e, reps_ints h2 w, show v = V.int i from rv]; rfl
theorem ints_reps {z : Zr} {R : Addr → HO → Prop} : ∀ ns : List Int, Reps (sa z) R (ns.map D.int) (ns.map V.int)
  | [] => rfl
  | i :: r => ⟨_, _, rfl, rfl, ints_reps r⟩
theorem intKs_v {R : Addr → HO → Prop} {s : Option Addr} : ∀ {kvs : List (Kd × D)} {ns : List Int} {l : List (Key × V)}, intKs kvs = some ns → RepK s R kvs l → l.map (·.1) = ns.map Sum.inl
  | [], _, _, h, r => by cases h; rw [show _ = [] from r]; rfl
  | (k, d) :: kvs, ns, l, h, ⟨q, v, r, e, ek, _, w⟩ => by
    subst ek
    cases q with
    | inr x => cases h
    | inl i =>
      have h : (intKs kvs).map (i :: ·) = some ns := h
      cases h2 : intKs kvs with
      | none => rw [h2] at h; cases h
      | some m =>
        rw [h2] at h
        cases h
        rw [e, List.map_cons, intKs_v h2 w]; rfl
theorem sortedQ_ok {X : Cx} : CallOkF (on1 dSortedQ) (rSortedQ X) := fun z P O H ds vs Q W r w => by
  obtain ⟨d, ed⟩ : ∃ d, ds = [d] := by
    match ds, w with
    | [d], _ => exact ⟨d, rfl⟩
    | [], w => exact (show False from w).elim
    | _ :: _ :: _, w => exact (show False from w).elim
  subst ed
  obtain ⟨v, _, e, rv, e2⟩ := id r
  subst e2
  subst e
  have w' := w
  have new : ∀ {ns : List Int} {p : Addr}, H p = none → Top z (Vw z P (Ow O p) (upd H p (.lst (ns.map V.int)))) (fun u => upd H p (.lst (ns.map V.int)) p = some u) (.lst (ns.map D.int)) := fun hp => ⟨_, upd_same, ints_reps _⟩
  cases d <;> first | exact (show False from w').elim | skip
  · rename_i xs
    obtain ⟨a, us, ev, vw, ha, rr⟩ := rv.tup
    subst ev
    have w' : WP (match intsD xs with | some ns => T.ok (D.lst ((msort ile ns).map .int)) | none => .no) _ := w'
    cases h : intsD xs with
    | none => rw [h] at w'; exact w'.elim
    | some ns =>
      rw [h] at w'
      have := reps_ints h rr
      subst this
      refine .inr (.inl ⟨a, ns, rfl, SqT.of ha, fun ns' p h1 h2 hp => ?_⟩)
      have e := msort_u h2 h1
      exact WP.ok w' p _ hp (same_new hp) (src_new W.src hp) (by rw [e]; exact new hp)
  · exact .inl (sorted_ok z P O H _ _ Q W r w)
  · rename_i tk kvs
    cases tk with
    | true => exact (show False from w').elim
    | false =>
      obtain ⟨a, l, ev, hp, rr⟩ := rv.dctK
      subst ev
      have w' : WP (match intKs kvs with | some ns => tIf (Nat.blt ns.length 64) (T.ok (D.lst ((msort ile ns).map .int))) | none => .no) _ := w'
      cases h : intKs kvs with
      | none => rw [h] at w'; exact w'.elim
      | some ns =>
        rw [h] at w'
        obtain ⟨c, w'⟩ := tIf_w w'
        refine .inr (.inr ⟨a, l, ns, rfl, hp.rd, intKs_v h rr, nblt.mp c, fun ns' p h1 h2 hp => ?_⟩)
        have e := msort_u h2 h1
        exact WP.ok w' p _ hp (same_new hp) (src_new W.src hp) (by rw [e]; exact new hp)
end
/-! list of a dict: its keys; len of a dict with tuple keys -/
def dLstQ : D → T D
  | .dct false kvs => .ok (.lst (kvs.map fun kv => keyD kv.1))
  | d => dLstOf d
abbrev rLstQ (X : Cx) : List V → Hp → VK → Prop := fun xs H Q => (∃ p ys, xs = [.ref p] ∧ (SqL X.K H p ys ∨ SqT X.K H p ys) ∧ ∀ l, H l = none → Q (.ref l) (upd H l (.lst ys))) ∨
  ∃ (a : Addr) (kvs : List (Key × V)), xs = [.ref a] ∧ Rd H a (.dK kvs) ∧ ∀ p, H p = none → Q (.ref p) (upd H p (.lst (kvs.map fun kv => kV kv.1)))
theorem call_lstQ {X : Cx} (hc : X.calm = true) : CallR X (.type "list") (rLstQ X) := by
  intro pins s σ H xs us Q I r q
  rcases q with q | q
  · exact call_list_of pins s σ H xs us Q I r q
  · exact call_listD hc pins s σ H xs us Q I r q
theorem keys_reps {z : Zr} {R R' : Addr → HO → Prop} {s : Option Addr} : ∀ {kvs : List (Kd × D)} {l : List (Key × V)}, RepK s R kvs l → Reps (sa z) R' (kvs.map fun kv => keyD kv.1) (l.map fun kv => kV kv.1)
  | [], _, r => by rw [show _ = [] from r]; rfl
  | (k, d) :: kvs, l, ⟨q, v, r, e, ek, _, w⟩ => by
    subst ek
    rw [e]
    refine ⟨_, _, rfl, ?_, keys_reps w⟩
    cases q <;> rfl
theorem lstQ_ok {X : Cx} : CallOkF (on1 dLstQ) (rLstQ X) := fun z P O H ds vs Q W r w => by
  obtain ⟨d, ed⟩ : ∃ d, ds = [d] := by
    match ds, w with
    | [d], _ => exact ⟨d, rfl⟩
    | [], w => exact (show False from w).elim
    | _ :: _ :: _, w => exact (show False from w).elim
  subst ed
  obtain ⟨v, _, e, rv, e2⟩ := id r
  subst e2
  subst e
  have w' := w
  cases d <;> first | exact (show False from w').elim | exact .inl (lstOf_ok z P O H _ _ Q W r w) | skip
  rename_i tk kvs
  cases tk with
  | true => exact (show False from w').elim
  | false =>
    obtain ⟨a, l, ev, hp, rr⟩ := rv.dctK
    subst ev
    exact .inr ⟨a, l, rfl, hp.rd, fun p hp => WP.ok w' p _ hp (same_new hp) (src_new W.src hp) ⟨_, upd_same, keys_reps rr⟩⟩
def dLenQ : D → T D
  | .dct true kvs => .ok (.int kvs.length)
  | d => dLen d
abbrev rLenQ (X : Cx) : List V → Hp → VK → Prop := fun xs H Q => rLenA X xs H Q ∨ rLenTr xs H Q
theorem call_lenQ {X : Cx} : CallR X (.builtin "len") (rLenQ X) := by
  intro pins s σ H xs us Q I r q
  rcases q with q | q
  · exact call_lenA pins s σ H xs us Q I r q
  · exact call_len_dTr pins s σ H xs us Q I r q
theorem lenQ_ok {X : Cx} : CallOk (on1 dLenQ) (rLenQ X) := fun z P O H ds vs Q W r w => by
  obtain ⟨d, ed⟩ : ∃ d, ds = [d] := by
    match ds, w with
    | [d], _ => exact ⟨d, rfl⟩
    | [], w => exact (show False from w).elim
    | _ :: _ :: _, w => exact (show False from w).elim
  subst ed
  obtain ⟨v, _, e, rv, e2⟩ := id r
  subst e2
  subst e
  have w' := w
  cases d <;> first | exact (show False from w').elim | exact .inl (len_ok z P O H _ _ Q W r w) | skip
  rename_i tk kvs
  cases tk with
  | false => exact .inl (len_ok z P O H _ _ Q W r w)
  | true =>
    obtain ⟨p, l, ev, hp, rr⟩ := rv.dctT
    exact .inr ⟨p, l, by rw [ev], hp.rd, by rw [rr.len]; exact KD.self W (WP.ok w') rfl⟩
end
end DL

set_option Elab.async false
set_option linter.all false
set_option maxRecDepth 100000
namespace DL
noncomputable section
open PySem PySem.Spec PyProof.Rows L2
/-! ### list(range(a, b, c)), tuple(range(a, b, c)) -/
def rgVS (a c : Int) (n : Nat) : List V := (List.range n).map fun i => V.int (a + (i : Nat) * c)
theorem vals_rgS {a c : Int} {n : Nat} {acc : Array Value} (h : ItemsOf (fun i v => ∃ t, v = .int (a + i * c) t) acc n) : Vals (rgVS a c n) acc.toList := by
  have e : acc.toList.length = n := by rw [Array.length_toList]; exact h.1
  unfold rgVS
  rw [← e]
  refine vals_of_get acc.toList _ fun j u hj => ?_
  obtain ⟨t, rfl⟩ := h.2 j u (by rw [← hj, Array.getElem?_toList])
  exact ⟨t, rfl⟩
theorem rgS_reps {s : Option Addr} {R : Addr → HO → Prop} : ∀ (n : Nat) (a c : Int), Reps s R (rgS a c n) (rgVS a c n)
  | 0, _, _ => rfl
  | n + 1, a, c => by
    unfold rgVS
    rw [List.range_succ_eq_map, List.map_cons, List.map_map]
    refine ⟨_, _, rfl, ?_, ?_⟩
    · show V.int (a + ((0 : Nat) : Int) * c) = V.int a
      rw [Int.natCast_zero, Int.zero_mul, Int.add_zero]
    · have e : ((fun i : Nat => V.int (a + (i : Nat) * c)) ∘ Nat.succ) = fun i : Nat => V.int (a + c + (i : Nat) * c) := by
        funext i
        show V.int (a + ((i + 1 : Nat) : Int) * c) = _
        congr 1
        rw [Int.natCast_add, Int.add_mul]
        show a + ((i : Int) * c + 1 * c) = _
        rw [Int.one_mul]
        omega
      rw [e]
      exact rgS_reps n (a + c) c
def rg3L (ds : List D) : T (List D) := match ds with
  | [.int i, .int j, .int c] => tIf (rg3ok i j c && Nat.ble (Builtin.Range.rangeSize i j c).toNat 16777216) (.ok (rgS i c (Builtin.Range.rangeSize i j c).toNat))
  | _ => .no
def fRg3L (g : Ev → T (List D)) : Ev → T D := fun ρ => (g ρ).bind fun ds => (rg3L ds).bind fun l => .ok (.lst l)
theorem le_fRg3L {a a' : Ev → T (List D)} (h1 : LE a a') : LE (fRg3L a) (fRg3L a') := fun ρ => T.le_bind (fun _ => T.le_refl _) (h1 ρ)
section
variable {X : Cx} {a b c : Expr} {g : Ev → T (List D)} {p pos p2 pos2 : Pos}
theorem dlstRg3 (hc : X.calm = true) (hg : Gl X "list") (hm : X.mg "list" = none) (hg2 : Gl X "range") (hm2 : X.mg "range" = none) (ha : PA X [a, b, c] (tBs g))
    (hs : starEach [a, b, c] X.env = (false, eval a X.env) :: starEach [b, c] X.env := by rfl) (hpl : (backTo pos (starEach [b, c] X.env)).any (·.1) = false := by rfl)
    (na : starEach [.Call (.Name "range" p) [a, b, c] [] pos] X.env = (false, eval (.Call (.Name "range" p) [a, b, c] [] pos) X.env) :: starEach [] X.env := by rfl) :
    PE X (.Call (.Name "list" p2) [.Call (.Name "range" p) [a, b, c] [] pos] [] pos2) (tF (fRg3L g)) := by
  refine ⟨fun pins s σ H Q I ⟨z, P, O, ρ, R, w⟩ => ?_⟩
  refine Call_ (ld_blt I hg hm boot_list (PyProof.Rows.callWith_type1 (args_cons (Q := _) ?_ na) na))
  refine Call_ (ld_blt I hg2 hm2 boot_range (PyProof.Rows.callWith_type1 (thn (ha.run pos pins s σ H _ I ⟨z, P, O, ρ, R, (WP.bind w).mono fun ds w2 vs H1 g1 s1 r1 => (show ∃ i j k : Int, vs = [.int i, .int j, .int k] ∧ k ≠ 0 ∧ k.natAbs < 1073741824 ∧ Builtin.Range.small i j k = true ∧ 0 ≤ Builtin.Range.rangeSize i j k ∧ (Builtin.Range.rangeSize i j k).toNat ≤ 16777216 ∧ ∀ q, H1 q = none → Q (.ref q) (upd H1 q (.lst (rgVS i k (Builtin.Range.rangeSize i j k).toNat))) from ?_)⟩) fun us s1 ⟨vs, H1, I1, r1, i, j, k, ev, c0, c1, c2, c3, c4, q⟩ => ?_) hs hpl))
  · have w3 := WP.bind w2
    unfold rg3L at w3
    split at w3
    · rename_i i j k
      obtain ⟨cc, q⟩ := tIf_w w3
      unfold rg3ok at cc
      rw [Bool.and_eq_true, Bool.and_eq_true, Bool.and_eq_true, Bool.and_eq_true] at cc
      obtain ⟨⟨⟨⟨c1, c2⟩, c3⟩, c4⟩, c5⟩ := cc
      have c4 := ile_iff.mp c4
      obtain ⟨v, q1, e1, rv, u, q2, e2, ru, t, q3, e3, rt, e4⟩ := r1
      have e4' : q3 = [] := e4
      subst e4'
      subst e3
      subst e2
      refine ⟨i, j, k, by rw [e1, rv.int, ru.int, rt.int], fun e => ?_, nblt.mp c2, c3, c4, Nat.le_of_ble_eq_true c5, fun q' hq => ?_⟩
      · rw [e] at c1
        exact absurd c1 (by decide)
      · exact WP.ok (WP.ok q) q' _ (none_of g1 s1 hq) (g1.trans (same_new hq)) (src_new s1 hq) ⟨_, upd_same, rgS_reps _ _ _⟩
    · exact w3.elim
  · subst ev
    cases r1 with
    | cons r rr =>
      cases rr with
      | cons r' rr =>
        cases rr with
        | cons r'' rr =>
          cases rr
          obtain ⟨t, rfl⟩ := r
          obtain ⟨t', rfl⟩ := r'
          obtain ⟨t'', rfl⟩ := r''
          refine call_range_3 c0 (args_nil ?_) (.inl (PyProof.noPylong_small c1))
          have I2 : L2.Inv X pins σ H1 { s1 with heap := s1.heap.push { cls := .type "range", data := .fields #[.int i t, .int j t', .int k t''] } } := I1.kept (t' := s1.toks) fun b u e => Heap.get?_push_of_some _ e
          refine call_list_range (n := (Builtin.Range.rangeSize i j k).toNat) (I2.ok.hd hc) (IsRange.new _ _ _ _ _ _ _) c2 (by omega) c4 fun h' tk acc c' hk e' hi => ?_
          have I3 := I2.laid (t' := tk) (o := .lst (rgVS i k (Builtin.Range.rangeSize i j k).toNat)) hk (Nat.le_refl _) (show ObjOk X.prog X.w _ _ _ (.lst (rgVS i k (Builtin.Range.rangeSize i j k).toNat)) from ⟨by unfold rgVS; rw [List.length_map, List.length_range, sizeLine_eq]; exact c4, acc.toList, c', vals_rgS hi, by rw [Array.toArray_toList]; exact e'⟩)
          exact ⟨.ref _, _, I3, rfl, q _ (I2.hok.fresh (Nat.le_refl _))⟩
end
end
end DL

set_option Elab.async false
set_option linter.all false
set_option maxRecDepth 100000
namespace DL
noncomputable section
open PySem PySem.Spec PyProof.Rows L2
/-! ### target = xs.pop(), xs owned -/
def fPopA (i : Nat) (p : Pat) : Ev → T Res := fun ρ => match ρ.at i with
  | .own (.lst ds) => match ds.getLast? with
    | some d => (bindP p d (ρ.put i (.own (.lst ds.dropLast)))).bind fun ρ' => .ok (.nx ρ')
    | none => .no
  | _ => .no
section
variable {X : Cx} {tg : Expr} {x : Str} {p : Pat} {pos pos' apos cpos : Pos}
theorem spop (i : Nat) (hg : PG X tg (tG p)) (hN : X.N[i]? = some x := by rfl) (hv : Vis X.env.scope x := by first | exact Or.inl rfl | exact Or.inr (Or.inl rfl) | exact Or.inr (Or.inr rfl)) (hd : (x == ("__debug__" : Str)) = false := by decide)
    (hcd : (x == ("__classdict__" : Str)) = false := by decide) (hbase : attributeBase (.Name x pos') "pop" X.env (eval (.Name x pos') X.env) = eval (.Name x pos') X.env := by rfl)
    (hline : (apos.endLine == cpos.line) = true := by rfl) (hs : swapsWithSole [tg] (.Call (.Attribute (.Name x pos') "pop" apos) [] [] cpos) pos.line X.env = pure false := by rfl)
    (hw : swappedStores [tg] (.Call (.Attribute (.Name x pos') "pop" apos) [] [] cpos) X.env = pure none := by rfl) (h1 : (assignEach [tg] X.env).map (·.2) = [assign tg X.env] := by rfl) :
    PS X (.Assign [tg] (.Call (.Attribute (.Name x pos') "pop" apos) [] [] cpos) pos) (tS (fPopA i p)) :=
  PS.imp (ps_asg (pe_bm0 PySem.F.plainAttrs_list PySem.F.slot_list_pop PySem.F.type_list_pop mt_pop (pe_var hN hv hd hcd) hbase hline) hg hs hw h1) fun D σ H ⟨z, P, O, ρ, R, w⟩ => by
    unfold fPopA at w
    cases e1 : ρ.at i with
    | non => rw [e1] at w; exact w.elim
    | sh d => rw [e1] at w; exact w.elim
    | lent d => rw [e1] at w; exact w.elim
    | own d =>
      rw [e1] at w
      cases d <;> first | exact (show False from w).elim | skip
      rename_i ds
      have w : WP (match ds.getLast? with | some d => (bindP p d (ρ.put i (.own (.lst ds.dropLast)))).bind fun ρ' => T.ok (Res.nx ρ') | none => .no) _ := w
      cases el : ds.getLast? with
      | none => rw [el] at w; exact w.elim
      | some d =>
        rw [el] at w
        obtain ⟨q, hi, hy, op, t⟩ := own_at R e1
        obtain ⟨vs, hp, rr⟩ := t
        rw [List.getLast?_eq_getElem?] at el
        obtain ⟨y, hyv, ry⟩ := rr.get el
        have hdr : Reps (sa z) (Vw z P O H) ds.dropLast vs.dropLast := by
          rw [List.dropLast_eq_take, List.dropLast_eq_take, rr.length]
          exact rr.take _
        refine ⟨.ref q, hy, .inl ⟨rfl, vs, SqL.of hp⟩, q, vs, y, rfl, rfl, hp, by rw [rr.length]; exact hyv, ?_⟩
        have R1 : Rel z P O (ρ.put i (.own (.lst ds.dropLast))) σ (upd H q (.lst vs.dropLast)) := R.change hi hy op ⟨_, rfl, hdr⟩
        have ry1 : Rep (sa z) (Vw z P O (upd H q (.lst vs.dropLast))) d y := ry.mono fun a u ⟨v1, v2, v3, v4⟩ => ⟨v1, v2, v3, by
          have ne : a ≠ q := fun e => v1 (e ▸ op)
          rcases v4 with v4 | ⟨v5, o, v4⟩
          · exact .inl (by rw [upd_ne ne]; exact v4)
          · exact .inr ⟨v5, o, by rw [upd_ne ne]; exact v4⟩⟩
        exact ⟨z, P, O, _, d, R1, ry1, (WP.bind w).mono fun ρ' w3 σ' b R2 => WP.ok w3 σ' _ O (SameV.change op) R2⟩
end
end
end DL

set_option Elab.async false
set_option linter.all false
set_option maxRecDepth 100000
namespace DL
noncomputable section
open PySem PySem.Spec PyProof.Rows L2
/-! ### {k: v for target in iter if ..}, keys ints or texts -/
def mapDc (p : Pat) (t : Ev → T Bool) (k e : Ev → T D) (ρ : Ev) : List (Kd × D) → List D → T (List (Kd × D))
  | acc, [] => .ok acc
  | acc, d :: ds => (bindP p d ρ).bind fun ρ1 => (t ρ1).bind fun b => match b with
    | true => (k ρ1).bind fun a => (e ρ1).bind fun y => match keyOf false a with
      | some q => mapDc p t k e ρ (putD acc q y) ds
      | none => .no
    | false => mapDc p t k e ρ acc ds
def fDcm (vs : List Nat) (it : Ev → T (List D)) (p : Pat) (t : Ev → T Bool) (k e : Ev → T D) : Ev → T D := fun ρ => (it ρ).bind fun ds => tIf (Nat.blt ds.length sizeLine) ((mapDc p t k e (wipeE (lend ρ) vs) [] ds).bind fun kvs => .ok (.dct false kvs))
theorem le_mapDc {p : Pat} {t t' : Ev → T Bool} {k k' e e' : Ev → T D} (h1 : LE t t') (h2 : LE k k') (h3 : LE e e') (ρ : Ev) : ∀ (ds : List D) (acc : List (Kd × D)), T.le (mapDc p t k e ρ acc ds) (mapDc p t' k' e' ρ acc ds)
  | [], _ => T.le_refl _
  | d :: ds, acc => T.le_bind (fun ρ1 => T.le_bind (fun b => by
      cases b
      · exact le_mapDc h1 h2 h3 ρ ds acc
      · exact T.le_bind (fun a => T.le_bind (fun y => by
          show T.le (match keyOf false a with | some q => mapDc p t k e ρ (putD acc q y) ds | none => .no) (match keyOf false a with | some q => mapDc p t' k' e' ρ (putD acc q y) ds | none => .no)
          cases keyOf false a with
          | none => exact T.le_refl _
          | some q => exact le_mapDc h1 h2 h3 ρ ds _) (h3 ρ1)) (h2 ρ1)) (h1 ρ1)) (T.le_refl _)
theorem le_fDcm {vs : List Nat} {it it' : Ev → T (List D)} {p : Pat} {t t' : Ev → T Bool} {k k' e e' : Ev → T D} (h0 : LE it it') (h1 : LE t t') (h2 : LE k k') (h3 : LE e e') : LE (fDcm vs it p t k e) (fDcm vs it' p t' k' e') := fun ρ => T.le_bind (fun ds => by
  cases q : Nat.blt ds.length sizeLine
  · exact T.le_refl _
  · exact T.le_bind (fun _ => T.le_refl _) (le_mapDc h1 h2 h3 _ ds [])) (h0 ρ)
theorem putD_len (l : List (Kd × D)) (k : Kd) (d : D) : (putD l k d).length ≤ l.length + 1 := by
  have hs : ∀ l : List (Kd × D), (setD l k d).length = l.length := by
    intro l
    induction l with
    | nil => rfl
    | cons a l ih => obtain ⟨j, x⟩ := a; show _ + 1 = _ + 1; rw [ih]
  unfold putD
  cases hasD l k
  · show (l ++ [(k, d)]).length ≤ _
    rw [List.length_append]; exact Nat.le_refl _
  · show (setD l k d).length ≤ _
    rw [hs]; omega
section
variable {X : Cx} {tg iter kx vx : Expr} {it : Ev → T (List D)} {p : Pat} {t : Ev → T Bool} {k e : Ev → T D} {vs : List Nat}
theorem tDcm_F (hv : ∀ j ∈ p.slots, j ∈ vs) {σ : L2.St} {H : Hp} {Q : VK} (h : tF (fDcm vs it p t k e) σ H Q) : tDc (tIb it) (tG p) (tT t) (tD k) (tD e) vs σ H Q := by
  obtain ⟨z, P, O, ρ, R, w⟩ := h
  refine ⟨z, P, O, ρ, R, (WP.bind w).mono fun ds w2 J H1 g1 s1 wk D hD => ?_⟩
  obtain ⟨hlen, w2⟩ := tIf_w w2
  have hlen := nblt.mp hlen
  have w3 := WP.bind w2
  have hDn : ¬ inS z D := not_src s1 hD
  have R1 := (R.grow g1 s1).lend.wipe vs
  let K : List (Kd × DL.D) → Prop := fun ys => ∀ p H', H p = none → SameS z H H' → Src z H' → Top z (Vw z P (Ow O p) H') (fun u => H' p = some u) (.dct false ys) → Q (.ref p) H'
  let W : Nat → Nat → Hp → Prop := fun i m H' => i ≤ ds.length ∧ m = ds.length - i ∧ SameS z H1 H' ∧ Src z H' ∧ ∃ acc rs, H' D = some (.dK acc) ∧ acc.length ≤ i ∧ RepK (sa z) (Vw z (fun b => P b ∨ b = D) O H') rs acc ∧ WP (mapDc p t k e (wipeE (lend ρ) vs) rs (ds.drop i)) fun ys => K ys
  refine ⟨W, ⟨ds.length, Nat.zero_le _, rfl, same_new hD, src_new s1 hD, [], [], upd_same, Nat.zero_le _, rfl, w3⟩, fun i m H' ⟨hi, hm, gs, ss, acc, rs, hacc, hal, rr, w4⟩ => ?_⟩
  have R' := R1.protect hD gs ss ⟨_, hacc, fun _ q => nomatch q⟩
  have lt : LatS z P O H1 (fun b => P b ∨ b = D) O H' := ⟨gs, rfl, R'.ws, fun b h => h.elim .inl fun q => .inr (q ▸ hD)⟩
  obtain ⟨k1, k2, k3⟩ := wk _ _ _ lt
  by_cases h : i < ds.length
  · right
    refine ⟨k1 i h, fun H'' => W (i + 1) (m - 1) H'', fun H'' w => ⟨m - 1, by omega, w⟩, fun x H3 hx => ?_⟩
    obtain ⟨g3, s3, d, hd, rd⟩ := k3 i x H3 h hx
    rw [List.drop_eq_getElem_cons h] at w4
    have ed : ds[i] = d := Option.some.inj ((List.getElem?_eq_getElem h).symm.trans hd)
    rw [ed] at w4
    refine ⟨z, _, O, _, d, R'.grow g3 s3, rd, (WP.bind w4).mono fun ρ1 w5 σ4 hb R4 => ⟨wipe_but hb hv, ?_⟩⟩
    refine ⟨z, _, O, ρ1, R4, (WP.bind w5).mono fun b w6 H5 g5 s5 => ?_⟩
    cases b
    · have g35 := (gs.trans g3).trans g5
      exact ⟨by omega, by omega, g35, s5, acc, rs, g5 D _ hDn (g3 D _ hDn hacc), by omega, rr.mono (Vw.grow (g3.trans g5)), w6⟩
    · refine ⟨z, _, O, ρ1, R4.grow g5 s5, (WP.bind (show WP ((k ρ1).bind _) _ from w6)).mono fun a w7 u H6 g6 s6 ru => ?_⟩
      refine ⟨z, _, O, ρ1, (R4.grow g5 s5).grow g6 s6, (WP.bind w7).mono fun y w8 v H7 g7 s7 rv => ?_⟩
      have g37 := ((g3.trans g5).trans g6).trans g7
      have hacc7 := g37 D _ hDn hacc
      have w8 : WP (match keyOf false a with | some q => mapDc p t k e (wipeE (lend ρ) vs) (putD rs q y) (ds.drop (i + 1)) | none => .no) _ := w8
      cases hq : keyOf false a with
      | none => rw [hq] at w8; exact w8.elim
      | some q =>
        rw [hq] at w8
        have hk' : (key1 a).map Kd.k = some q := by cases a <;> first | exact hq | (cases hq; done)
        cases h1 : key1 a with
        | none => rw [h1] at hk'; cases hk'
        | some j =>
          rw [h1] at hk'
          have hk' : Kd.k j = q := Option.some.inj hk'
          subst hk'
          refine ⟨acc, j, key1_v h1 ru, hacc7, by omega, by omega, by omega, ?_, ?_, putK acc j v, putD rs (.k j) y, upd_same, ?_, ?_, w8⟩
          · intro b o hb eb
            have ne : b ≠ D := fun q => by subst q; rw [hD] at eb; cases eb
            rw [upd_ne ne]
            exact g37 b o hb (gs b o hb eb)
          · exact src_keep s7 fun b hb => upd_ne fun q => hDn (q ▸ hb)
          · have := length_putK acc j v; omega
          · have hv2 : ∀ a u, Vw z (fun b => P b ∨ b = D) O H7 a u → Vw z (fun b => P b ∨ b = D) O (upd H7 D (.dK (putK acc j v))) a u := by
              intro a u q
              obtain ⟨q1, q2, q3, q4⟩ := q
              have ne : a ≠ D := fun q => q2 (.inr q)
              refine ⟨q1, q2, q3, ?_⟩
              rcases q4 with q4 | ⟨kk, ob, q4⟩
              · exact .inl (by rw [upd_ne ne]; exact q4)
              · exact .inr ⟨kk, ob, by rw [upd_ne ne]; exact q4⟩
            exact RepK.put ((rr.mono (Vw.grow g37)).mono hv2) j (rv.mono hv2)
  · left
    refine ⟨k2 i (by omega), ?_⟩
    rw [List.drop_eq_nil_of_le (by omega)] at w4
    have kk := WP.ok w4
    refine kk D H' (none_of g1 s1 hD) (g1.trans gs) ss ⟨acc, hacc, rr.mono fun a u q => ?_⟩
    obtain ⟨q1, q2, q3, q4⟩ := q
    exact ⟨fun q => q.elim q1 fun q => q2 (.inr q), fun q => q2 (.inl q), q3, q4⟩
variable {scope : Scope} {own : List (Str × Nat)} {pos spos : Pos} {ifs : List Expr}
theorem ddcm (hc : X.calm = true) (hN : X.N.Nodup) (hi : PI X tg iter (tIb it)) (ok : blkC X.N X.env.scope scope own = true) (hv : (p.slots.all fun j => decide (j ∈ own.map (·.2))) = true)
    (hg : ∀ (s : Shared) (H : Hp) (C : Addr) (cl : List (Str × Addr)) (fp : List Addr), PG (X.blk s H scope (compEnvC scope cl C X.env) fp) tg (tG p)) (ht : ∀ (s : Shared) (H : Hp) (C : Addr) (cl : List (Str × Addr)) (fp : List Addr), PTs (X.blk s H scope (compEnvC scope cl C X.env) fp) ifs (tT t))
    (hk : ∀ (s : Shared) (H : Hp) (C : Addr) (cl : List (Str × Addr)) (fp : List Addr), PE (X.blk s H scope (compEnvC scope cl C X.env) fp) kx (tD k))
    (he : ∀ (s : Shared) (H : Hp) (C : Addr) (cl : List (Str × Addr)) (fp : List Addr), PE (X.blk s H scope (compEnvC scope cl C X.env) fp) vx (tD e)) (hs : ∀ x, foldedSetIterable iter X.env x = pure x := by intro _; rfl) :
    PE X (.DictComp kx vx [⟨tg, iter, ifs, 0⟩] scope pos) (tF (fDcm (own.map (·.2)) it p t k e)) :=
  PE.imp (pe_dc hc hN hi (blkOk_by ok) hg ht hk he hs) fun _ _ _ => tDcm_F fun j hj => of_decide_eq_true (List.all_eq_true.mp hv j hj)
end
end
end DL

set_option Elab.async false
set_option linter.all false
set_option maxRecDepth 100000
namespace DL
noncomputable section
open PySem PySem.Spec PyProof.Rows L2
/-! ### xs.index(e), xs a list -/
def idxQ (x : D) : List D → Option Nat
  | [] => none
  | d :: r => match deq d x with
    | true => some 0
    | false => (idxQ x r).map (· + 1)
theorem idxQ_at {x : D} : ∀ {ds : List D} {j : Nat}, idxQ x ds = some j → ∃ d, ds[j]? = some d ∧ deq d x = true ∧ ∀ m d', m < j → ds[m]? = some d' → deq d' x = false
  | [], _, h => nomatch h
  | d :: r, j, h => by
    have h : (match deq d x with | true => some 0 | false => (idxQ x r).map (· + 1)) = some j := h
    cases e : deq d x with
    | true =>
      rw [e] at h
      cases h
      exact ⟨d, rfl, e, fun m d' hm => absurd hm (Nat.not_lt_zero m)⟩
    | false =>
      rw [e] at h
      cases e2 : idxQ x r with
      | none => rw [e2] at h; cases h
      | some i =>
        rw [e2] at h
        cases h
        obtain ⟨y, h1, h2, h3⟩ := idxQ_at e2
        refine ⟨y, h1, h2, fun m d' hm hd => ?_⟩
        cases m with
        | zero => cases hd; exact e
        | succ m => exact h3 m d' (Nat.lt_of_succ_lt_succ hm) hd
def indexD (ds : List D) (a : D) : T D := tIf (pls 59 ds && pl 59 a) (match idxQ a ds with
  | some j => .ok (.int (j : Nat))
  | none => .no)
def fIndex (f g : Ev → T D) : Ev → T D := fun ρ => (f ρ).bind fun d => match d with
  | .lst ds => (g ρ).bind fun a => indexD ds a
  | _ => .no
theorem le_fIndex {a a' b b' : Ev → T D} (h1 : LE a a') (h2 : LE b b') : LE (fIndex a b) (fIndex a' b') := fun ρ => T.le_bind (fun d => by
  cases d <;> first | exact T.le_refl _ | exact T.le_bind (fun _ => T.le_refl _) (h2 ρ)) (h1 ρ)
section
variable {X : Cx} {o e : Expr} {f g : Ev → T D} {apos cpos : Pos}
theorem dindex (hu : X.A.units + 65 < cLine) (ho : PE X o (tB f)) (he : PE X e (tB g)) (hbase : attributeBase o "index" X.env (eval o X.env) = eval o X.env := by rfl)
    (hfew : ((backTo cpos (starEach [e] X.env)).all (fun x => !x.1) && (backToKw cpos (keywordEach [] X.env)).all (fun x => x.1.isSome)
      && decide (([e] : List Expr).length + ([] : List Keyword).length + (if ([] : List Keyword).isEmpty then 0 else 1) < 30)) = true := by rfl)
    (hline : (apos.endLine == cpos.line) = true := by rfl) (hs : starEach [e] X.env = (false, eval e X.env) :: starEach [] X.env := by rfl) (hplain : (backTo cpos (starEach [] X.env)).any (·.1) = false := by rfl) :
    PE X (.Call (.Attribute o "index" apos) [e] [] cpos) (tD (fIndex f g)) :=
  PE.imp (pe_bm PySem.F.plainAttrs_list PySem.F.slot_list_index PySem.F.type_list_index (mt_indexD hu) ho (pa_cons he pa_nil hs) hbase hfew hline hs hplain) fun σ H Q ⟨z, P, O, ρ, R, w⟩ => by
    refine ⟨z, P, O, ρ, R, (WP.bind w).mono fun d w2 v H1 g1 s1 r1 => ?_⟩
    cases d <;> first | exact (show False from w2).elim | skip
    rename_i ds
    obtain ⟨a, vs, ev, hp, rr⟩ := r1.lst
    subst ev
    refine ⟨.inl ⟨rfl, vs, SqL.of hp⟩, z, P, O, ρ, R.grow g1 s1, (WP.bind w2).mono fun y w3 u H2 g2 s2 r2 => ?_⟩
    obtain ⟨c, w4⟩ := tIf_w w3
    rw [Bool.and_eq_true] at c
    cases hj : idxQ y ds with
    | none => rw [hj] at w4; exact w4.elim
    | some j =>
      rw [hj] at w4
      obtain ⟨d, h1, h2, h3⟩ := idxQ_at hj
      have pd : ∀ {m : Nat} {d' : DL.D}, ds[m]? = some d' → pl 59 d' = true := by
        have key : ∀ {l : List DL.D}, pls 59 l = true → ∀ d ∈ l, pl 59 d = true := by
          intro l
          induction l with
          | nil => intro _ d hd; cases hd
          | cons x r ih =>
            intro h d hd
            rw [pls, Bool.and_eq_true] at h
            rcases List.mem_cons.mp hd with e | hd
            · rw [e]; exact h.1
            · exact ih h.2 d hd
        exact fun {m d'} hm => key c.1 _ (List.mem_of_getElem? hm)
      refine ⟨a, u, toPy y, toPys ds, j, toPy d, rfl, rfl, RepB.dp (d := .lst ds) (pl_lst c.1) (r1.grow g2), r2.dp c.2, pl_sh (d := .lst ds) (by decide) (pl_lst c.1), pl_sh (by decide) c.2, ?_, ?_, fun m z' hm hz => ?_, ?_⟩
      · rw [toPys_map, List.getElem?_map, h1]; rfl
      · rw [eqv_deq (pd h1) c.2]; exact h2
      · rw [toPys_map, List.getElem?_map] at hz
        cases e : ds[m]? with
        | none => rw [e] at hz; cases hz
        | some d' =>
          rw [e] at hz
          cases hz
          rw [eqv_deq (pd e) c.2]
          exact h3 m d' hm e
      · exact WP.ok w4 (.int (j : Nat)) H2 (g1.trans g2) s2 rfl
end
end
end DL

set_option Elab.async false
set_option linter.all false
set_option maxRecDepth 100000
set_option maxHeartbeats 4000000
namespace L2
open PySem PySem.Spec PyProof.Rows
/-! tuple * 1: the same tuple -/
theorem tuple_mul1 (l : Addr) (items : Array Value) (n : Nat) (dd : Option Addr) (sl : Array (Option Value)) (u : Tok) :
    Meets (Builtin.«tuple.__mul__» ⟨[.ref l, .int 1 u], []⟩) (fun _ R s => s.heap.get? l = some { cls := .type "tuple", dict := dd, data := .seq items n, slots := sl } ∧ R (.ok (.ret (.ref l))) s) :=
  .of_wp fun prog w A R s h => by
    obtain ⟨hp, g, d, tk, os⟩ := s
    obtain ⟨hl, h⟩ := h
    have f1 := AutoSeq1.idx_int
    wp_walk using wpAny_loadPart' hl
    exact ⟨_, rfl, h⟩
def rRepT1 (K : PySem.W.Frag) : R2 := fun x y H Q => ∃ l xs, x = .ref l ∧ y = .int 1 ∧ SqT K H l xs ∧ Q (.ref l) H
theorem op_repT1 {X : Cx} : OpR X (binaryOp .Mult) (rRepT1 X.K) := by
  intro pins s σ H x y v u Q I rx ry h
  obtain ⟨l, xs, rfl, rfl, hT, q⟩ := h
  cases rx
  obtain ⟨t, rfl⟩ := ry
  obtain ⟨its, r, ⟨⟨cls, dd, data, sl⟩, ho, hc, n, hd⟩, hs⟩ := I.tuple hT
  simp only at hc hd
  subst hc hd
  refine wpAny_binaryOp_repeat_ref (T := "tuple") (U := "int") (by decide) ⟨_, ho, rfl⟩ (fun s' => typeIs_int s' 1 t) noFill_tuple_mul F.fills_int_mul F.slot_int_rmul repeat_tuple F.slot_int_index.lookup
    (call_meets F.slot_int_rmul (typeIs_int s 1 t) F.entry_int_rmul (F.args_int_rmul_2 _ _) (int_rmul_tuple 1 t l its.toArray n dd sl)
      ⟨ho, rfl, ⟨_, ho, rfl⟩, call_meets F.slot_tuple_mul ⟨_, ho, rfl⟩ F.entry_tuple_mul (F.args_tuple_mul_2 _ _) (tuple_mul1 l its.toArray n dd sl t) ⟨ho, ?_⟩⟩)
  exact ⟨.ref l, H, I, rfl, q⟩
end L2
namespace DL
noncomputable section
open PySem PySem.Spec PyProof.Rows L2
/-- a tuple * int -/
def dMulT : D → D → T D
  | .tup (d :: ds), .int n => tIf (ile 1 n && ile n 1000 && Nat.ble (d :: ds).length 1000) (.ok (.tup (rep (d :: ds) n.toNat)))
  | _, _ => .no
def rMulT (X : Cx) : R2 := fun x y H Q => rRepT1 X.K x y H Q ∨ rRepT X.K x y H Q
theorem op_mulT {X : Cx} : OpR X (binaryOp .Mult) (rMulT X) := OpR.or op_repT1 op_repT
theorem mulT_ok {X : Cx} : BinOk dMulT (rMulT X) := fun z P O H a b x y Q W ra rb w => by
  cases a <;> first | exact (show False from w).elim | skip
  rename_i ds
  cases ds with
  | nil => exact (show False from w).elim
  | cons d ds =>
    cases b <;> first | exact (show False from w).elim | skip
    rename_i j
    obtain ⟨c, k⟩ := tIf_w w
    rw [Bool.and_eq_true, Bool.and_eq_true] at c
    obtain ⟨⟨c1, c2⟩, c3⟩ := c
    have h1 := ile_iff.mp c1
    have h2 := ile_iff.mp c2
    have h3 := Nat.le_of_ble_eq_true c3
    obtain ⟨p, vs, ex, vw, hp, rp⟩ := ra.tup
    by_cases q : j = 1
    · subst q
      refine .inl ⟨p, vs, ex, rb.int, SqT.of hp, ?_⟩
      refine KD.self W k.ok ⟨p, vs, rfl, vw, ?_⟩
      have e : rep (d :: ds) (1 : Int).toNat = d :: ds := by
        show (d :: ds) ++ [] = _
        rw [List.append_nil]
      rw [e]; exact rp
    · refine .inr ⟨p, j, vs, ex, rb.int, SqT.of hp, fun e => ?_, by omega, by omega, by rw [rp.length]; exact h3, ?_⟩
      · have := rp.length
        rw [e] at this
        cases this
      · rw [← rep_flat]
        exact KD.tup W k.ok (rp.rep _)
end
end DL

set_option Elab.async false
set_option linter.all false
set_option maxRecDepth 100000
namespace DL
noncomputable section
open PySem PySem.Spec PyProof.Rows L2
section
variable {z : Zr} {P O : Addr → Prop} {H : Hp} {ρ : Ev} {σ : L2.St}
/-- a protected object may be written -/
theorem Rel.shutPut (R : Rel z P O ρ σ H) {q : Addr} {o : HO} (hq : P q) (hs : ¬ inS z q) (nt : Nt (upd H q o) q) : Rel z P O ρ σ (upd H q o) where
  len := R.len
  src := src_keep R.src fun b hb => upd_ne fun e => hs (by rw [← e]; exact hb)
  own := fun b hb => ⟨by
    obtain ⟨u, h1, h2⟩ := (R.own b hb).1
    exact ⟨u, (upd_ne fun e => (R.own b hb).2.2 (by rw [e]; exact hq)).trans h1, h2⟩, (R.own b hb).2⟩
  prt := fun b hb => by
    by_cases e : b = q
    · subst e; exact nt
    · obtain ⟨u, h1, h2⟩ := R.prt b hb
      exact ⟨u, (upd_ne e).trans h1, h2⟩
  at_ := fun j s x h1 h2 => by
    have hv : ∀ a u, Vw z P O H a u → Vw z P O (upd H q o) a u := fun a u ⟨q1, q2, q3, q4⟩ => by
      have ne : a ≠ q := fun e => q2 (by rw [e]; exact hq)
      refine ⟨q1, q2, q3, ?_⟩
      rcases q4 with q4 | ⟨k, ob, q4⟩
      · exact .inl (by rw [upd_ne ne]; exact q4)
      · exact .inr ⟨k, ob, by rw [upd_ne ne]; exact q4⟩
    have nep : ∀ a, O a → a ≠ q := fun a ha e => (R.own a ha).2.2 (by rw [e]; exact hq)
    have w := R.at_ j s x h1 h2
    cases s with
    | non => trivial
    | sh d => obtain ⟨v, e, r⟩ := w; exact ⟨v, e, r.mono hv⟩
    | own d => obtain ⟨a, e, o', t⟩ := w; exact ⟨a, e, o', t.mono hv fun u h => by rw [upd_ne (nep a o')]; exact h⟩
    | lent d => obtain ⟨a, e, o', t⟩ := w; exact ⟨a, e, o', t.mono hv fun u h => by
        rcases h with h | ⟨k, ob, h⟩
        · exact .inl (by rw [upd_ne (nep a o')]; exact h)
        · exact .inr ⟨k, ob, by rw [upd_ne (nep a o')]; exact h⟩⟩
  one := R.one
end
/-! ### return [x.pop(e) for target in iter], x an owned list -/
def popC (i : Nat) (vs : List Nat) (p : Pat) (f : Ev → T D) : Ev → List D → T (List D)
  | _, [] => .ok []
  | ρ, d :: ds => (bindP p d ρ).bind fun ρ1 => match ρ1.at i with
    | .own (.lst L) => (f ρ1).bind fun k => match k with
      | .int (.ofNat j) => match L[j]? with
        | some y => tIf (Nat.blt j 1000000) ((popC i vs p f (wipeE (ρ1.put i (.own (.lst (L.eraseIdx j)))) vs) ds).bind fun ys => .ok (y :: ys))
        | none => .no
      | _ => .no
    | _ => .no
def fPopC (i : Nat) (vs : List Nat) (it : Ev → T (List D)) (p : Pat) (f : Ev → T D) : Ev → T Res := fun ρ => (it ρ).bind fun ds => tIf (Nat.blt ds.length sizeLine) ((popC i vs p f (wipeE ρ vs) ds).bind fun ys => .ok (.rt (.lst ys)))
section
variable {X : Cx} {it : Ev → T (List D)} {p : Pat} {f : Ev → T D} {vs : List Nat} {i : Nat}
theorem tPc_D (hv : ∀ j ∈ p.slots, j ∈ vs) {σ : L2.St} {H : Hp} {Dn : Ends} (h : tS (fPopC i vs it p f) Dn σ H) : tRet (tLc (tI it) (tG p) (tT fYes) (tBM X.K "list" rPopAt (tVar i) (tCons (tD f) tNil)) vs) Dn σ H := by
  obtain ⟨z, P, O, ρ, R, w⟩ := h
  refine ⟨z, P, O, ρ, R, (WP.bind w).mono fun ds w2 J H1 g1 s1 wk D hD => ?_⟩
  obtain ⟨hlen, w2⟩ := tIf_w w2
  have hlen := nblt.mp hlen
  have w3 := WP.bind w2
  have hDn : ¬ inS z D := not_src s1 hD
  have R1 := (R.grow g1 s1).wipe vs
  let K : List DL.D → Prop := fun ys => ∀ v H', SameR z O H H' → Src z H' → Rep (sa z) (Vw z P O0 H') (.lst ys) v → Dn.rt v H'
  let P' : Addr → Prop := fun b => P b ∨ b = D
  let W : Nat → Nat → Hp → Prop := fun k m H' => k ≤ ds.length ∧ m = ds.length - k ∧ SameV z O H1 O H' ∧ ∃ ρ' acc rs, Rel z P' O ρ' (L2.wipe σ vs) H' ∧ H' D = some (.lst acc) ∧ acc.length ≤ k ∧ Reps (sa z) (Vw z P' O H') rs acc ∧ WP (popC i vs p f ρ' (ds.drop k)) fun ys => K (rs ++ ys)
  have Rp : Rel z P' O (wipeE ρ vs) (L2.wipe σ vs) (upd H1 D (.lst [])) := R1.protect hD (same_new hD) (src_new s1 hD) ⟨_, upd_same, fun _ q => nomatch q⟩
  refine ⟨W, ⟨ds.length, Nat.zero_le _, rfl, SameV.of (same_new hD), wipeE ρ vs, [], [], Rp, upd_same, Nat.zero_le _, rfl, w3.mono fun ys q => WP.ok q⟩, fun k m H' ⟨hk, hm, gs, ρ', acc, rs, R', hacc, hal, rr, w4⟩ => ?_⟩
  have lt : Lat z P O H1 P' O H' := ⟨gs, R'.ws, fun b h => h.elim .inl fun q => .inr (q ▸ hD)⟩
  obtain ⟨k1, k2, k3⟩ := wk _ _ _ lt
  by_cases h : k < ds.length
  · right
    refine ⟨k1 k h, fun H'' => W (k + 1) (m - 1) H'', fun H'' w => ⟨m - 1, by omega, w⟩, fun x H3 hx => ?_⟩
    obtain ⟨g3, s3, d, hd, rd⟩ := k3 k x H3 h hx
    rw [List.drop_eq_getElem_cons h] at w4
    have ed : ds[k] = d := Option.some.inj ((List.getElem?_eq_getElem h).symm.trans hd)
    rw [ed] at w4
    refine ⟨z, P', O, ρ', d, R'.grow g3 s3, rd, (WP.bind w4).mono fun ρ1 w5 σ4 hb R4 => ⟨wipe_but hb hv, ?_⟩⟩
    refine ⟨z, P', O, ρ1, R4, fun H5 g5 s5 => ?_⟩
    have R5 := R4.grow g5 s5
    show (tBM X.K "list" rPopAt (tVar i) (tCons (tD f) tNil)) σ4 H5 _
    have w5 : WP (match ρ1.at i with
      | .own (.lst L) => (f ρ1).bind fun kd => match kd with
        | .int (.ofNat j) => match L[j]? with
          | some y => tIf (Nat.blt j 1000000) ((popC i vs p f (wipeE (ρ1.put i (.own (.lst (L.eraseIdx j)))) vs) (ds.drop (k + 1))).bind fun ys => T.ok (y :: ys))
          | none => .no
        | _ => .no
      | _ => .no) (fun ys => K (rs ++ ys)) := w5
    cases ea : ρ1.at i with
    | non => rw [ea] at w5; exact w5.elim
    | sh d => rw [ea] at w5; exact w5.elim
    | lent d => rw [ea] at w5; exact w5.elim
    | own dd =>
      rw [ea] at w5
      cases dd <;> first | exact (show False from w5).elim | skip
      rename_i L
      obtain ⟨q, hi, hy, op, t⟩ := own_at R5 ea
      obtain ⟨vl, hp, rv⟩ := t
      refine ⟨.ref q, hy, .inl ⟨rfl, vl, SqL.of hp⟩, z, P', O, ρ1, R5, (WP.bind w5).mono fun kd w6 u H6 g6 s6 r6 => ?_⟩
      have R6 := R5.grow g6 s6
      have hp6 := g6 q _ (R5.own q op).2.1 hp
      have rv6 := rv.mono (Vw.grow g6)
      cases kd <;> first | exact (show False from w6).elim | skip
      rename_i n
      cases n with
      | negSucc n => exact (show False from w6).elim
      | ofNat j =>
        have w6 : WP (match L[j]? with
          | some y => tIf (Nat.blt j 1000000) ((popC i vs p f (wipeE (ρ1.put i (.own (.lst (L.eraseIdx j)))) vs) (ds.drop (k + 1))).bind fun ys => T.ok (y :: ys))
          | none => .no) _ := w6
        cases hL : L[j]? with
        | none => rw [hL] at w6; exact w6.elim
        | some y =>
          rw [hL] at w6
          obtain ⟨hj, w7⟩ := tIf_w w6
          have hj := nblt.mp hj
          obtain ⟨yv, hyv, ry⟩ := rv6.get hL
          have hjl : j < vl.length := (List.getElem?_eq_some_iff.mp hyv).1
          have hsi : seqIndex? ((j : Nat) : Int) vl.length = some j := by
            have e : (if ((j : Nat) : Int) < 0 then ((j : Nat) : Int) + (vl.length : Int) else ((j : Nat) : Int)) = ((j : Nat) : Int) := if_neg (by omega)
            have c : (decide (0 ≤ ((j : Nat) : Int)) && decide (((j : Nat) : Int) < (vl.length : Int))) = true := by rw [decide_eq_true (by omega), decide_eq_true (by omega)]; rfl
            unfold seqIndex?
            simp only [e]
            rw [if_pos c, Int.toNat_natCast]
          refine ⟨q, vl, ((j : Nat) : Int), j, yv, rfl, by rw [show u = .int _ from r6]; rfl, hp6, by omega, by omega, hsi, hyv, ?_⟩
          have her : Reps (sa z) (Vw z P' O H6) (L.eraseIdx j) (vl.eraseIdx j) := by
            rw [List.eraseIdx_eq_take_drop_succ, List.eraseIdx_eq_take_drop_succ]
            exact (rv6.take j).append (rv6.drop (j + 1))
          have R7 : Rel z P' O (ρ1.put i (.own (.lst (L.eraseIdx j)))) σ4 (upd H6 q (.lst (vl.eraseIdx j))) := R6.change hi hy op ⟨_, rfl, her⟩
          have hv7 : ∀ a u, Vw z P' O H6 a u → Vw z P' O (upd H6 q (.lst (vl.eraseIdx j))) a u := fun a u ⟨q1, q2, q3, q4⟩ => by
            have ne : a ≠ q := fun e => q1 (e ▸ op)
            refine ⟨q1, q2, q3, ?_⟩
            rcases q4 with q4 | ⟨k, ob, q4⟩
            · exact .inl (by rw [upd_ne ne]; exact q4)
            · exact .inr ⟨k, ob, by rw [upd_ne ne]; exact q4⟩
          have hDq : D ≠ q := fun e => (R5.own q op).2.2 (.inr e.symm)
          have hacc6 : H6 D = some (.lst acc) := g6 D _ hDn (g5 D _ hDn (g3 D _ hDn hacc))
          have hacc7 : upd H6 q (.lst (vl.eraseIdx j)) D = some (.lst acc) := by rw [upd_ne hDq]; exact hacc6
          refine ⟨acc, hacc7, by omega, by omega, by omega, ?_, wipeE (ρ1.put i (.own (.lst (L.eraseIdx j)))) vs, acc ++ [yv], rs ++ [y], ?_, upd_same, by rw [List.length_append]; show acc.length + 1 ≤ k + 1; omega, ?_, ?_⟩
          · intro b o hb hs e
            obtain ⟨o1, o2⟩ := gs b o hb hs e
            refine ⟨o1, ?_⟩
            have nD : b ≠ D := fun x => by rw [x, hD] at e; cases e
            have nq : b ≠ q := fun x => hb (by rw [x]; exact op)
            rw [upd_ne nD, upd_ne nq]
            exact g6 b o hs (g5 b o hs (g3 b o hs o2))
          · have R8 := (R7.shutPut (q := D) (o := .lst (acc ++ [yv])) (.inr rfl) hDn ⟨_, upd_same, fun _ q => nomatch q⟩).wipe vs
            rw [wipe_but hb hv] at R8
            exact R8
          · have hv8 : ∀ a u, Vw z P' O (upd H6 q (.lst (vl.eraseIdx j))) a u → Vw z P' O (upd (upd H6 q (.lst (vl.eraseIdx j))) D (.lst (acc ++ [yv]))) a u := fun a u ⟨q1, q2, q3, q4⟩ => by
              have ne : a ≠ D := fun e => q2 (.inr e)
              refine ⟨q1, q2, q3, ?_⟩
              rcases q4 with q4 | ⟨k, ob, q4⟩
              · exact .inl (by rw [upd_ne ne]; exact q4)
              · exact .inr ⟨k, ob, by rw [upd_ne ne]; exact q4⟩
            exact Reps.append (((rr.mono (Vw.grow ((g3.trans g5).trans g6))).mono hv7).mono hv8) (Reps.one ((ry.mono hv7).mono hv8))
          · refine (WP.bind w7).mono fun ys k => ?_
            have k' := WP.ok k
            rw [List.append_assoc]
            exact k'
  · left
    refine ⟨k2 k (by omega), ?_⟩
    rw [List.drop_eq_nil_of_le (by omega)] at w4
    have kk := WP.ok w4
    rw [List.append_nil] at kk
    refine kk (.ref D) H' (fun b o hb hs e => (gs b o hb hs (g1 b o hs e)).2) R'.src ⟨D, acc, rfl, ⟨fun h => h, fun h => ((R.grow g1 s1).prt D h).ne hD, hDn, .inl hacc⟩, rr.mono fun a u ⟨q1, q2, q3, q4⟩ => ⟨fun h => h, fun h => q2 (.inl h), q3, q4⟩⟩
end
section
variable {X : Cx} {e : Expr} {f : Ev → T D} {x : Str} {pos pos' apos cpos : Pos}
theorem epop (i : Nat) (he : PE X e (tD f)) (hN : X.N[i]? = some x := by rfl) (hv : Vis X.env.scope x := by first | exact Or.inl rfl | exact Or.inr (Or.inl rfl) | exact Or.inr (Or.inr rfl)) (hd : (x == ("__debug__" : Str)) = false := by decide)
    (hcd : (x == ("__classdict__" : Str)) = false := by decide) (hbase : attributeBase (.Name x pos') "pop" X.env (eval (.Name x pos') X.env) = eval (.Name x pos') X.env := by rfl)
    (hfew : ((backTo cpos (starEach [e] X.env)).all (fun x => !x.1) && (backToKw cpos (keywordEach [] X.env)).all (fun x => x.1.isSome)
      && decide (([e] : List Expr).length + ([] : List Keyword).length + (if ([] : List Keyword).isEmpty then 0 else 1) < 30)) = true := by rfl)
    (hline : (apos.endLine == cpos.line) = true := by rfl) (hs : starEach [e] X.env = (false, eval e X.env) :: starEach [] X.env := by rfl) (hplain : (backTo cpos (starEach [] X.env)).any (·.1) = false := by rfl) :
    PE X (.Call (.Attribute (.Name x pos') "pop" apos) [e] [] cpos) (tBM X.K "list" rPopAt (tVar i) (tCons (tD f) tNil)) :=
  pe_bm PySem.F.plainAttrs_list PySem.F.slot_list_pop PySem.F.type_list_pop mt_popAt (pe_var hN hv hd hcd) (pa_cons he pa_nil hs) hbase hfew hline hs hplain
variable {tg iter elt : Expr} {it : Ev → T (List D)} {p : Pat} {scope : Scope} {own : List (Str × Nat)} {rpos : Pos}
theorem spopc (i : Nat) (hc : X.calm = true) (hN : X.N.Nodup) (hi : PI X tg iter (tI it)) (ok : blkC X.N X.env.scope scope own = true) (hv : (p.slots.all fun j => decide (j ∈ own.map (·.2))) = true)
    (hg : ∀ (s : Shared) (H : Hp) (C : Addr) (cl : List (Str × Addr)) (fp : List Addr), PG (X.blk s H scope (compEnvC scope cl C X.env) fp) tg (tG p))
    (he : ∀ (s : Shared) (H : Hp) (C : Addr) (cl : List (Str × Addr)) (fp : List Addr), PE (X.blk s H scope (compEnvC scope cl C X.env) fp) elt (tBM X.K "list" rPopAt (tVar i) (tCons (tD f) tNil))) (hs : ∀ x, foldedSetIterable iter X.env x = pure x := by intro _; rfl) :
    PS X (.Return (some (.ListComp elt [⟨tg, iter, [], 0⟩] scope pos)) rpos) (tS (fPopC i (own.map (·.2)) it p f)) :=
  PS.imp (ps_ret (pe_lc hc hN hi (blkOk_by ok) hg (fun _ _ _ _ _ => ty) he hs)) fun _ _ _ => tPc_D fun j hj => of_decide_eq_true (List.all_eq_true.mp hv j hj)
theorem le_popC {f f' : Ev → T D} (h1 : LE f f') (i : Nat) (vs : List Nat) (p : Pat) : ∀ (ds : List D) (ρ : Ev), T.le (popC i vs p f ρ ds) (popC i vs p f' ρ ds)
  | [], _ => T.le_refl _
  | d :: ds, ρ => T.le_bind (fun ρ1 => by
      show T.le (match ρ1.at i with | .own (.lst L) => (f ρ1).bind _ | _ => .no) (match ρ1.at i with | .own (.lst L) => (f' ρ1).bind _ | _ => .no)
      cases ρ1.at i with
      | non => exact T.le_refl _
      | sh d => exact T.le_refl _
      | lent d => exact T.le_refl _
      | own dd =>
        cases dd <;> first | exact T.le_refl _ | skip
        rename_i L
        refine T.le_bind (fun kd => ?_) (h1 ρ1)
        cases kd <;> first | exact T.le_refl _ | skip
        rename_i n
        cases n with
        | negSucc n => exact T.le_refl _
        | ofNat j =>
          show T.le (match L[j]? with | some y => tIf (Nat.blt j 1000000) _ | none => .no) (match L[j]? with | some y => tIf (Nat.blt j 1000000) _ | none => .no)
          cases L[j]? with
          | none => exact T.le_refl _
          | some y =>
            cases Nat.blt j 1000000
            · exact T.le_refl _
            · exact T.le_bind (fun _ => T.le_refl _) (le_popC h1 i vs p ds _)) (T.le_refl _)
theorem le_fPopC {f f' : Ev → T D} {it it' : Ev → T (List D)} {i : Nat} {vs : List Nat} {p : Pat} (h0 : LE it it') (h1 : LE f f') : LE (fPopC i vs it p f) (fPopC i vs it' p f') := fun ρ => T.le_bind (fun ds => by
  show T.le (tIf (Nat.blt ds.length sizeLine) _) (tIf (Nat.blt ds.length sizeLine) _)
  cases Nat.blt ds.length sizeLine
  · exact T.le_refl _
  · exact T.le_bind (fun _ => T.le_refl _) (le_popC h1 i vs p ds _)) (h0 ρ)
end
end
end DL

set_option Elab.async false
set_option linter.all false
set_option maxRecDepth 100000
set_option maxHeartbeats 4000000
namespace L2
open PySem PySem.Spec PyProof.Rows
/-! tuple * 0 -/
theorem tuple_mul0 (l : Addr) (items : Array Value) (n : Nat) (dd : Option Addr) (sl : Array (Option Value)) (u : Tok) (hi : items.isEmpty = false) :
    Meets (Builtin.«tuple.__mul__» ⟨[.ref l, .int 0 u], []⟩) (fun _ R s => s.heap.get? l = some { cls := .type "tuple", dict := dd, data := .seq items n, slots := sl } ∧
      R (.ok (.ret (Value.ref s.heap.objs.size))) { s with heap := s.heap.push { cls := Value.type "tuple", data := Data.seq #[] }, toks := s.toks }) :=
  .of_wp fun prog w A R s h => by
    obtain ⟨hp, g, d, tk, os⟩ := s
    obtain ⟨hl, h⟩ := h
    have f1 := AutoSeq1.idx_int
    have c1 : (items.isEmpty || (0 : Int) == 1) = false := by rw [hi]; rfl
    wp_walk using wpAny_loadPart' hl
    repeat (first
      | (refine wpAny_ite_false (decide_eq_false (by rw [c1]; exact Bool.false_ne_true)) ?_; wp_walk using wpAny_loadPart' hl))
    exact ⟨_, rfl, h⟩
def rRepT0 (K : PySem.W.Frag) : R2 := fun x y H Q => ∃ l xs, x = .ref l ∧ y = .int 0 ∧ SqT K H l xs ∧ xs ≠ [] ∧ ∀ p, H p = none → Q (.ref p) (upd H p (.tup []))
theorem op_repT0 {X : Cx} : OpR X (binaryOp .Mult) (rRepT0 X.K) := by
  intro pins s σ H x y v u Q I rx ry h
  obtain ⟨l, xs, rfl, rfl, hT, hne, q⟩ := h
  cases rx
  obtain ⟨t, rfl⟩ := ry
  obtain ⟨its, r, ⟨⟨cls, dd, data, sl⟩, ho, hc, n, hd⟩, hs⟩ := I.tuple hT
  simp only at hc hd
  subst hc hd
  have hle : its.length = xs.length := r.length.symm
  have hi : its.toArray.isEmpty = false := by
    cases its with
    | nil => exact absurd (List.eq_nil_of_length_eq_zero hle.symm) hne
    | cons a b => rfl
  refine wpAny_binaryOp_repeat_ref (T := "tuple") (U := "int") (by decide) ⟨_, ho, rfl⟩ (fun s' => typeIs_int s' 0 t) noFill_tuple_mul F.fills_int_mul F.slot_int_rmul repeat_tuple F.slot_int_index.lookup
    (call_meets F.slot_int_rmul (typeIs_int s 0 t) F.entry_int_rmul (F.args_int_rmul_2 _ _) (int_rmul_tuple 0 t l its.toArray n dd sl)
      ⟨ho, rfl, ⟨_, ho, rfl⟩, call_meets F.slot_tuple_mul ⟨_, ho, rfl⟩ F.entry_tuple_mul (F.args_tuple_mul_2 _ _) (tuple_mul0 l its.toArray n dd sl t hi) ⟨ho, ?_⟩⟩)
  refine ⟨.ref s.heap.objs.size, _, I.laid (t' := s.toks) (o := .tup []) (fun b ob q => Heap.get?_push_of_some _ q) (Nat.le_refl _) ?_, rfl, q _ (I.hok.fresh (Nat.le_refl _))⟩
  exact ⟨Nat.zero_le _, [], .nil, IsTup.new _ _⟩
end L2
namespace DL
noncomputable section
open PySem PySem.Spec PyProof.Rows L2
/-- a tuple * int, 0 times too -/
def dMulU : D → D → T D
  | .tup (d :: ds), .int n => match ieq n 0 with
    | true => .ok (.tup [])
    | false => dMulT (.tup (d :: ds)) (.int n)
  | _, _ => .no
def rMulU (X : Cx) : R2 := fun x y H Q => rRepT0 X.K x y H Q ∨ rMulT X x y H Q
theorem op_mulU {X : Cx} : OpR X (binaryOp .Mult) (rMulU X) := OpR.or op_repT0 op_mulT
theorem mulU_ok {X : Cx} : BinOk dMulU (rMulU X) := fun z P O H a b x y Q W ra rb w => by
  cases a <;> first | exact (show False from w).elim | skip
  rename_i ds
  cases ds with
  | nil => exact (show False from w).elim
  | cons d ds =>
    cases b <;> first | exact (show False from w).elim | skip
    rename_i j
    have w : WP (match ieq j 0 with | true => T.ok (D.tup []) | false => dMulT (.tup (d :: ds)) (.int j)) _ := w
    cases q : ieq j 0 with
    | false =>
      rw [q] at w
      exact .inr (mulT_ok z P O H _ _ x y Q W ra rb w)
    | true =>
      rw [q] at w
      rw [ieq_eq] at q
      have q := of_decide_eq_true q
      subst q
      obtain ⟨p, vs, ex, vw, hp, rp⟩ := ra.tup
      refine .inl ⟨p, vs, ex, rb.int, SqT.of hp, fun e => ?_, ?_⟩
      · have := rp.length
        rw [e] at this
        cases this
      · exact KD.tup W w.ok rfl
end
end DL

set_option Elab.async false
set_option linter.all false
set_option maxRecDepth 100000
namespace DL
noncomputable section
open PySem PySem.Spec PyProof.Rows L2
/-! ### a def's new list of plain members, owned by the caller -/
mutual
/-- tuples of plain members, to any depth -/
def tupy : D → Bool
  | .tup ds => tupys ds
  | .lst _ => false
  | .dct _ _ => false
  | .src => false
  | _ => true
def tupys : List D → Bool
  | [] => true
  | d :: r => tupy d && tupys r
end
section
variable {s : Option Addr} {R R' : Addr → HO → Prop}
mutual
theorem tupy_rep (h : ∀ a xs, R a (.tup xs) → R' a (.tup xs)) : ∀ {d : D} {v : V}, tupy d = true → Rep s R d v → Rep s R' d v
  | .non, _, _, r => r
  | .bl _, _, _, r => r
  | .int _, _, _, r => r
  | .str _, _, _, r => r
  | .tup _, _, t, ⟨a, vs, e, q, r⟩ => ⟨a, vs, e, h _ _ q, tupys_rep h t r⟩
  | .txt _, _, _, r => r
theorem tupys_rep (h : ∀ a xs, R a (.tup xs) → R' a (.tup xs)) : ∀ {ds : List D} {vs : List V}, tupys ds = true → Reps s R ds vs → Reps s R' ds vs
  | [], _, _, r => r
  | d :: ds, _, t, ⟨v, r, e, q, w⟩ => by
    have t : (tupy d && tupys ds) = true := t
    rw [Bool.and_eq_true] at t
    exact ⟨v, r, e, tupy_rep h t.1 q, tupys_rep h t.2 w⟩
end
theorem flats_rep : ∀ {ds : List D} {vs : List V}, ds.all flat = true → Reps s R ds vs → Reps s R' ds vs
  | [], _, _, r => r
  | d :: ds, _, t, ⟨v, r, e, q, w⟩ => by
    rw [List.all_cons, Bool.and_eq_true] at t
    exact ⟨v, r, e, flat_any t.1 q, flats_rep t.2 w⟩
end
def lstFlat : D → Bool
  | .lst ds => ds.all flat
  | _ => false
section
variable {X : Cx} {x : Str} {p pos : Pos} {e : Expr} {es : List Expr} {g : Ev → T (List D)} {k n : Nat} {F : List D → T D}
def fCallO (n : Nat) (F : List D → T D) (g : Ev → T (List D)) : Ev → T D := fun ρ => (g ρ).bind fun ds => tIf (Nat.beq ds.length n && tupys ds) ((F ds).bind fun d => tIf (lstFlat d) (.ok d))
theorem dcallO (h : Has X.prog X.w X.K X.mg X.base k x n F) (hr : Rm k X.A) (hg : Gl X x) (ha : PA X (e :: es) (tDs g)) (hdb : (x == ("__debug__" : Str)) = false := by decide)
    (he : starEach (e :: es) X.env = (false, eval e X.env) :: starEach es X.env := by rfl) (hpl : (backTo pos (starEach es X.env)).any (·.1) = false := by rfl) : PE X (.Call (.Name x p) (e :: es) [] pos) (tF (fCallO n F g)) := by
  obtain ⟨f, fd, ps, G, hm, hk, hb⟩ := h.ex
  refine PE.imp (g_call G hr hg hm hk hb ha hdb he hpl) fun σ H Q ⟨z, P, O, ρ, R, w⟩ => ?_
  refine ⟨z, P, O, ρ, R, (WP.bind w).mono fun ds w2 vs H1 g1 s1 r1 => ?_⟩
  obtain ⟨hl, w3⟩ := tIf_w w2
  rw [Bool.and_eq_true] at hl
  have R1 := R.grow g1 s1
  refine ⟨r1.len' (Nat.eq_of_beq_eq_true hl.1), z, fun b => Nt H1 b ∧ ¬ inS z b, ds, ⟨s1, fun b h => h.elim, fun b h => h.1⟩, tupys_rep (fun a xs q => ?_) hl.2 r1, (WP.bind w3).mono fun d w4 v H2 g2 s2 r2 => ?_⟩
  · obtain ⟨h1, h2, h3, h4⟩ := q
    refine ⟨fun h => h, fun h => ?_, h3, h4⟩
    obtain ⟨u, e1, e2⟩ := h.1
    exact e2 xs (Option.some.inj (e1.symm.trans (Rx.tup h4)))
  · obtain ⟨hf, w5⟩ := tIf_w w4
    cases d <;> first | exact absurd (show false = true from hf) Bool.false_ne_true | skip
    rename_i ys
    have hf : ys.all flat = true := hf
    obtain ⟨a, us, ev, ⟨q1, q2, q3, q4⟩, rr⟩ := r2
    have q4 := Rx.lst q4
    have hn : H1 a = none := by
      cases e1 : H1 a with
      | none => rfl
      | some u =>
        have e2 := g2 a u q3 e1
        refine absurd ⟨⟨u, e1, fun xs q => ?_⟩, q3⟩ q2
        subst q
        rw [q4] at e2
        cases e2
    rw [ev]
    exact WP.ok w5 a H2 (none_of g1 s1 hn) (g1.trans g2) s2 ⟨us, q4, flats_rep hf rr⟩
theorem le_fCallO {F F' : List D → T D} {g g' : Ev → T (List D)} {n : Nat} (h1 : LE F F') (h2 : LE g g') : LE (fCallO n F g) (fCallO n F' g') := fun ρ => T.le_bind (fun ds => by
  show T.le (tIf (Nat.beq ds.length n && tupys ds) _) (tIf (Nat.beq ds.length n && tupys ds) _)
  cases Nat.beq ds.length n && tupys ds
  · exact T.le_refl _
  · exact T.le_bind (fun _ => T.le_refl _) (h1 ds)) (h2 ρ)
end
/-! ### raise: no promise -/
def fFail : Ev → T Res := fun _ => .no
theorem sraise {X : Cx} {st : Stmt} : PS X st (tS fFail) := ⟨fun pins s σ H D I h => by
  obtain ⟨z, P, O, ρ, R, w⟩ := h
  exact w.elim⟩
/-! ### math.gcd -/
def dGcd : List D → T D
  | [.int a, .int b] => .ok (.int ((Nat.gcd a.natAbs b.natAbs : Nat) : Int))
  | _ => .no
theorem repB_int {z : Zr} {P O : Addr → Prop} {H : Hp} {a : Int} {v : V} (h : RepB z P O H (.int a) v) : v = .int a := by
  rcases h with h | ⟨p, _, _, _, _, t⟩
  · exact h
  · exact t.elim
theorem dGcd_w {ds : List D} {Q : D → Prop} (w : WP (dGcd ds) Q) : ∃ a b, ds = [.int a, .int b] ∧ Q (.int ((Nat.gcd a.natAbs b.natAbs : Nat) : Int)) := by
  unfold dGcd at w
  split at w
  · exact ⟨_, _, rfl, w⟩
  · exact w.elim
theorem gcd_ok : CallOk dGcd rGcd := fun z P O H ds vs Q W r w => by
  obtain ⟨a, b, e, k⟩ := dGcd_w w
  subst e
  obtain ⟨v1, l1, e1, q1, v2, l2, e2, q2, e3⟩ := r
  have e3 : l2 = [] := e3
  subst e3
  subst e2
  subst e1
  have h1 := repB_int q1
  have h2 := repB_int q2
  subst h1
  subst h2
  exact ⟨a, b, rfl, KD.self W k rfl⟩
section
variable {X : Cx} {x : Str} {p pos : Pos} {e : Expr} {es : List Expr} {g : Ev → T (List D)} {id : String} {r : List V → Hp → VK → Prop} {fo : List D → T D}
theorem dcbG (hc : CallR X (.builtin id) r) (hr : CallOk fo r) (hg : Gl X x) (hm : X.mg x = some (.builtin id)) (ha : PA X (e :: es) (tBs g)) (hdb : (x == ("__debug__" : Str)) = false := by decide)
    (he : starEach (e :: es) X.env = (false, eval e X.env) :: starEach es X.env := by rfl) (hpl : (backTo pos (starEach es X.env)).any (·.1) = false := by rfl) : PE X (.Call (.Name x p) (e :: es) [] pos) (tD (fFn fo g)) :=
  PE.imp (pe_callBfun hc hg hm ha hdb he hpl) fun _ _ _ => tCB_D hr
end
end
end DL

set_option Elab.async false
set_option linter.all false
set_option maxRecDepth 100000
namespace DL
noncomputable section
open PySem PySem.Spec PyProof.Rows L2
/-! ### zip(a, b, strict=True) -/
abbrev IsZs (h : Heap) (z TI TO : Addr) (f0 : Value) : Prop :=
  h.get? z = some { cls := .type "zip", dict := none, data := .fields #[f0, .bool false, .bool true, .ref TI, .ref TO], slots := #[] }
section
variable {prog : Program} {w : World} {A : Around} {E : Value → Shared → Prop} {s : Shared}
theorem noe_item {it : Addr} {fp : List Addr} {n i : Nat} {P : Nat → Value → Prop} {St : Nat → Heap → Prop} {Q : Option Value → Shared → Prop} (D : Draws prog w A it fp n P St) (hi : i < n) (st : St i s.heap)
    (k : ∀ x h' tk, P i x → St (i + 1) h' → Heap.SameBut it s.heap h' → Q (some x) { s with heap := h', toks := tk }) : wpAny (model prog w) A (Builtin.SmallTypes.nextOrEnd (.ref it)) Q E s := by
  unfold Builtin.SmallTypes.nextOrEnd
  exact wpAny_bind (wpAny_attempt (D.item i s _ _ hi st fun x h' tk p st' sb => wpAny_pure (k x h' tk p st' sb)))
theorem noe_end {it : Addr} {fp : List Addr} {n : Nat} {P : Nat → Value → Prop} {St : Nat → Heap → Prop} {Q : Option Value → Shared → Prop} (D : Draws prog w A it fp n P St) (st : St n s.heap)
    (k : ∀ h', Heap.ExtBut it s.heap h' → Q none { s with heap := h' }) : wpAny (model prog w) A (Builtin.SmallTypes.nextOrEnd (.ref it)) Q E s := by
  unfold Builtin.SmallTypes.nextOrEnd
  refine wpAny_bind (wpAny_attempt (D.done s _ _ st fun h' e hb he => ?_))
  obtain ⟨o, ho, hc⟩ := he
  show wpAny (model prog w) A (isInstance (.ref e) (.type "StopIteration") >>= _) _ _ _
  refine wpAny_bind (wpAny_isInstance (T := "StopIteration") (b := true) ⟨o, ho, hc⟩ isSubtype_stop ?_)
  exact wpAny_pure (k h' hb)
variable {z TI TO i1 i2 : Addr} {fp1 fp2 : List Addr} {n1 n2 i : Nat} {P1 P2 : Nat → Value → Prop} {St1 St2 : Nat → Heap → Prop} {b1 b2 : Value}
theorem zs_item {Q : Value → Shared → Prop} (S : ZipSep2 z TI TO i1 i2 fp1 fp2) (D1 : Draws prog w A i1 fp1 n1 P1 St1) (D2 : Draws prog w A i2 fp2 n2 P2 St2)
    (hz : IsZs s.heap z TI TO .none) (hI : IsTupOf2 s.heap TI (.ref i1) (.ref i2)) (hO : IsTupOf2 s.heap TO b1 b2) (t1 : St1 i s.heap) (t2 : St2 i s.heap) (l1 : i < n1) (l2 : i < n2)
    (k : ∀ x y h' tk, P1 i x → P2 i y → IsZs h' z TI TO (rawInt s.heap.objs.size) → IsTupOf2 h' TO x y → St1 (i + 1) h' → St2 (i + 1) h' → IsTupOf2 h' s.heap.objs.size x y → h'.objs.size = s.heap.objs.size + 1 →
      (∀ c o, c ≠ z → c ≠ TO → c ≠ i1 → c ≠ i2 → s.heap.get? c = some o → h'.get? c = some o) → Q (.ref s.heap.objs.size) { s with heap := h', toks := tk }) :
    wpAny (model prog w) A (Builtin.«zip.__next__» ⟨[.ref z], []⟩) (fun fin s' => ∃ v, fin = .done (.ret v) ∧ Q v s') E s := by
  obtain ⟨h0, gl, dd, u0, st⟩ := s
  show wpAny _ _ (field (.ref z) 2 >>= _) _ _ _
  refine wpAny_bind (wpAny_field hz rfl (x := .bool true) rfl ?_)
  show wpAny _ _ (field (.ref z) 3 >>= _) _ _ _
  refine wpAny_bind (wpAny_field (x := .ref TI) hz rfl rfl ?_)
  refine wpAny_bind (wpAny_seqItems hI rfl ?_)
  show wpAny _ _ (Builtin.SmallTypes.ownedTupleIsFree (.ref z) >>= _) _ _ _
  refine wpAny_bind ?_
  unfold Builtin.SmallTypes.ownedTupleIsFree
  refine wpAny_bind (wpAny_field (x := .none) hz rfl rfl (wpAny_pure ?_))
  simp only [if_true]
  refine wpAny_bind (wpAny_rule ?_)
  refine wpAny_bind (wpAny_field (x := .ref TO) hz rfl rfl ?_)
  refine wpAny_bind (wpAny_setField_rec hz (by simp) fun k0 ez0 es0 => ?_)
  replace ez0 : IsZs k0 z TI TO .ellipsis := ez0
  replace es0 : Heap.SameBut z h0 k0 := es0
  refine wpAny_bind ?_
  simp only [List.zipIdx_cons, List.zipIdx_nil, List.forIn_cons, List.forIn_nil]
  refine wpAny_bind (wpAny_bind (wpAny_onRaise ?_))
  show wpAny (model prog w) A (Builtin.SmallTypes.nextOrEnd (.ref i1)) _ _ ⟨k0, gl, dd, u0, st⟩
  refine noe_item D1 l1 (D1.over t1 es0 S.zf1) fun x p1 u1 hx sn1 sb1 => ?_
  replace sb1 : Heap.SameBut i1 k0 p1 := sb1
  have o1 : IsTupOf2 p1 TO b1 b2 := sb1.extBut _ _ S.Ti1 (es0.extBut _ _ S.TOz hO)
  refine wpAny_bind (wpAny_seqItems (s := ⟨p1, gl, dd, u1, st⟩) o1 rfl ?_)
  refine wpAny_bind (updateSeq_IsTupOf2 (s := ⟨p1, gl, dd, u1, st⟩) o1 fun k1 eT1 es1 => ?_)
  replace eT1 : IsTupOf2 k1 TO x b2 := eT1
  replace es1 : Heap.SameBut TO p1 k1 := es1
  refine wpAny_bind (wpAny_letGo (wpAny_pure ?_))
  refine wpAny_bind (wpAny_bind (wpAny_onRaise ?_))
  show wpAny (model prog w) A (Builtin.SmallTypes.nextOrEnd (.ref i2)) _ _ ⟨k1, gl, dd, u1, st⟩
  refine noe_item D2 l2 (D2.over (D2.over (D2.over t2 es0 S.zf2) sb1 S.sep1_2) es1 S.Tf2) fun y p2 u2 hy sn2 sb2 => ?_
  replace sb2 : Heap.SameBut i2 k1 p2 := sb2
  have o2 : IsTupOf2 p2 TO x b2 := sb2.extBut _ _ S.Ti2 eT1
  refine wpAny_bind (wpAny_seqItems (s := ⟨p2, gl, dd, u2, st⟩) o2 rfl ?_)
  refine wpAny_bind (updateSeq_IsTupOf2 (s := ⟨p2, gl, dd, u2, st⟩) o2 fun k2 eT2 es2 => ?_)
  replace eT2 : IsTupOf2 k2 TO x y := eT2
  replace es2 : Heap.SameBut TO p2 k2 := es2
  refine wpAny_bind (wpAny_letGo (wpAny_pure (wpAny_pure ?_)))
  refine wpAny_bind (wpAny_seqItems (s := ⟨k2, gl, dd, u2, st⟩) eT2 rfl ?_)
  refine wpAny_bind (wpAny_newTuple ?_)
  have zsz : k2.objs.size = h0.objs.size := by rw [es2.1, sb2.1, es1.1, sb1.1, es0.1]
  have zzz : IsZs k2 z TI TO .ellipsis := es2.extBut _ _ S.TOz.symm (sb2.extBut _ _ S.zi2 (es1.extBut _ _ S.TOz.symm (sb1.extBut _ _ S.zi1 ez0)))
  have kkk : ∀ c o, c ≠ z → c ≠ TO → c ≠ i1 → c ≠ i2 → h0.get? c = some o → k2.get? c = some o := fun c o q1 q2 q3 q4 e =>
    es2.extBut _ _ q2 (sb2.extBut _ _ q4 (es1.extBut _ _ q2 (sb1.extBut _ _ q3 (es0.extBut _ _ q1 e))))
  have jj1 : St1 (i + 1) k2 := D1.over (D1.over (D1.over sn1 es1 S.Tf1) sb2 S.sep2_1) es2 S.Tf1
  have jj2 : St2 (i + 1) k2 := D2.over sn2 es2 S.Tf2
  have zlt : z < k2.objs.size := Heap.lt_size zzz
  show wpAny _ _ (Builtin.SmallTypes.ownedTupleHandOut (.ref z) (.ref k2.objs.size) >>= _) _ _ ⟨k2.push { cls := .type "tuple", data := .seq #[x, y] }, gl, dd, u2, st⟩
  refine wpAny_bind ?_
  unfold Builtin.SmallTypes.ownedTupleHandOut
  have z6 : IsZs (k2.push { cls := .type "tuple", data := .seq #[x, y] }) z TI TO .ellipsis := Heap.get?_push_of_some _ zzz
  refine wpAny_bind (wpAny_setField_rec z6 (by simp) fun h7 z7 s7 => ?_)
  replace z7 : IsZs h7 z TI TO (rawInt k2.objs.size) := z7
  refine wpAny_setField_rec z7 (by simp) fun h8 z8 s8 => ?_
  replace z8 : IsZs h8 z TI TO (rawInt k2.objs.size) := z8
  replace s7 : Heap.SameBut z (k2.push { cls := .type "tuple", data := .seq #[x, y] }) h7 := s7
  replace s8 : Heap.SameBut z h7 h8 := s8
  have up : ∀ c o, c ≠ z → k2.get? c = some o → h8.get? c = some o := fun c o q e => s8.extBut _ _ q (s7.extBut _ _ q (Heap.get?_push_of_some _ e))
  have T8 : IsTupOf2 h8 k2.objs.size x y := s8.extBut _ _ (Nat.ne_of_gt zlt) (s7.extBut _ _ (Nat.ne_of_gt zlt) (Heap.get?_push_size _ rfl))
  have n8 : h8.objs.size = k2.objs.size + 1 := by rw [s8.1, s7.1, Heap.size_push]
  rw [zsz] at z8 T8 n8
  refine wpAny_pure ⟨_, rfl, ?_⟩
  show Q (.ref k2.objs.size) ⟨h8, gl, dd, u2, st⟩
  rw [zsz]
  exact k x y h8 u2 hx hy z8 (up _ _ S.TOz eT2) (D1.frame _ _ _ jj1 fun b hb o e => up b o (fun q => S.zf1 (q ▸ hb)) e) (D2.frame _ _ _ jj2 fun b hb o e => up b o (fun q => S.zf2 (q ▸ hb)) e) T8 n8 fun c o q1 q2 q3 q4 e => up c o q1 (kkk c o q1 q2 q3 q4 e)
theorem zs_end {Q : PySem.Fin → Shared → Prop} (hh : A.handled = none) (S : ZipSep2 z TI TO i1 i2 fp1 fp2) (D1 : Draws prog w A i1 fp1 n1 P1 St1) (D2 : Draws prog w A i2 fp2 n2 P2 St2)
    (hz : IsZs s.heap z TI TO .none) (hI : IsTupOf2 s.heap TI (.ref i1) (.ref i2)) (hO : IsTupOf2 s.heap TO b1 b2) (t1 : St1 n1 s.heap) (t2 : St2 n2 s.heap)
    (k : ∀ h' e, (∀ c o, c ≠ z → c ≠ TO → c ≠ i1 → c ≠ i2 → s.heap.get? c = some o → h'.get? c = some o) → (∃ o, h'.get? e = some o ∧ o.cls = .type "StopIteration") → E (.ref e) { s with heap := h' }) :
    wpAny (model prog w) A (Builtin.«zip.__next__» ⟨[.ref z], []⟩) Q E s := by
  obtain ⟨h0, gl, dd, u0, st⟩ := s
  show wpAny _ _ (field (.ref z) 2 >>= _) _ _ _
  refine wpAny_bind (wpAny_field hz rfl (x := .bool true) rfl ?_)
  show wpAny _ _ (field (.ref z) 3 >>= _) _ _ _
  refine wpAny_bind (wpAny_field (x := .ref TI) hz rfl rfl ?_)
  refine wpAny_bind (wpAny_seqItems hI rfl ?_)
  show wpAny _ _ (Builtin.SmallTypes.ownedTupleIsFree (.ref z) >>= _) _ _ _
  refine wpAny_bind ?_
  unfold Builtin.SmallTypes.ownedTupleIsFree
  refine wpAny_bind (wpAny_field (x := .none) hz rfl rfl (wpAny_pure ?_))
  simp only [if_true]
  refine wpAny_bind (wpAny_rule ?_)
  refine wpAny_bind (wpAny_field (x := .ref TO) hz rfl rfl ?_)
  refine wpAny_bind (wpAny_setField_rec hz (by simp) fun k0 ez0 es0 => ?_)
  replace ez0 : IsZs k0 z TI TO .ellipsis := ez0
  replace es0 : Heap.SameBut z h0 k0 := es0
  refine wpAny_bind ?_
  simp only [List.zipIdx_cons, List.zipIdx_nil, List.forIn_cons, List.forIn_nil]
  refine wpAny_bind (wpAny_bind (wpAny_onRaise ?_))
  show wpAny (model prog w) A (Builtin.SmallTypes.nextOrEnd (.ref i1)) _ _ ⟨k0, gl, dd, u0, st⟩
  refine noe_end D1 (D1.over t1 es0 S.zf1) fun p1 sb1 => ?_
  replace sb1 : Heap.ExtBut i1 k0 p1 := sb1
  have z1 : IsZs p1 z TI TO .ellipsis := sb1 _ _ S.zi1 ez0
  show wpAny (model prog w) A (setField (.ref z) 0 .none >>= _) _ _ _
  refine wpAny_bind (wpAny_setField_rec z1 (by simp) fun k1 ez1 es1 => ?_)
  replace ez1 : IsZs k1 z TI TO .none := ez1
  replace es1 : Heap.SameBut z p1 k1 := es1
  refine wpAny_bind ?_
  show wpAny (model prog w) A (forIn (([Value.ref i1, Value.ref i2].drop 1).zipIdx 1) PUnit.unit _ >>= _) _ _ _
  simp only [List.drop_succ_cons, List.drop_zero, List.zipIdx_cons, List.zipIdx_nil, List.forIn_cons, List.forIn_nil]
  have s2 : St2 n2 k1 := D2.frame _ _ _ t2 fun b hb o e => es1.extBut _ _ (fun q => S.zf2 (q ▸ hb)) (sb1 _ _ (fun q => S.sep1_2 (q ▸ hb)) (es0.extBut _ _ (fun q => S.zf2 (q ▸ hb)) e))
  refine wpAny_bind (wpAny_bind ?_)
  refine wpAny_bind (noe_end (s := ⟨k1, gl, dd, u0, st⟩) D2 s2 fun p2 sb2 => ?_)
  replace sb2 : Heap.ExtBut i2 k1 p2 := sb2
  refine wpAny_pure ?_
  refine wpAny_pure ?_
  refine wpAny_bind (wpAny_rule ?_)
  unfold Builtin.SmallTypes.stopIteration
  refine DVw.raise_stop hh fun h' e oe keep he hc => ?_
  exact k h' e (fun c o q1 q2 q3 q4 x => keep _ _ (sb2 _ _ q4 (es1.extBut _ _ q1 (sb1 _ _ q3 (es0.extBut _ _ q1 x))))) ⟨oe, he, hc⟩
end
section
variable {prog : Program} {w : World} {A : Around} {E : Value → Shared → Prop} {s : Shared} {z TI TO i1 i2 : Addr} {fp1 fp2 : List Addr} {n1 n2 i : Nat} {P1 P2 : Nat → Value → Prop} {St1 St2 : Nat → Heap → Prop} {b1 b2 : Value}
theorem pyNext_zs_item {Q : Option Value → Shared → Prop} (S : ZipSep2 z TI TO i1 i2 fp1 fp2) (D1 : Draws prog w A.in1 i1 fp1 n1 P1 St1) (D2 : Draws prog w A.in1 i2 fp2 n2 P2 St2)
    (hz : IsZs s.heap z TI TO .none) (hI : IsTupOf2 s.heap TI (.ref i1) (.ref i2)) (hO : IsTupOf2 s.heap TO b1 b2) (t1 : St1 i s.heap) (t2 : St2 i s.heap) (l1 : i < n1) (l2 : i < n2)
    (k : ∀ x y h' tk, P1 i x → P2 i y → IsZs h' z TI TO (rawInt s.heap.objs.size) → IsTupOf2 h' TO x y → St1 (i + 1) h' → St2 (i + 1) h' → IsTupOf2 h' s.heap.objs.size x y → h'.objs.size = s.heap.objs.size + 1 →
      (∀ c o, c ≠ z → c ≠ TO → c ≠ i1 → c ≠ i2 → s.heap.get? c = some o → h'.get? c = some o) → Q (some (.ref s.heap.objs.size)) { s with heap := h', toks := tk }) : wpAny (model prog w) A (pyNext (.ref z)) Q E s := by
  have ty : s.TypeIs (.ref z) "zip" := ⟨_, hz, rfl⟩
  unfold pyNext
  refine wpAny_bind (wpAny_attempt (wpAny_callSpecial?_slot (name := Str.ofString "__next__") ty F.slot_zip_next (wpAny_call_entry F.slot_zip_next ty F.entry_zip_next ?_ (F.args_zip_next_1 _))))
  exact zs_item S D1 D2 hz hI hO t1 t2 l1 l2 fun x y h' tk a1 a2 a3 a4 a5 a6 a7 a8 a9 => wpAny_pure (k x y h' tk a1 a2 a3 a4 a5 a6 a7 a8 a9)
theorem pyNext_zs_end {Q : Option Value → Shared → Prop} (hh : A.in1.handled = none) (S : ZipSep2 z TI TO i1 i2 fp1 fp2) (D1 : Draws prog w A.in1 i1 fp1 n1 P1 St1) (D2 : Draws prog w A.in1 i2 fp2 n2 P2 St2)
    (hz : IsZs s.heap z TI TO .none) (hI : IsTupOf2 s.heap TI (.ref i1) (.ref i2)) (hO : IsTupOf2 s.heap TO b1 b2) (t1 : St1 n1 s.heap) (t2 : St2 n2 s.heap)
    (k : ∀ h', (∀ c o, c ≠ z → c ≠ TO → c ≠ i1 → c ≠ i2 → s.heap.get? c = some o → h'.get? c = some o) → Q none { s with heap := h' }) : wpAny (model prog w) A (pyNext (.ref z)) Q E s := by
  have ty : s.TypeIs (.ref z) "zip" := ⟨_, hz, rfl⟩
  unfold pyNext
  refine wpAny_bind (wpAny_attempt (wpAny_callSpecial?_slot (name := Str.ofString "__next__") ty F.slot_zip_next (wpAny_call_entry F.slot_zip_next ty F.entry_zip_next (zs_end hh S D1 D2 hz hI hO t1 t2 fun h' e hk he => ?_) (F.args_zip_next_1 _))))
  obtain ⟨o, ho, hc⟩ := he
  exact wpAny_bind (wpAny_isInstance (T := "StopIteration") (b := true) ⟨o, ho, hc⟩ isSubtype_stop (wpAny_pure (k _ hk)))
theorem letGo_zs {elts : List Expr} {kk : Nat} {pos : Pos} {T : Addr} {Q : Unit → Shared → Prop} (hz : IsZs s.heap z TI TO (rawInt T))
    (hQ : ∀ h', IsZs h' z TI TO .none → Heap.SameBut z s.heap h' → Q () { s with heap := h' }) : wpAny (model prog w) A (letOwnedTupleGo (.Tuple elts kk pos) (.ref z) (.ref T)) Q E s := by
  unfold letOwnedTupleGo
  refine wpAny_bind (wpAny_load hz ?_)
  have c : (["enumerate", "zip", "dict_itemiterator", "dict_reverseitemiterator", "odict_iterator", "itertools.zip_longest", "itertools.pairwise"].contains "zip" && ((#[rawInt T, .bool false, .bool true, .ref TI, .ref TO] : Array Value)[0]? == some (rawInt T))) = true := by simp
  show wpAny _ _ (if _ = true then _ else _) Q E s
  rw [if_pos c]
  exact wpAny_bind (wpAny_rule (wpAny_setField_rec hz (by simp) fun h' e1 e2 => hQ h' e1 e2))
theorem pyIter_zs {f0 : Value} {Q : Value → Shared → Prop} (hz : IsZs s.heap z TI TO f0) (h : Q (.ref z) s) : wpAny (model prog w) A (pyIter (.ref z)) Q E s := by
  have ty : s.TypeIs (.ref z) "zip" := ⟨_, hz, rfl⟩
  refine wpAny_pyIter_slot ty F.slot_zip_iter (wpAny_call_entry F.slot_zip_iter ty F.entry_zip_iter ?_ (F.args_zip_iter_1 _))
  show wpAny (model prog w) _ (ret (.ref z)) _ _ s
  exact wpAny_pure ⟨_, rfl, _, _, ty, F.slot_zip_next.lookup, h⟩
end
theorem typeCall_zs (a b c : Value) : checkTypeCall "zip" ⟨[a, b], [(Str.ofString "strict", c)]⟩ = pure () := by kernel_rfl
theorem newCall_zs (a b c : Value) : checkBuiltinCall "zip.__new__" ⟨[.type "zip", a, b], [(Str.ofString "strict", c)]⟩ = pure () := by kernel_rfl
theorem args_zs (obj a b c : Value) : argsOk "object.__init__" ⟨[obj, a, b], [(Str.ofString "strict", c)]⟩ := by unfold argsOk; kernel_rfl
/-- the heap with its five new cells -/
abbrev zs3 (h : Heap) (o1 o2 : Obj) : Heap := ((h.push o1).push o2).push { cls := .type "tuple", data := .seq #[.ref h.objs.size, .ref (h.push o1).objs.size] }
abbrev zs4 (h : Heap) (o1 o2 : Obj) : Heap := (zs3 h o1 o2).push { cls := .type "tuple", data := .seq #[.none, .none] }
abbrev zs5 (h : Heap) (o1 o2 : Obj) : Heap := (zs4 h o1 o2).push { cls := .type "zip", data := .fields #[.none, .bool false, .bool true, .ref ((h.push o1).push o2).objs.size, .ref (zs3 h o1 o2).objs.size] }
set_option maxHeartbeats 1000000 in
theorem meets_zs {v1 v2 : Value} {o1 o2 : Obj} {H1 H2 : Heap → Prop} (B1 : Begins v1 o1 H1) (B2 : Begins v2 o2 H2) :
    Meets (Builtin.«zip.__new__» ⟨[.type "zip", v1, v2], [(Str.ofString "strict", .bool true)]⟩) (fun _ R s => (H1 s.heap ∧ H2 s.heap) ∧ R (.ok (.ret (.ref (zs4 s.heap o1 o2).objs.size))) { s with heap := zs5 s.heap o1 o2 }) :=
  .of_wp fun prog w A R s h => by
    obtain ⟨h0, gl, dd, tk, st⟩ := s
    obtain ⟨⟨q1, q2⟩, q⟩ := h
    have hsub := sub_zip
    have w1 : ∀ {A' : Around} {E : Value → Shared → Prop} {Q : Value → Shared → Prop}, Q (.ref h0.objs.size) ⟨(h0.push o1), gl, dd, tk, st⟩ → wpAny (model prog w) A' (pyIter v1) Q E ⟨h0, gl, dd, tk, st⟩ :=
      fun k => B1.iter prog w _ _ ⟨h0, gl, dd, tk, st⟩ _ (B1.keeps _ _ q1 fun b o' e => e) k
    have w2 : ∀ {A' : Around} {E : Value → Shared → Prop} {Q : Value → Shared → Prop}, Q (.ref (h0.push o1).objs.size) ⟨((h0.push o1).push o2), gl, dd, tk, st⟩ → wpAny (model prog w) A' (pyIter v2) Q E ⟨(h0.push o1), gl, dd, tk, st⟩ :=
      fun k => B2.iter prog w _ _ ⟨(h0.push o1), gl, dd, tk, st⟩ _ (B2.keeps _ _ q2 fun b o' e => (Heap.get?_push_of_some _ e)) k
    have e1 : (Str.ofString "strict" == ("strict" : Str)) = true := by decide +kernel
    have e2 : (Str.ofString "strict" != ("strict" : Str)) = false := by decide +kernel
    wp_walk using w1, w2
    exact ⟨_, rfl, q⟩
section
variable {prog : Program} {w : World} {A : Around} {E : Value → Shared → Prop} {s : Shared}
theorem zs_begins {v1 v2 : Value} {o1 o2 : Obj} {H1 H2 : Heap → Prop} {Q : Value → Shared → Prop} (B1 : Begins v1 o1 H1) (B2 : Begins v2 o2 H2) (h1 : H1 s.heap) (h2 : H2 s.heap)
    (h : ∀ h', IsZs h' (s.heap.objs.size + 4) (s.heap.objs.size + 2) (s.heap.objs.size + 3) .none → IsTupOf2 h' (s.heap.objs.size + 2) (.ref s.heap.objs.size) (.ref (s.heap.objs.size + 1)) →
      IsTupOf2 h' (s.heap.objs.size + 3) .none .none → h'.get? s.heap.objs.size = some o1 → h'.get? (s.heap.objs.size + 1) = some o2 → h'.objs.size = s.heap.objs.size + 5 →
      (∀ c o, s.heap.get? c = some o → h'.get? c = some o) → Q (.ref (s.heap.objs.size + 4)) { s with heap := h' }) : wpAny (model prog w) A (call (.type "zip") [v1, v2] [(Str.ofString "strict", .bool true)]) Q E s := by
  refine callType_newKw F.called_zip (by decide) (typeCall_zs _ _ _) (newCall_zs _ _ _) (fun obj => args_zs obj _ _ _) F.entry_zip_new (meets_zs B1 B2) ⟨⟨h1, h2⟩, ?_⟩
  have m1 : (s.heap.push o1).objs.size = s.heap.objs.size + 1 := by rw [Heap.size_push]
  have m2 : ((s.heap.push o1).push o2).objs.size = s.heap.objs.size + 2 := by rw [Heap.size_push, m1]
  have m3 : (zs3 s.heap o1 o2).objs.size = s.heap.objs.size + 3 := by rw [Heap.size_push, m2]
  have m4 : (zs4 s.heap o1 o2).objs.size = s.heap.objs.size + 4 := by rw [Heap.size_push, m3]
  have m5 : (zs5 s.heap o1 o2).objs.size = s.heap.objs.size + 5 := by rw [Heap.size_push, m4]
  have c5 : (zs5 s.heap o1 o2).get? (zs4 s.heap o1 o2).objs.size = some _ := Heap.get?_push_size _ rfl
  have c4 : (zs5 s.heap o1 o2).get? (zs3 s.heap o1 o2).objs.size = some _ := Heap.get?_push_of_some _ (Heap.get?_push_size _ rfl)
  have c3 : (zs5 s.heap o1 o2).get? ((s.heap.push o1).push o2).objs.size = some _ := Heap.get?_push_of_some _ (Heap.get?_push_of_some _ (Heap.get?_push_size _ rfl))
  have c1 : (zs5 s.heap o1 o2).get? s.heap.objs.size = some o1 := Heap.get?_push_of_some _ (Heap.get?_push_of_some _ (Heap.get?_push_of_some _ (Heap.get?_push_of_some _ (Heap.get?_push_size _ B1.free))))
  have c2 : (zs5 s.heap o1 o2).get? (s.heap.push o1).objs.size = some o2 := Heap.get?_push_of_some _ (Heap.get?_push_of_some _ (Heap.get?_push_of_some _ (Heap.get?_push_size _ B2.free)))
  rw [m4, m3, m2] at c5
  rw [m3] at c4
  rw [m2, m1] at c3
  rw [m1] at c2
  show _ ∧ _
  rw [m4]
  exact ⟨⟨_, c5, rfl⟩, h _ c5 c3 c4 c1 c2 m5 fun c o x => Heap.get?_push_of_some _ (Heap.get?_push_of_some _ (Heap.get?_push_of_some _ (Heap.get?_push_of_some _ (Heap.get?_push_of_some _ x))))⟩
end
def Js (t1 t2 : Bool) (a b : Addr) : It :=
  ⟨fun i H => ∃ xs ys, H a = some (sqO t1 xs) ∧ H b = some (sqO t2 ys) ∧ i < xs.length ∧ i < ys.length,
   fun i H v H' => ∃ T' x y, v = .ref T' ∧ H T' = none ∧ H' = upd H T' (.tup [x, y]) ∧ (∀ xs, H a = some (sqO t1 xs) → xs[i]? = some x) ∧ ∀ ys, H b = some (sqO t2 ys) → ys[i]? = some y,
   fun i H => ∃ xs ys, H a = some (sqO t1 xs) ∧ H b = some (sqO t2 ys) ∧ i = xs.length ∧ i = ys.length⟩
theorem turn_zs {P : Program} {w : World} {K : PySem.W.Frag} {elts : List Expr} {kk : Nat} {tpos : Pos} (t1 t2 : Bool) (a b z TI TO i1 i2 : Addr) (Z : Zp z TI TO i1 i2) :
    Turn P w K (.Tuple elts kk tpos) (Js t1 t2 a b) [z, TI, TO, i1, i2] z (fun i h => IsZs h z TI TO .none ∧ IsTupOf2 h TI (.ref i1) (.ref i2) ∧ (∃ x y, IsTupOf2 h TO x y) ∧ itAt t1 h i1 a i ∧ itAt t2 h i2 b i) where
  mem := by simp
  obj := fun i h st c hc => by
    obtain ⟨hz, hTI, ⟨x, y, hTO⟩, q1, q2⟩ := st
    have e' : c = z ∨ c = TI ∨ c = TO ∨ c = i1 ∨ c = i2 := by simpa using hc
    rcases e' with q | q | q | q | q
    · rw [q]; exact ⟨_, hz, fun v q => nomatch q⟩
    · rw [q]; exact ⟨_, hTI, fun v q => nomatch q⟩
    · rw [q]; exact ⟨_, hTO, fun v q => nomatch q⟩
    · rw [q]; exact q1.obj
    · rw [q]; exact q2.obj
  keep := fun i h h' st k => by
    obtain ⟨hz, hTI, ⟨x, y, hTO⟩, q1, q2⟩ := st
    exact ⟨k z (by simp) _ hz, k TI (by simp) _ hTI, ⟨x, y, k TO (by simp) _ hTO⟩, q1.at_ fun o q => k i1 (by simp) o q, q2.at_ fun o q => k i2 (by simp) o q⟩
  item := by
    intro X hP hw hK hc i pins s σ H E I hf st hg
    subst hP hw hK
    obtain ⟨hz, hTI, ⟨x0, y0, hTO⟩, q1, q2⟩ := st
    obtain ⟨xs, ys, ha, hb, hx, hy⟩ := hg
    obtain ⟨its, rv, p⟩ := seq_of I ha
    obtain ⟨its2, rv2, p2⟩ := seq_of I hb
    have nz := (hf z (by simp)).1
    have nO := (hf TO (by simp)).1
    have n1 := (hf i1 (by simp)).1
    have n2 := (hf i2 (by simp)).1
    have ha' : H a ≠ none := by rw [ha]; exact fun q => nomatch q
    have hb' : H b ≠ none := by rw [hb]; exact fun q => nomatch q
    have S := Z.sep ha' hb' nz nO n1 n2
    have hai : a ≠ i1 := fun e => ha' (e ▸ n1)
    have hbi : b ≠ i2 := fun e => hb' (e ▸ n2)
    have hzl : z < s.heap.objs.size := Heap.lt_size hz
    have sz1 : i < its.toArray.size := by rw [List.size_toArray, ← rv.length]; exact hx
    have sz2 : i < its2.toArray.size := by rw [List.size_toArray, ← rv2.length]; exact hy
    refine pyNext_zs_item S (drw (A := X.A.in1) (I.ok.hd hc) t1 i1 a hai its.toArray) (drw (A := X.A.in1) (I.ok.hd hc) t2 i2 b hbi its2.toArray) hz hTI hTO ⟨q1, p⟩ ⟨q2, p2⟩ sz1 sz2 fun u u2 h' tk e1 e2 z' TO' d1 d2 hT hsz hk => ?_
    obtain ⟨x, hxv⟩ : ∃ x, xs[i]? = some x := ⟨_, List.getElem?_eq_getElem hx⟩
    obtain ⟨y, hyv⟩ : ∃ y, ys[i]? = some y := ⟨_, List.getElem?_eq_getElem hy⟩
    obtain ⟨u', hu', ru⟩ := rv.get hxv
    obtain ⟨u2', hu2', ru2⟩ := rv2.get hyv
    have eu : u = u' := by
      have q : its.toArray[i]? = some u := e1
      rw [List.getElem?_toArray] at q
      exact Option.some.inj (q.symm.trans hu')
    have eu2 : u2 = u2' := by
      have q : its2.toArray[i]? = some u2 := e2
      rw [List.getElem?_toArray] at q
      exact Option.some.inj (q.symm.trans hu2')
    subst eu
    subst eu2
    refine ⟨_, rfl, letGo_zs (s := { s with heap := h', toks := tk }) z' fun h'' z'' sb => ?_⟩
    have hT2 : h''.get? s.heap.objs.size = some { cls := .type "tuple", data := .seq #[u, u2] } := (sb.2 _ (Nat.ne_of_gt hzl)).trans hT
    have new : ObjOk X.prog X.w (upd H s.heap.objs.size (.tup [x, y])) h'' s.heap.objs.size (.tup [x, y]) :=
      ⟨by show 2 ≤ sizeLine; decide, [u, u2], .cons ru (.cons ru2 .nil), ⟨_, hT2, rfl, _, rfl⟩⟩
    have I1 : L2.Inv X pins σ (upd H s.heap.objs.size (.tup [x, y])) { s with heap := h'', toks := tk } :=
      I.turnedNew (t' := tk) (ch := [z, TI, TO, i1, i2]) (fun c o hb q => (sb.2 c (fun q' => hb (by simp [q']))).trans (hk c o (fun q' => hb (by simp [q'])) (fun q' => hb (by simp [q'])) (fun q' => hb (by simp [q'])) (fun q' => hb (by simp [q'])) q)) hf (Nat.le_refl _) new
    refine ⟨.ref s.heap.objs.size, _, I1, rfl, ⟨_, x, y, rfl, I.hok.fresh (Nat.le_refl _), rfl, fun l hl => ?_, fun l hl => ?_⟩, ⟨z'', ?_, ⟨u, u2, ?_⟩, ?_, ?_⟩, fun c hcm => ?_⟩
    · rw [sqO_inj (Option.some.inj (hl.symm.trans ha))]; exact hxv
    · rw [sqO_inj (Option.some.inj (hl.symm.trans hb))]; exact hyv
    · exact (sb.2 _ Z.h1).trans (hk _ _ Z.h1 Z.h3 Z.h4 Z.h5 hTI)
    · exact (sb.2 _ Z.h2).trans TO'
    · exact d1.1.at_ fun o q => (sb.2 _ (Ne.symm Z.h6)).trans q
    · exact d2.1.at_ fun o q => (sb.2 _ (Ne.symm Z.h7)).trans q
    · have hlt : c < s.heap.objs.size := by
        have e' : c = z ∨ c = TI ∨ c = TO ∨ c = i1 ∨ c = i2 := by simpa using hcm
        rcases e' with q | q | q | q | q
        · rw [q]; exact hzl
        · rw [q]; exact Heap.lt_size hTI
        · rw [q]; exact Heap.lt_size hTO
        · rw [q]; obtain ⟨_, e1, _⟩ := q1.obj; exact Heap.lt_size e1
        · rw [q]; obtain ⟨_, e2, _⟩ := q2.obj; exact Heap.lt_size e2
      rw [upd_ne (Nat.ne_of_lt hlt)]
      exact (hf c hcm).1
  done := by
    intro X hP hw hK hc i pins s σ H E I hf st hg
    subst hP hw hK
    obtain ⟨hz, hTI, ⟨x0, y0, hTO⟩, q1, q2⟩ := st
    obtain ⟨xs, ys, ha, hb, hg⟩ := hg
    obtain ⟨its, rv, p⟩ := seq_of I ha
    obtain ⟨its2, rv2, p2⟩ := seq_of I hb
    have nz := (hf z (by simp)).1
    have nO := (hf TO (by simp)).1
    have n1 := (hf i1 (by simp)).1
    have n2 := (hf i2 (by simp)).1
    have ha' : H a ≠ none := by rw [ha]; exact fun q => nomatch q
    have hb' : H b ≠ none := by rw [hb]; exact fun q => nomatch q
    have S := Z.sep ha' hb' nz nO n1 n2
    have hai : a ≠ i1 := fun e => ha' (e ▸ n1)
    have hbi : b ≠ i2 := fun e => hb' (e ▸ n2)
    have l1 : its.toArray.size = xs.length := by rw [List.size_toArray, ← rv.length]
    have l2 : its2.toArray.size = ys.length := by rw [List.size_toArray, ← rv2.length]
    obtain ⟨hx, hy⟩ := hg
    have q1' : itAt t1 s.heap i1 a its.toArray.size := by rw [l1, ← hx]; exact q1
    have q2' : itAt t2 s.heap i2 b its2.toArray.size := by rw [l2, ← hy]; exact q2
    exact pyNext_zs_end (I.ok.hd hc) S (drw (A := X.A.in1) (I.ok.hd hc) t1 i1 a hai its.toArray) (drw (A := X.A.in1) (I.ok.hd hc) t2 i2 b hbi its2.toArray) hz hTI hTO ⟨q1', p⟩ ⟨q2', p2⟩ fun h' hk =>
      ⟨rfl, I.turnedL (t' := s.toks) (ch := [z, TI, TO, i1, i2]) (fun c o hb q => hk c o (fun q' => hb (by simp [q'])) (fun q' => hb (by simp [q'])) (fun q' => hb (by simp [q'])) (fun q' => hb (by simp [q'])) q) hf⟩
  self := fun A i s Q E st h => pyIter_zs st.1 h
def iZs (ta : TA) : TI := fun σ H R => ta σ H fun vs H1 => ∃ a b xs ys t1 t2, vs = [.ref a, .ref b] ∧ H1 a = some (sqO t1 xs) ∧ H1 b = some (sqO t2 ys) ∧ R (Js t1 t2 a b) H1
theorem callW_tkw {M : Model} {A : Around} {E : Value → Shared → Prop} {s : Shared} {pos : Pos} {T' : String} {args : List (Bool × Sem Value)} {kws : List (Option Str × Sem Value)} {Q : Value → Shared → Prop} (h1 : args.any (·.1) = false) (h2 : kws.any (·.1.isNone) = false)
    (h : wpAny M A (evalArgs (.type T') true args kws) (fun a s1 => wpAny M A (call (.type T') a.pos a.kw) Q E s1) E s) : wpAny M A (callWith pos (.type T') [] args kws) Q E s := by
  unfold callWith
  refine wpAny_bind (wpAny_holding (wpAny_mono h (fun a s1 k => wpAny_bind (wpAny_standAt ?_)) fun _ _ x => x))
  simp only [h1, h2, Bool.or_false]
  refine wpAny_bind (wpAny_pure ?_)
  exact wpAny_bind (wpAny_mono k (fun r s2 hr => wpAny_bind (wpAny_holding (wpAny_point (wpAny_pure hr)))) fun _ _ x => x)
theorem pi_zs {X : Cx} {e e2 : Expr} {ta : TA} {p pos tpos kp cp : Pos} {cn : Nat} {elts : List Expr} {kk : Nat} (hg : Gl X "zip") (hm : X.mg "zip" = none) (ha : PA X [e, e2] ta)
    (hs : starEach [e, e2] X.env = (false, eval e X.env) :: starEach [e2] X.env := by rfl) (hpl : (backTo pos (starEach [e, e2] X.env)).any (·.1) = false := by rfl) :
    PI X (.Tuple elts kk tpos) (.Call (.Name "zip" p) [e, e2] [⟨some "strict", .Constant (.bool true) cn cp, kp⟩] pos) (iZs ta) := by
  refine ⟨fun pins s σ H R I h => ?_⟩
  refine wpAny_Call_Name_kw (ld_blt I hg hm bt_zip (callW_tkw hpl rfl (evalArgs_kw2 (by rfl) (thn (ha.run pos pins s σ H _ I h) fun us s1 ⟨vs, H1, I1, r1, q1⟩ => ?_) hs)))
  refine kws_cons (wpAny_pure (kws_nil ?_))
  obtain ⟨a, b, xs, ys, t1, t2, rfl, hqa, hqb, q⟩ := q1
  obtain ⟨u1, u2, rfl, r, r'⟩ := Vals.two r1
  cases r
  cases r'
  obtain ⟨its, rv, p1⟩ := seq_of I1 hqa
  obtain ⟨its2, rv2, p2⟩ := seq_of I1 hqb
  refine zs_begins (bgn t1 a its.toArray) (bgn t2 b its2.toArray) p1 p2 fun h' hz hTI hTO g1 g2 hsz hk => pyIter_zs hz ?_
  have I2 : L2.Inv X pins σ H1 { s1 with heap := h' } := I1.kept (t' := s1.toks) hk
  have Z : Zp (s1.heap.objs.size + 4) (s1.heap.objs.size + 2) (s1.heap.objs.size + 3) s1.heap.objs.size (s1.heap.objs.size + 1) := by
    constructor
    · exact (by omega : (s1.heap.objs.size + 2 : Nat) ≠ s1.heap.objs.size + 4)
    · exact (by omega : (s1.heap.objs.size + 3 : Nat) ≠ s1.heap.objs.size + 4)
    · exact (by omega : (s1.heap.objs.size + 2 : Nat) ≠ s1.heap.objs.size + 3)
    · exact (by omega : (s1.heap.objs.size + 2 : Nat) ≠ s1.heap.objs.size)
    · exact (by omega : (s1.heap.objs.size + 2 : Nat) ≠ s1.heap.objs.size + 1)
    · exact (by omega : (s1.heap.objs.size + 4 : Nat) ≠ s1.heap.objs.size)
    · exact (by omega : (s1.heap.objs.size + 4 : Nat) ≠ s1.heap.objs.size + 1)
    · exact (by omega : (s1.heap.objs.size + 3 : Nat) ≠ s1.heap.objs.size)
    · exact (by omega : (s1.heap.objs.size + 3 : Nat) ≠ s1.heap.objs.size + 1)
    · exact (by omega : (s1.heap.objs.size : Nat) ≠ s1.heap.objs.size + 1)
  refine ⟨_, _, _, _, H1, rfl, I2, turn_zs t1 t2 a b _ _ _ _ _ Z, ⟨hz, hTI, ⟨_, _, hTO⟩, itAt.start g1, itAt.start g2⟩, fun c hc => ?_, q⟩
  have hle : s1.heap.objs.size ≤ c := by
    have e' : c = s1.heap.objs.size + 4 ∨ c = s1.heap.objs.size + 2 ∨ c = s1.heap.objs.size + 3 ∨ c = s1.heap.objs.size ∨ c = s1.heap.objs.size + 1 := by simpa using hc
    rcases e' with z | z | z | z | z <;> rw [z]
    · exact Nat.le_add_right _ _
    · exact Nat.le_add_right _ _
    · exact Nat.le_add_right _ _
    · exact Nat.le_refl _
    · exact Nat.le_add_right _ _
  exact I1.fpOk hle (I1.hok.fresh hle)
theorem wk_zs {z : Zr} {P O : Addr → Prop} {H : Hp} {ds es : List D} {L : (Addr → Prop) → (Addr → Prop) → Hp → Prop} {a b : Addr} {t1 t2 : Bool} {vs us : List V} (hl : ∀ P2 O2 H2, L P2 O2 H2 → Lat z P O H P2 O2 H2 ∧ H2 a = some (sqO t1 vs) ∧ H2 b = some (sqO t2 us))
    (r : Reps (sa z) (Vw z P O H) ds vs) (r' : Reps (sa z) (Vw z P O H) es us) (hn : ds.length = es.length) : Wk z L (Js t1 t2 a b) (zpD ds es) := fun P2 O2 H2 l => by
  obtain ⟨lt, ha, hb⟩ := hl P2 O2 H2 l
  refine ⟨fun i hi => ?_, fun i hi => ?_, fun i x H3 hi ⟨T', x1, y1, ev, hnT, eH, hx, hy⟩ => ?_⟩
  · rw [zpD_len] at hi
    exact ⟨vs, us, ha, hb, by rw [r.length]; omega, by rw [r'.length]; omega⟩
  · rw [zpD_len] at hi
    exact ⟨vs, us, ha, hb, by rw [r.length]; omega, by rw [r'.length]; omega⟩
  · obtain ⟨d, hd, rd⟩ := r.getV (hx vs ha)
    obtain ⟨e, he, re⟩ := r'.getV (hy us hb)
    obtain ⟨q1, q2, q3⟩ := pair_new (d := d) (e := e) lt.ws hnT (rd.mono lt.vw) (re.mono lt.vw)
    rw [eH, ev]
    exact ⟨q1, q2, _, zpD_get ds es i d e hd he, q3⟩
section
variable {X : Cx} {elts : List Expr} {kk cn : Nat} {tpos p pos kp cp : Pos} {e e2 : Expr} {g : Ev → T (List D)}
/-- both as long -/
def zsO : List D → T (List D)
  | [a, b] => match partsOf a, partsOf b with
    | some x, some y => tIf (Nat.beq x.length y.length) (.ok (zpD x y))
    | _, _ => .no
  | _ => .no
def fZs (g : Ev → T (List D)) : Ev → T (List D) := fun ρ => (g ρ).bind zsO
theorem le_fZs {a a' : Ev → T (List D)} (h1 : LE a a') : LE (fZs a) (fZs a') := fun ρ => T.le_bind (fun _ => T.le_refl _) (h1 ρ)
theorem zsO_w {ds : List D} {Q : List D → Prop} (w : WP (zsO ds) Q) : ∃ a b x y, ds = [a, b] ∧ partsOf a = some x ∧ partsOf b = some y ∧ x.length = y.length ∧ Q (zpD x y) := by
  unfold zsO at w
  split at w
  · rename_i a b
    split at w
    · rename_i x y h1 h2
      obtain ⟨hl, w⟩ := tIf_w w
      exact ⟨a, b, x, y, rfl, h1, h2, Nat.eq_of_beq_eq_true hl, w⟩
    · exact w.elim
  · exact w.elim
theorem bzips (hg : Gl X "zip") (hm : X.mg "zip" = none) (ha : PA X [e, e2] (tBs g)) (hs : starEach [e, e2] X.env = (false, eval e X.env) :: starEach [e2] X.env := by rfl) (hpl : (backTo pos (starEach [e, e2] X.env)).any (·.1) = false := by rfl) :
    PI X (.Tuple elts kk tpos) (.Call (.Name "zip" p) [e, e2] [⟨some "strict", .Constant (.bool true) cn cp, kp⟩] pos) (tIb (fZs g)) := PI.imp (pi_zs hg hm ha hs hpl) fun σ H R ⟨z, P, O, ρ, Rl, w⟩ => ⟨z, P, O, ρ, Rl, (WP.bind w).mono fun ds w2 vs H1 g1 s1 r1 => by
  obtain ⟨d1, d2, x, y, rfl, h1, h2, hn, k⟩ := zsO_w w2
  obtain ⟨v, u, ev, rv, ru⟩ := two_w (ds := []) r1
  obtain ⟨a, us, t1, ea, na, ha, ra⟩ := parts_sqB h1 rv
  obtain ⟨b, ws, t2, eb, nb, hb, rb⟩ := parts_sqB h2 ru
  exact ⟨a, b, us, ws, t1, t2, by rw [ev, ea, eb], ha, hb, k _ H1 g1 s1 (wk_zs (fun P2 O2 H2 l => ⟨l.lat, l.same a _ na ha, l.same b _ nb hb⟩) ra rb hn)⟩⟩
theorem izips (hg : Gl X "zip") (hm : X.mg "zip" = none) (ha : PA X [e, e2] (tDs g)) (hs : starEach [e, e2] X.env = (false, eval e X.env) :: starEach [e2] X.env := by rfl) (hpl : (backTo pos (starEach [e, e2] X.env)).any (·.1) = false := by rfl) :
    PI X (.Tuple elts kk tpos) (.Call (.Name "zip" p) [e, e2] [⟨some "strict", .Constant (.bool true) cn cp, kp⟩] pos) (tI (fZs g)) := PI.imp (pi_zs hg hm ha hs hpl) fun σ H R ⟨z, P, O, ρ, Rl, w⟩ => ⟨z, P, O, ρ, Rl, (WP.bind w).mono fun ds w2 vs H1 g1 s1 r1 => by
  obtain ⟨d1, d2, x, y, rfl, h1, h2, hn, k⟩ := zsO_w w2
  obtain ⟨v, u, ev, rv, ru⟩ := two_wD r1
  obtain ⟨a, us, t1, ea, va, ha, ra⟩ := parts_sq h1 rv
  obtain ⟨b, ws, t2, eb, vb, hb, rb⟩ := parts_sq h2 ru
  exact ⟨a, b, us, ws, t1, t2, by rw [ev, ea, eb], ha, hb, k _ H1 g1 s1 (wk_zs (fun P2 O2 H2 l => ⟨l, (l.same a _ va.1 va.2.2.1 ha).2, (l.same b _ vb.1 vb.2.2.1 hb).2⟩) ra rb hn)⟩⟩
end
end
end DL

set_option Elab.async false
set_option linter.all false
set_option maxRecDepth 100000
namespace DL
noncomputable section
open PySem PySem.Spec PyProof.Rows L2 PySem.AutoSeq1
/-! ### x.extend(t), t a tuple -/
def rExtT : V → List V → Hp → VK → Prop := fun x vs H Q => ∃ l b xs zs, x = .ref l ∧ vs = [.ref b] ∧ H l = some (.lst xs) ∧ H b = some (.tup zs) ∧ xs.length + zs.length ≤ sizeLine ∧ Q .non (upd H l (.lst (xs ++ zs)))
theorem ext_tup (l : Addr) (xs : Array Value) (n : Nat) (b : Addr) (dc : Option Addr) (sl : Array (Option Value)) (ys : Array Value) (m : Nat) (q0 : ¬(!xs.isEmpty && Builtin.List.listTooLong (xs.size + ys.size)) = true) (q1 : xs.size ≤ sizeLine) (q2 : xs.size + ys.size ≤ sizeLine + 1) :
    Meets (Builtin.«list.extend» ⟨[.ref l, .ref b], []⟩) (fun _ R s => s.heap.get? l = some { cls := .type "list", data := .seq xs n } ∧ s.heap.get? b = some ⟨.type "tuple", dc, .seq ys m, sl⟩ ∧ R (.ok (.ret .none)) { s with heap := s.heap.update l (Obj.mapSeq fun x => x ++ ys) }) :=
  .of_wp fun prog w A R s h => by
    obtain ⟨h0, gl, dd, tk, st⟩ := s
    obtain ⟨hl, hb, h⟩ := h
    have i1 := AutoSeq1.idx_int
    have i2 := AutoSeq1.sub_tuple_tuple
    have i3 := AutoSeq1.sub_list_list
    have i4 := AutoSeq1.sub_tuple_list
    have i5 := AutoSeq1.sub_list_tuple
    have sz : (xs ++ ys).size ≤ sizeLine + 1 := by rw [Array.size_append]; exact q2
    wp_walk using (wpAny_updateSeq hl rfl (hz := q1) (_hz' := sz)), wpAny_loadPart' hl, wpAny_loadPart' hb
    exact ⟨_, rfl, h⟩
theorem mt_extT {X : Cx} : MtM X "list.extend" rExtT := by
  intro pins s σ H x vs v us Q I rx rv h
  obtain ⟨l, b, xs, zs, rfl, rfl, hH, hB, hz, q⟩ := h
  cases rx
  obtain ⟨u, rfl, ru⟩ := rv.one
  cases ru
  obtain ⟨z, its, n, r, hl, e⟩ := I.lstM hH
  obtain ⟨its2, r2, ⟨⟨cl, dc, da, sl⟩, e2, c2, n2, d2⟩, z2⟩ := I.tuple (SqT.of hB)
  have c2 : cl = .type "tuple" := c2
  have d2 : da = .seq its2.toArray n2 := d2
  subst c2
  subst d2
  have hl2 := r2.length
  have fits : its.toArray.size + its2.toArray.size ≤ sizeLine := by rw [List.size_toArray, List.size_toArray]; omega
  have notLong : ¬ (!its.toArray.isEmpty && Builtin.List.listTooLong (its.toArray.size + its2.toArray.size)) = true := fun k => by
    rw [notLongL fits, Bool.and_false] at k
    cases k
  refine call_meets F.slot_list_extend ⟨_, e, rfl⟩ F.entry_list_extend (F.args_list_extend_2 _ _) (ext_tup l its.toArray n b dc sl its2.toArray n2 notLong (by rw [List.size_toArray]; omega) (by omega)) ⟨e, e2, ?_⟩
  exact ⟨.non, _, I.lset (its' := its ++ its2) hH e (by simp) (r.append r2) (by rw [List.length_append]; omega), rfl, q⟩
def mExtT : D → D → T D
  | .lst ds, .tup es => tIf (lenOk (ds.length + es.length)) (.ok (.lst (ds ++ es)))
  | _, _ => .no
theorem mExtT_w {d a : D} {Q : D → Prop} (w : WP (mExtT d a) Q) : ∃ ds es, d = .lst ds ∧ a = .tup es ∧ lenOk (ds.length + es.length) = true ∧ Q (.lst (ds ++ es)) := by
  unfold mExtT at w
  split at w
  · obtain ⟨h, k⟩ := tIf_w w
    exact ⟨_, _, rfl, rfl, h, k⟩
  · exact w.elim
theorem no_bind_ext {d : D} {Q : D → Prop} (hd : ∀ ds, d ≠ .lst ds) : ∀ {m : T D}, WP m (fun a => WP (mExtT d a) Q) → False
  | .ok a, w => by
    obtain ⟨ds, es, e, _⟩ := mExtT_w w
    exact hd ds e
  | .no, w => w
  | .pk n k, w => no_bind_ext hd (m := k 0) (w 0 (Int.le_refl 0) (.inr rfl))
section
variable {X : Cx} {e : Expr} {f : Ev → T D} {x : Str} {pos pos' apos cpos : Pos}
theorem sextT (i : Nat) (he : PE X e (tB f)) (hN : X.N[i]? = some x := by rfl) (hv : Vis X.env.scope x := by first | exact Or.inl rfl | exact Or.inr (Or.inl rfl) | exact Or.inr (Or.inr rfl)) (hd : (x == ("__debug__" : Str)) = false := by decide)
    (hcd : (x == ("__classdict__" : Str)) = false := by decide) (hbase : attributeBase (.Name x pos') "extend" X.env (eval (.Name x pos') X.env) = eval (.Name x pos') X.env := by rfl)
    (hfew : ((backTo cpos (starEach [e] X.env)).all (fun x => !x.1) && (backToKw cpos (keywordEach [] X.env)).all (fun x => x.1.isSome)
      && decide (([e] : List Expr).length + ([] : List Keyword).length + (if ([] : List Keyword).isEmpty then 0 else 1) < 30)) = true := by rfl)
    (hline : (apos.endLine == cpos.line) = true := by rfl) (hs : starEach [e] X.env = (false, eval e X.env) :: starEach [] X.env := by rfl) (hplain : (backTo cpos (starEach [] X.env)).any (·.1) = false := by rfl)
    (hsw : swapsWith (.Call (.Attribute (.Name x pos') "extend" apos) [e] [] cpos) none pos.line X.env = pure false := by rfl) :
    PS X (.Expr (.Call (.Attribute (.Name x pos') "extend" apos) [e] [] cpos) pos) (tS (fMut i mExtT f)) :=
  PS.imp (ps_expr (pe_bm PySem.F.plainAttrs_list PySem.F.slot_list_extend PySem.F.type_list_extend mt_extT (pe_var hN hv hd hcd) (pa_cons he pa_nil hs) hbase hfew hline hs hplain) hsw) fun D σ H ⟨z, P, O, ρ, R, w⟩ => by
    obtain ⟨d, e1, w⟩ := fMut_w w
    obtain ⟨p, hi, hy, op, t⟩ := own_at R e1
    by_cases hd : ∃ ds, d = .lst ds
    · obtain ⟨ds, rfl⟩ := hd
      obtain ⟨vs, hp, rr⟩ := t
      refine ⟨.ref p, hy, .inl ⟨rfl, vs, SqL.of hp⟩, z, P, O, ρ, R, w.mono fun a w2 v H1 g1 s1 r1 => ?_⟩
      obtain ⟨ds', es, e2, e3, hl, k⟩ := mExtT_w w2
      cases e2
      subst e3
      have R1 := R.grow g1 s1
      have hp1 := g1 p _ (R.own p op).2.1 hp
      have rr1 := rr.mono (Vw.grow g1)
      obtain ⟨q, us, ev, _, hq, rq⟩ := r1.tup
      subst ev
      refine ⟨p, q, vs, us, rfl, rfl, hp1, hq, by rw [rr.length, rq.length]; exact lenOk_le hl, ?_⟩
      exact k _ _ O ((SameV.of g1).trans (SameV.change op)) (R1.change hi hy op ⟨_, rfl, rr1.append rq⟩)
    · exact (no_bind_ext (fun ds e => hd ⟨ds, e⟩) w).elim
end
end
end DL

set_option Elab.async false
set_option linter.all false
set_option maxRecDepth 100000
namespace DL
noncomputable section
open PySem PySem.Spec PyProof.Rows L2
/-! ### plain readings: comprehensions over known lists -/
abbrev IL (l : List Int) : List D := l.map D.int
theorem mapC_yes {α : Type} {j : Nat} {e : Ev → T D} {ρ : Ev} {f g : α → D} : ∀ {l : List α}, (∀ a ∈ l, e (ρ.put j (.sh (f a))) = .ok (g a)) → mapC (.v j) fYes e ρ (l.map f) = .ok (l.map g)
  | [], _ => rfl
  | a :: r, h => by
    show ((e (ρ.put j (.sh (f a)))).bind fun y => (mapC (.v j) fYes e ρ (r.map f)).bind fun ys => T.ok (y :: ys)) = _
    rw [h a List.mem_cons_self, mapC_yes fun b hb => h b (List.mem_cons_of_mem _ hb)]; rfl
theorem mapC_if {α : Type} {j : Nat} {t : Ev → T Bool} {e : Ev → T D} {ρ : Ev} {f g : α → D} {c : α → Bool} : ∀ {l : List α}, (∀ a ∈ l, t (ρ.put j (.sh (f a))) = .ok (c a)) → (∀ a ∈ l, c a = true → e (ρ.put j (.sh (f a))) = .ok (g a)) → mapC (.v j) t e ρ (l.map f) = .ok ((l.filter c).map g)
  | [], _, _ => rfl
  | a :: r, h1, h2 => by
    show ((t (ρ.put j (.sh (f a)))).bind fun b => match b with
      | true => (e (ρ.put j (.sh (f a)))).bind fun y => (mapC (.v j) t e ρ (r.map f)).bind fun ys => T.ok (y :: ys)
      | false => mapC (.v j) t e ρ (r.map f)) = _
    rw [h1 a List.mem_cons_self, mapC_if (fun b hb => h1 b (List.mem_cons_of_mem _ hb)) fun b hb => h2 b (List.mem_cons_of_mem _ hb)]
    cases hc : c a
    · rw [List.filter_cons, hc]; rfl
    · rw [List.filter_cons, hc, h2 a List.mem_cons_self hc]; rfl
theorem bls_map {α : Type} (f : α → Bool) : ∀ l : List α, bls (l.map fun a => D.bl (f a)) = some (l.map f)
  | [] => rfl
  | a :: r => by
    show (bls (r.map fun a => D.bl (f a))).map (f a :: ·) = _
    rw [bls_map f r]; rfl
theorem intsD_IL : ∀ l : List Int, intsD (IL l) = some l
  | [] => rfl
  | a :: r => by
    have ih := intsD_IL r
    show (intsD (IL r)).map (a :: ·) = _
    rw [ih]; rfl
/-! a dict used as a set of ints -/
def kset (S : List Int) : List (Kd × D) := S.map fun s => (.k (.inl s), .bl true)
theorem hasD_kset (S : List Int) (t : Int) : hasD (kset S) (.k (.inl t)) = decide (t ∈ S) := by
  unfold hasD
  induction S with
  | nil => rfl
  | cons a r ih =>
    show (match ieq a t with | true => some (D.bl true) | false => lookD (kset r) (.k (.inl t))).isSome = _
    rw [ieq_eq]
    by_cases h : a = t
    · rw [decide_eq_true h, h]; simp
    · rw [decide_eq_false h]
      show (lookD (kset r) (.k (.inl t))).isSome = _
      rw [ih]
      have : (t ∈ a :: r) ↔ t ∈ r := by
        rw [List.mem_cons]
        exact ⟨fun q => q.elim (fun e => absurd e.symm h) id, .inr⟩
      rw [decide_eq_decide.mpr this]
theorem merge_kset : ∀ (L S : List Int), L.Nodup → (∀ x ∈ L, x ∉ S) → mergeD (kset S) (kset L) = kset (S ++ L)
  | [], S, _, _ => by rw [List.append_nil]; rfl
  | a :: r, S, hn, hd => by
    obtain ⟨h1, h2⟩ := List.nodup_cons.mp hn
    show mergeD (putD (kset S) (.k (.inl a)) (.bl true)) (kset r) = _
    have e : putD (kset S) (.k (.inl a)) (.bl true) = kset (S ++ [a]) := by
      unfold putD
      rw [hasD_kset, decide_eq_false (hd a List.mem_cons_self)]
      show kset S ++ [(.k (.inl a), D.bl true)] = _
      unfold kset
      rw [List.map_append]; rfl
    rw [e, merge_kset r (S ++ [a]) h2 fun x hx q => by
      rcases List.mem_append.mp q with q | q
      · exact hd x (List.mem_cons_of_mem _ hx) q
      · rw [List.mem_singleton] at q; subst q; exact h1 hx]
    rw [List.append_assoc]; rfl
theorem pairKs_kset : ∀ L : List Int, pairKs (L.map fun t => .tup [.int t, .bl true]) = some (kset L)
  | [] => rfl
  | a :: r => by
    show (match pairK (.tup [.int a, .bl true]), pairKs (r.map fun t => .tup [.int t, .bl true]) with
      | some p, some ps => some (p :: ps)
      | _, _ => none) = _
    rw [pairKs_kset r]; rfl

/-! ### is_telling -/
def tellB : Ev → T Res := (fSeq (fSetF 1 (fDisp [((fC (.int 0)), (fC (.bl true)))])) (fSeq (fFor (fParts (fV 0)) (.v 2) (fSeq (fSet 3 (fLc [4] (fKeys 1) (.v 4) fYes (fBin dAdd (fVb 4) (fVb 2)))) (fSeq (fIfS (fTru (fFn (on1 dAny) (fCons (fLc [4] (fParts (fVb 3)) (.v 4) fYes (fBin (dInN false) (fVb 4) (fVb 1))) fNil))) (fRet (fC (.bl false))) fNx) (fMut 1 mUpdate (fFn (on1 dDictP) (fCons (fLc [4] (fParts (fVb 3)) (.v 4) fYes (fTup (fCons (fV 4) (fCons (fC (.bl true)) fNil)))) fNil)))))) (fRet (fC (.bl true)))))
abbrev tellS : Ev → T Res := (fSeq (fSet 3 (fLc [4] (fKeys 1) (.v 4) fYes (fBin dAdd (fVb 4) (fVb 2)))) (fSeq (fIfS (fTru (fFn (on1 dAny) (fCons (fLc [4] (fParts (fVb 3)) (.v 4) fYes (fBin (dInN false) (fVb 4) (fVb 1))) fNil))) (fRet (fC (.bl false))) fNx) (fMut 1 mUpdate (fFn (on1 dDictP) (fCons (fLc [4] (fParts (fVb 3)) (.v 4) fYes (fTup (fCons (fV 4) (fCons (fC (.bl true)) fNil)))) fNil)))))
def memI (t : Int) : List Int → Bool
  | [] => false
  | a :: r => match ieq a t with
    | true => true
    | false => memI t r
theorem memI_eq (t : Int) : ∀ S : List Int, memI t S = decide (t ∈ S)
  | [] => rfl
  | a :: r => by
    unfold memI
    rw [ieq_eq, memI_eq t r]
    by_cases h : a = t
    · rw [decide_eq_true h, h]; simp
    · rw [decide_eq_false h]
      have : (t ∈ a :: r) ↔ t ∈ r := by
        rw [List.mem_cons]
        exact ⟨fun q => q.elim (fun e => absurd e.symm h) id, .inr⟩
      rw [decide_eq_decide.mpr this]
def anyI (S : List Int) : List Int → Bool
  | [] => false
  | t :: r => match memI t S with
    | true => true
    | false => anyI S r
theorem anyI_eq (S : List Int) : ∀ L : List Int, anyI S L = L.any fun t => decide (t ∈ S)
  | [] => rfl
  | t :: r => by
    unfold anyI
    rw [memI_eq, anyI_eq S r, List.any_cons]
    cases decide (t ∈ S) <;> rfl
def plusI (x : Int) : List Int → List Int
  | [] => []
  | a :: r => (a + x) :: plusI x r
theorem plusI_eq (x : Int) : ∀ S : List Int, plusI x S = S.map (· + x)
  | [] => rfl
  | a :: r => congrArg ((a + x) :: ·) (plusI_eq x r)
def tellGo : List Int → List Int → Bool
  | _, [] => true
  | S, x :: r => match anyI S (plusI x S) with
    | true => false
    | false => tellGo (S ++ plusI x S) r
theorem tell_step {A : D} {S : List Int} {x : Int} {s3 : Sl} (hm : s3.mine = false) (hz : 2 * S.length ≤ sizeLine) (hn : S.Nodup) :
    tellS [.sh A, .own (.dct false (kset S)), .sh (.int x), s3, .non] = match anyI S (plusI x S) with
      | true => .ok (.rt (.bl false))
      | false => .ok (.nx [.sh A, .own (.dct false (kset (S ++ plusI x S))), .sh (.int x), .sh (.lst (IL (plusI x S))), .non]) := by
  have lk : lenOk S.length = true := Nat.ble_eq_true_of_le (by omega)
  have e0 : lend [.sh A, .own (.dct false (kset S)), .sh (.int x), s3, .non] = [.sh A, .lent (.dct false (kset S)), .sh (.int x), s3, .non] := by cases s3 <;> first | rfl | cases hm
  have e1 : fLc [4] (fKeys 1) (.v 4) fYes (fBin dAdd (fVb 4) (fVb 2)) [.sh A, .own (.dct false (kset S)), .sh (.int x), s3, .non] = .ok (.lst (IL (plusI x S))) := by
    show tIf (lenOk ((kset S).map fun kv => keyD kv.1).length) ((mapC (.v 4) fYes (fBin dAdd (fVb 4) (fVb 2)) (wipeE (lend [.sh A, .own (.dct false (kset S)), .sh (.int x), s3, .non]) [4]) ((kset S).map fun kv => keyD kv.1)).bind fun ys => T.ok (D.lst ys)) = _
    have ek : (kset S).map (fun kv => keyD kv.1) = S.map D.int := by unfold kset; rw [List.map_map]; rfl
    rw [ek, List.length_map, lk, e0, mapC_yes (f := D.int) (g := fun s => .int (s + x)) fun a _ => rfl, plusI_eq]
    show T.ok (D.lst _) = T.ok (D.lst _)
    rw [IL, List.map_map]; rfl
  have hl : (plusI x S).length = S.length := by rw [plusI_eq, List.length_map]
  show ((fLc [4] (fKeys 1) (.v 4) fYes (fBin dAdd (fVb 4) (fVb 2)) _).bind _).bind _ = _
  rw [e1]
  show fSeq _ _ [.sh A, .own (.dct false (kset S)), .sh (.int x), .sh (.lst (IL (plusI x S))), .non] = _
  have e2 : fTru (fFn (on1 dAny) (fCons (fLc [4] (fParts (fVb 3)) (.v 4) fYes (fBin (dInN false) (fVb 4) (fVb 1))) fNil)) [.sh A, .own (.dct false (kset S)), .sh (.int x), .sh (.lst (IL (plusI x S))), .non] = .ok (anyI S (plusI x S)) := by
    have : fLc [4] (fParts (fVb 3)) (.v 4) fYes (fBin (dInN false) (fVb 4) (fVb 1)) [.sh A, .own (.dct false (kset S)), .sh (.int x), .sh (.lst (IL (plusI x S))), .non] = .ok (.lst ((plusI x S).map fun t => .bl (decide (t ∈ S)))) := by
      show tIf (lenOk (IL (plusI x S)).length) ((mapC (.v 4) fYes (fBin (dInN false) (fVb 4) (fVb 1)) _ ((plusI x S).map D.int)).bind fun ys => T.ok (D.lst ys)) = _
      rw [IL, List.length_map, hl, lk, mapC_yes (f := D.int) (g := fun t => .bl (decide (t ∈ S))) fun a _ => by
        show T.ok (D.bl (hasD (kset S) (.k (.inl a)))) = _
        rw [hasD_kset]]
      rfl
    show (((fLc [4] (fParts (fVb 3)) (.v 4) fYes (fBin (dInN false) (fVb 4) (fVb 1)) _).bind fun a => T.ok [a]).bind (on1 dAny)).bind truD = _
    rw [this]
    show (dAny (.lst ((plusI x S).map fun t => .bl (decide (t ∈ S))))).bind truD = _
    unfold dAny
    dsimp only
    rw [bls_map, anyI_eq]
    show T.ok (((plusI x S).map fun t => decide (t ∈ S)).any id) = _
    rw [List.any_map]; rfl
  show ((fTru _ _).bind _).bind _ = _
  rw [e2]
  cases ha : anyI S (plusI x S)
  · show fMut 1 mUpdate (fFn (on1 dDictP) (fCons (fLc [4] (fParts (fVb 3)) (.v 4) fYes (fTup (fCons (fV 4) (fCons (fC (.bl true)) fNil)))) fNil)) [.sh A, .own (.dct false (kset S)), .sh (.int x), .sh (.lst (IL (plusI x S))), .non] = T.ok (Res.nx [.sh A, .own (.dct false (kset (S ++ plusI x S))), .sh (.int x), .sh (.lst (IL (plusI x S))), .non])
    have e3 : fFn (on1 dDictP) (fCons (fLc [4] (fParts (fVb 3)) (.v 4) fYes (fTup (fCons (fV 4) (fCons (fC (.bl true)) fNil)))) fNil) [.sh A, .own (.dct false (kset S)), .sh (.int x), .sh (.lst (IL (plusI x S))), .non] = .ok (.dct false (kset (plusI x S))) := by
      have : fLc [4] (fParts (fVb 3)) (.v 4) fYes (fTup (fCons (fV 4) (fCons (fC (.bl true)) fNil))) [.sh A, .own (.dct false (kset S)), .sh (.int x), .sh (.lst (IL (plusI x S))), .non] = .ok (.lst ((plusI x S).map fun t => .tup [.int t, .bl true])) := by
        show tIf (lenOk (IL (plusI x S)).length) ((mapC (.v 4) fYes (fTup (fCons (fV 4) (fCons (fC (.bl true)) fNil))) _ ((plusI x S).map D.int)).bind fun ys => T.ok (D.lst ys)) = _
        rw [IL, List.length_map, hl, lk, mapC_yes (f := D.int) (g := fun t => .tup [.int t, .bl true]) fun a _ => rfl]
        rfl
      show ((fLc [4] (fParts (fVb 3)) (.v 4) fYes (fTup (fCons (fV 4) (fCons (fC (.bl true)) fNil))) _).bind fun a => T.ok [a]).bind (on1 dDictP) = _
      rw [this]
      show dDictP (.lst _) = _
      unfold dDictP
      dsimp only
      rw [pairKs_kset]
      show T.ok (D.dct false (mergeD [] (kset (plusI x S)))) = _
      have q := merge_kset (plusI x S) [] (by rw [plusI_eq]; exact List.Pairwise.map _ (fun a b h q => h (by omega)) hn) fun _ _ h => by cases h
      rw [show ([] : List (Kd × D)) = kset [] from rfl, q, List.nil_append]
    show (fFn (on1 dDictP) (fCons (fLc [4] (fParts (fVb 3)) (.v 4) fYes (fTup (fCons (fV 4) (fCons (fC (.bl true)) fNil)))) fNil) [.sh A, .own (.dct false (kset S)), .sh (.int x), .sh (.lst (IL (plusI x S))), .non]).bind (fun a => (mUpdate (.dct false (kset S)) a).bind fun d' => T.ok (Res.nx (Ev.put [.sh A, .own (.dct false (kset S)), .sh (.int x), .sh (.lst (IL (plusI x S))), .non] 1 (.own d')))) = _
    rw [e3]
    show (tIf (lenOk ((kset S).length + (kset (plusI x S)).length)) (T.ok (D.dct false (mergeD (kset S) (kset (plusI x S)))))).bind _ = _
    have lk2 : lenOk ((kset S).length + (kset (plusI x S)).length) = true := by
      unfold kset
      rw [List.length_map, List.length_map, hl]
      exact Nat.ble_eq_true_of_le (by omega)
    rw [lk2, merge_kset (plusI x S) S (by rw [plusI_eq]; exact List.Pairwise.map _ (fun a b h q => h (by omega)) hn) fun t ht q => by
      rw [anyI_eq] at ha
      exact Bool.false_ne_true (ha.symm.trans (List.any_eq_true.mpr ⟨t, ht, decide_eq_true q⟩))]
    rfl
  · rfl
theorem tell_nodup {S : List Int} {x : Int} (hn : S.Nodup) (ha : anyI S (plusI x S) = false) : (S ++ plusI x S).Nodup := by
  refine List.nodup_append.mpr ⟨hn, by rw [plusI_eq]; exact List.Pairwise.map _ (fun a b h q => h (by omega)) hn, fun a ha' b hb q => ?_⟩
  subst q
  rw [anyI_eq] at ha
  exact Bool.false_ne_true (ha.symm.trans (List.any_eq_true.mpr ⟨a, hb, decide_eq_true ha'⟩))
theorem tell_loop {A : D} : ∀ (L : List Int) (S : List Int) (s2 s3 : Sl), s3.mine = false → S.length * 2 ^ L.length ≤ sizeLine → S.Nodup →
    (foldB (.v 2) tellS (IL L) [.sh A, .own (.dct false (kset S)), s2, s3, .non]).bind (fun r => match r with | .nx ρ' => (fRet (fC (.bl true))) ρ' | .rt d => .ok (.rt d)) = .ok (.rt (.bl (tellGo S L)))
  | [], S, _, _, _, _, _ => rfl
  | x :: L, S, s2, s3, hm, hz, hn => by
    have hp : 1 ≤ 2 ^ L.length := Nat.one_le_two_pow
    have hz2 : 2 * S.length ≤ sizeLine := by
      have : S.length * 2 * 1 ≤ S.length * 2 * 2 ^ L.length := Nat.mul_le_mul_left _ hp
      rw [List.length_cons, Nat.pow_succ] at hz
      have : S.length * (2 ^ L.length * 2) = S.length * 2 * 2 ^ L.length := by rw [Nat.mul_comm (2 ^ L.length) 2, Nat.mul_assoc]
      omega
    show ((tellS [.sh A, .own (.dct false (kset S)), .sh (.int x), s3, .non]).bind _).bind _ = _
    rw [tell_step hm hz2 hn]
    unfold tellGo
    cases ha : anyI S (plusI x S)
    · refine tell_loop L (S ++ plusI x S) _ _ rfl ?_ (tell_nodup hn ha)
      rw [List.length_append, plusI_eq, List.length_map]
      rw [List.length_cons, Nat.pow_succ] at hz
      have : S.length * (2 ^ L.length * 2) = (S.length + S.length) * 2 ^ L.length := by rw [Nat.mul_comm (2 ^ L.length) 2, ← Nat.mul_assoc]; congr 1; omega
      omega
    · rfl
/-- what is_telling answers -/
theorem tell_is (L : List Int) (h : L.length ≤ 24) : defF 4 tellB [.tup (IL L)] = .ok (.bl (tellGo [0] L)) := by
  have q := tell_loop (A := .tup (IL L)) L [0] .non .non rfl (by
    rw [sizeLine_eq]
    show 1 * 2 ^ L.length ≤ _
    have : 2 ^ L.length ≤ 2 ^ 24 := Nat.pow_le_pow_right (by decide) h
    omega) (by simp)
  exact congrArg (fun m => T.bind m outD) q
/-- a plain reading of is_telling -/
def tellG : List D → T D
  | [.tup xs] => match intsD xs with
    | some ns => tIf (Nat.ble ns.length 24) (.ok (.bl (tellGo [0] ns)))
    | none => .no
  | _ => .no
theorem ints_IL : ∀ {xs : List D} {ns : List Int}, intsD xs = some ns → xs = IL ns
  | [], _, h => by cases h; rfl
  | d :: r, ns, h => by
    cases d <;> first | (cases h; done) | skip
    rename_i i
    unfold intsD at h
    cases e : intsD r with
    | none => rw [e] at h; cases h
    | some ms =>
      rw [e] at h
      cases h
      rw [ints_IL e]; rfl
theorem tell_le : LE tellG (defF 4 tellB) := fun ds => by
  unfold tellG
  split
  · rename_i xs
    split
    · rename_i ns e
      cases hc : Nat.ble ns.length 24
      · exact trivial
      · rw [ints_IL e, tell_is ns (Nat.le_of_ble_eq_true hc)]; exact rfl
    · exact trivial
  · exact trivial
end
end DL

set_option Elab.async false
set_option linter.all false
set_option maxRecDepth 100000
namespace DL
noncomputable section
open PySem PySem.Spec PyProof.Rows L2
abbrev TI' (p : List Int) : D := .tup (IL p)
/-! ### all parts of a lot -/
def partsGo : List (List Int) → List Int → List (List Int)
  | F, [] => F
  | F, x :: r => partsGo (F ++ F.map (· ++ [x])) r
def partsB : Ev → T Res := (fSeq (fSet 1 (fLst (fCons (fTup fNil) fNil))) (fSeq (fFor (fParts (fV 0)) (.v 2) (fSet 1 (fBin dAdd (fVb 1) (fLc [3] (fParts (fVb 1)) (.v 3) fYes (fBin dAdd (fVb 3) (fTup (fCons (fV 2) fNil))))))) (fRet (fVb 1))))
abbrev partsS : Ev → T Res := fSet 1 (fBin dAdd (fVb 1) (fLc [3] (fParts (fVb 1)) (.v 3) fYes (fBin dAdd (fVb 3) (fTup (fCons (fV 2) fNil)))))
theorem lenOk_of {n : Nat} (h : n ≤ sizeLine) : lenOk n = true := Nat.ble_eq_true_of_le h
theorem parts_step {A : D} {F : List (List Int)} {x : Int} (hz : 2 * F.length ≤ sizeLine) (hp : ∀ p ∈ F, p.length + 1 ≤ sizeLine) :
    partsS [.sh A, .sh (.lst (F.map TI')), .sh (.int x), .non] = .ok (.nx [.sh A, .sh (.lst ((F ++ F.map (· ++ [x])).map TI')), .sh (.int x), .non]) := by
  have e1 : fLc [3] (fParts (fVb 1)) (.v 3) fYes (fBin dAdd (fVb 3) (fTup (fCons (fV 2) fNil))) [.sh A, .sh (.lst (F.map TI')), .sh (.int x), .non] = .ok (.lst ((F.map (· ++ [x])).map TI')) := by
    show tIf (lenOk (F.map TI').length) ((mapC (.v 3) fYes (fBin dAdd (fVb 3) (fTup (fCons (fV 2) fNil))) [.sh A, .sh (.lst (F.map TI')), .sh (.int x), .non] (F.map TI')).bind fun ys => T.ok (D.lst ys)) = _
    rw [List.length_map, lenOk_of (by omega), mapC_yes (f := TI') (g := fun p => TI' (p ++ [x])) fun p hm => by
      show tIf (lenOk ((IL p).length + 1)) (T.ok (D.tup (IL p ++ [.int x]))) = _
      rw [List.length_map, lenOk_of (hp p hm)]
      show T.ok (D.tup (IL p ++ IL [x])) = T.ok (D.tup (IL (p ++ [x])))
      rw [IL, IL, IL, List.map_append]]
    show T.ok (D.lst _) = T.ok (D.lst _)
    rw [List.map_map]; rfl
  show ((fLc [3] (fParts (fVb 1)) (.v 3) fYes (fBin dAdd (fVb 3) (fTup (fCons (fV 2) fNil))) [.sh A, .sh (.lst (F.map TI')), .sh (.int x), .non]).bind fun b => dAdd (.lst (F.map TI')) b).bind (fun d => T.ok (Res.nx (Ev.put [.sh A, .sh (.lst (F.map TI')), .sh (.int x), .non] 1 (.sh d)))) = _
  rw [e1]
  show (tIf (lenOk ((F.map TI').length + ((F.map (· ++ [x])).map TI').length)) (T.ok (D.lst (F.map TI' ++ (F.map (· ++ [x])).map TI')))).bind _ = _
  rw [List.length_map, List.length_map, List.length_map, lenOk_of (by omega), ← List.map_append]
  rfl
theorem parts_loop {A : D} : ∀ (L : List Int) (F : List (List Int)) (s2 : Sl), F.length * 2 ^ L.length ≤ sizeLine → (∀ p ∈ F, p.length + L.length ≤ 1000) →
    fSeq (fun ρ => foldB (.v 2) partsS (IL L) ρ) (fRet (fVb 1)) [.sh A, .sh (.lst (F.map TI')), s2, .non] = .ok (.rt (.lst ((partsGo F L).map TI')))
  | [], F, _, _, _ => rfl
  | x :: L, F, s2, hz, hp => by
    have hpow : 1 ≤ 2 ^ L.length := Nat.one_le_two_pow
    have e : F.length * (2 ^ L.length * 2) = F.length * 2 * 2 ^ L.length := by rw [Nat.mul_comm (2 ^ L.length) 2, ← Nat.mul_assoc]
    have hz2 : 2 * F.length ≤ sizeLine := by
      have : F.length * 2 * 1 ≤ F.length * 2 * 2 ^ L.length := Nat.mul_le_mul_left _ hpow
      rw [List.length_cons, Nat.pow_succ] at hz
      omega
    have q := parts_step (A := A) (x := x) hz2 fun p h => by
      have := hp p h
      rw [List.length_cons] at this
      rw [sizeLine_eq]; omega
    show (((partsS [.sh A, .sh (.lst (F.map TI')), .sh (.int x), .non]).bind _)).bind _ = _
    rw [q]
    refine parts_loop L (F ++ F.map (· ++ [x])) _ ?_ fun p h => ?_
    · rw [List.length_append, List.length_map]
      rw [List.length_cons, Nat.pow_succ] at hz
      have : F.length * 2 = F.length + F.length := by omega
      rw [this] at e
      omega
    · rcases List.mem_append.mp h with h | h
      · have := hp p h
        rw [List.length_cons] at this
        omega
      · obtain ⟨p', h', rfl⟩ := List.mem_map.mp h
        have := hp p' h'
        rw [List.length_cons] at this
        rw [List.length_append, List.length_singleton]
        omega
theorem parts_is (L : List Int) (h : L.length ≤ 20) : defF 3 partsB [.tup (IL L)] = .ok (.lst ((partsGo [[]] L).map TI')) := by
  have q := parts_loop (A := .tup (IL L)) L [[]] .non (by
    rw [sizeLine_eq]
    show 1 * 2 ^ L.length ≤ _
    have : 2 ^ L.length ≤ 2 ^ 20 := Nat.pow_le_pow_right (by decide) h
    omega) (fun p hp => by rw [List.mem_singleton.mp hp]; simp; omega)
  exact congrArg (fun m => T.bind m outD) q
theorem partsGo_len : ∀ (L : List Int) (F : List (List Int)), (partsGo F L).length = F.length * 2 ^ L.length
  | [], F => by simp [partsGo]
  | x :: L, F => by
    rw [partsGo, partsGo_len L, List.length_append, List.length_map, List.length_cons, Nat.pow_succ, ← Nat.two_mul, Nat.mul_comm 2, Nat.mul_assoc, Nat.mul_comm 2]

/-! ### sorting ints -/
section
variable {α β : Type} {le : β → β → Bool} {le' : α → α → Bool} {f : α → β} (hf : ∀ a b, le (f a) (f b) = le' a b)
include hf
theorem mgo_map {a : α} {r : List β → List β} {r' : List α → List α} (hr : ∀ l, r (l.map f) = (r' l).map f) : ∀ l : List α, mgo le (f a) r (l.map f) = (mgo le' a r' l).map f
  | [] => by
    have h0 := hr []
    show f a :: r [] = (a :: r' []).map f
    rw [show r [] = (r' []).map f from h0]; rfl
  | b :: l => by
    show (match le (f a) (f b) with
      | true => f a :: r (f b :: l.map f)
      | false => f b :: mgo le (f a) r (l.map f)) = (match le' a b with
      | true => a :: r' (b :: l)
      | false => b :: mgo le' a r' l).map f
    rw [hf, mgo_map hr l]
    have h1 := hr (b :: l)
    cases le' a b
    · rfl
    · show f a :: r (f b :: l.map f) = _
      rw [show r (f b :: l.map f) = (r' (b :: l)).map f from h1]; rfl
theorem mrg_map : ∀ as bs : List α, mrg le (as.map f) (bs.map f) = (mrg le' as bs).map f
  | [], _ => rfl
  | a :: as, bs => mgo_map hf (r := mrg le (as.map f)) (r' := mrg le' as) (fun l => mrg_map as l) bs
theorem prs_map : ∀ (n : Nat) (l : List (List α)), l.length ≤ n → prs le (l.map (·.map f)) = (prs le' l).map (·.map f)
  | _, [], _ => rfl
  | _, [a], _ => rfl
  | 0, _ :: _ :: _, h => absurd h (by simp)
  | 1, _ :: _ :: _, h => absurd h (by simp)
  | n + 2, a :: b :: r, h => by
    show mrg le (a.map f) (b.map f) :: prs le (r.map (·.map f)) = (mrg le' a b :: prs le' r).map (·.map f)
    rw [mrg_map hf a b, prs_map n r (by simp at h; omega)]; rfl
theorem mfl_map : ∀ l : List (List α), mfl le (l.map (·.map f)) = (mfl le' l).map f
  | [] => rfl
  | [a] => rfl
  | a :: b :: r => by
    have ih := mfl_map (b :: r)
    show mrg le (a.map f) (mfl le ((b :: r).map (·.map f))) = (mrg le' a (mfl le' (b :: r))).map f
    rw [ih, mrg_map hf]
theorem mms_map : ∀ (n : Nat) (l : List (List α)), mms le n (l.map (·.map f)) = (mms le' n l).map f
  | 0, l => mfl_map hf l
  | n + 1, [] => rfl
  | n + 1, [a] => rfl
  | n + 1, a :: b :: r => by
    have ih := mms_map n (prs le' (a :: b :: r))
    show mms le n (prs le ((a :: b :: r).map (·.map f))) = (mms le' n (prs le' (a :: b :: r))).map f
    rw [prs_map hf _ _ (Nat.le_refl _), ih]
theorem msort_map (l : List α) : msort le (l.map f) = (msort le' l).map f := by
  unfold msort
  rw [← mms_map hf, List.map_map, List.map_map]; rfl
end
theorem pls_IL (n : Nat) : ∀ S : List Int, pls n (IL S) = true
  | [] => by cases n <;> rfl
  | a :: r => by
    show (pl n (.int a) && pls n (IL r)) = true
    rw [pls_IL n r]
    cases n <;> rfl
theorem all_IL {p : D → Bool} (h : ∀ i, p (.int i) = true) (S : List Int) : (IL S).all p = true := by
  rw [List.all_map]
  exact List.all_eq_true.mpr fun x _ => h x
theorem srtOk_IL (S : List Int) : srtOk srtS (IL S) = true := by
  unfold srtOk
  rw [pls_IL, all_IL (fun _ => rfl)]
  show (true && (((IL S).all fun d => shOk .i d) || _) && (true || _)) = true
  rw [all_IL (fun _ => rfl)]; rfl
theorem sorted_IL (S : List Int) : dSorted srtS (.lst (IL S)) = .ok (.lst (IL (msort ile S))) := by
  have e : msort leD (IL S) = IL (msort ile S) := msort_map (f := D.int) (fun a b => rfl) S
  match S, e with
  | [], _ => rfl
  | [x], _ => rfl
  | x :: y :: r, e =>
    show (tIf (srtOk srtS (IL (x :: y :: r))) (T.ok (msort leD (IL (x :: y :: r))))).bind _ = _
    rw [srtOk_IL, e]; rfl

/-! ### sums, and whether no two are the same -/
def sumsB (G : List D → T D) : Ev → T Res := (fRet (fFn (on1 (dSorted srtS)) (fCons (fLc [1] (fParts (fCall 1 G (fCons (fV 0) fNil))) (.v 1) fYes (fFn (on1 dSum) (fCons (fVb 1) fNil))) fNil)))
def sumsI (L : List Int) : List Int := msort ile ((partsGo [[]] L).map isum)
theorem sums_is (L : List Int) (h : L.length ≤ 20) : defF 1 (sumsB (defF 3 partsB)) [.tup (IL L)] = .ok (.lst (IL (sumsI L))) := by
  have hl : lenOk (partsGo [[]] L).length = true := by
    rw [partsGo_len]
    refine lenOk_of ?_
    rw [sizeLine_eq]
    show 1 * 2 ^ L.length ≤ _
    have : 2 ^ L.length ≤ 2 ^ 20 := Nat.pow_le_pow_right (by decide) h
    omega
  have e1 : fLc [1] (fParts (fCall 1 (defF 3 partsB) (fCons (fV 0) fNil))) (.v 1) fYes (fFn (on1 dSum) (fCons (fVb 1) fNil)) [.sh (.tup (IL L)), .non] = .ok (.lst (IL ((partsGo [[]] L).map isum))) := by
    show (((defF 3 partsB [.tup (IL L)]).bind _).bind _) = _
    rw [parts_is L h]
    show tIf (lenOk ((partsGo [[]] L).map TI').length) ((mapC (.v 1) fYes (fFn (on1 dSum) (fCons (fVb 1) fNil)) [.sh (.tup (IL L)), .non] ((partsGo [[]] L).map TI')).bind fun ys => T.ok (D.lst ys)) = _
    rw [List.length_map, hl, mapC_yes (f := TI') (g := fun p => .int (isum p)) fun p _ => by
      show (match intsD (IL p) with | some ns => T.ok (D.int (isum ns)) | none => .no) = _
      rw [intsD_IL]]
    show T.ok (D.lst _) = T.ok (D.lst _)
    rw [IL, List.map_map]; rfl
  show ((((fLc [1] (fParts (fCall 1 (defF 3 partsB) (fCons (fV 0) fNil))) (.v 1) fYes (fFn (on1 dSum) (fCons (fVb 1) fNil)) [.sh (.tup (IL L)), .non]).bind fun a => T.ok [a]).bind (on1 (dSorted srtS))).bind fun d => T.ok (Res.rt d)).bind outD = _
  rw [e1]
  show ((dSorted srtS (.lst (IL ((partsGo [[]] L).map isum)))).bind fun d => T.ok (Res.rt d)).bind outD = _
  rw [sorted_IL]; rfl
def adjI : List Int → Bool
  | a :: b :: r => match ieq a b with
    | true => false
    | false => adjI (b :: r)
  | _ => true
theorem rgD_range : ∀ (n : Nat) (lo : Int), rgD lo n = (List.range n).map fun (i : Nat) => D.int (lo + (i : Int))
  | 0, _ => rfl
  | n + 1, lo => by
    rw [List.range_succ_eq_map, List.map_cons, List.map_map]
    show D.int lo :: rgD (lo + 1) n = _
    rw [rgD_range n (lo + 1)]
    congr 1
    · congr 1; show lo = lo + ((0 : Nat) : Int); omega
    · refine List.map_congr_left fun i _ => ?_
      show D.int (lo + 1 + (i : Int)) = D.int (lo + ((i + 1 : Nat) : Int))
      congr 1; omega
theorem adj_range : ∀ S : List Int, ((List.range (S.length - 1)).map fun i => !ieq (S.getD i 0) (S.getD (i + 1) 0)).all id = adjI S
  | [] => rfl
  | [a] => rfl
  | a :: b :: r => by
    have ih := adj_range (b :: r)
    have e : (a :: b :: r).length - 1 = ((b :: r).length - 1) + 1 := rfl
    rw [e, List.range_succ_eq_map, List.map_cons, List.all_cons, List.map_map]
    show (!ieq a b && _) = (match ieq a b with | true => false | false => adjI (b :: r))
    cases ieq a b
    · show (true && _) = adjI (b :: r)
      rw [Bool.true_and, ← ih]; rfl
    · rfl
theorem at_IL {S : List Int} {i : Nat} (h : i < S.length) : L2.atI (IL S) ((i : Nat) : Int) = some (.int (S.getD i 0)) := by
  have e : (IL S)[i]? = some (.int (S.getD i 0)) := by
    rw [List.getElem?_map, List.getElem?_eq_getElem h, List.getD_eq_getElem?_getD, List.getElem?_eq_getElem h]; rfl
  exact L2.atI_nat e
def lawTellB (G : List D → T D) : Ev → T Res := (fSeq (fSet 1 (fCall 1 G (fCons (fV 0) fNil))) (fRet (fFn (on1 dAll) (fCons (fLc [2] (fRng1 (fCons (fBin dSub (fFn (on1 dLen) (fCons (fVb 1) fNil)) (fC (.int 1))) fNil)) (.v 2) fYes (fBin dNe (fBin dItem (fVb 1) (fVb 2)) (fBin dItem (fVb 1) (fBin dAdd (fVb 2) (fC (.int 1)))))) fNil))))
theorem mgo_len {α : Type} (le : α → α → Bool) (a : α) (r : List α → List α) (k : Nat) (hr : ∀ l, (r l).length = k + l.length) : ∀ l : List α, (mgo le a r l).length = k + 1 + l.length
  | [] => by show (r []).length + 1 = _; rw [hr]; simp
  | b :: l => by
    unfold mgo
    split
    · rw [List.length_cons, hr, List.length_cons]; omega
    · rw [List.length_cons, mgo_len le a r k hr l, List.length_cons]; omega
theorem mrg_len {α : Type} (le : α → α → Bool) : ∀ as bs : List α, (mrg le as bs).length = as.length + bs.length
  | [], bs => by simp [mrg]
  | a :: as, bs => by rw [List.length_cons]; exact mgo_len le a (mrg le as) as.length (fun l => mrg_len le as l) bs
theorem prs_len {α : Type} (le : α → α → Bool) : ∀ (n : Nat) (l : List (List α)), l.length ≤ n → (prs le l).flatten.length = l.flatten.length
  | _, [], _ => rfl
  | _, [a], _ => rfl
  | 0, _ :: _ :: _, h => absurd h (by simp)
  | 1, _ :: _ :: _, h => absurd h (by simp)
  | n + 2, a :: b :: r, h => by
    show (mrg le a b :: prs le r).flatten.length = _
    rw [List.flatten_cons, List.length_append, mrg_len, prs_len le n r (by simp at h; omega)]
    simp [Nat.add_assoc]
theorem mfl_len {α : Type} (le : α → α → Bool) : ∀ l : List (List α), (mfl le l).length = l.flatten.length
  | [] => rfl
  | [a] => by simp [mfl]
  | a :: b :: r => by
    have ih := mfl_len le (b :: r)
    show (mrg le a (mfl le (b :: r))).length = _
    rw [mrg_len, ih]; simp [List.flatten_cons]
theorem mms_len {α : Type} (le : α → α → Bool) : ∀ (n : Nat) (l : List (List α)), (mms le n l).length = l.flatten.length
  | 0, l => mfl_len le l
  | n + 1, [] => rfl
  | n + 1, [a] => by simp [mms]
  | n + 1, a :: b :: r => (mms_len le n (prs le (a :: b :: r))).trans (prs_len le _ _ (Nat.le_refl _))
theorem msort_len {α : Type} (le : α → α → Bool) (l : List α) : (msort le l).length = l.length := by
  unfold msort
  rw [mms_len]
  induction l with
  | nil => rfl
  | cons a r ih => rw [List.map_cons, List.flatten_cons, List.length_append, ih, List.length_cons]; simp; omega
theorem sumsI_len (L : List Int) : (sumsI L).length = 2 ^ L.length := by
  unfold sumsI
  rw [msort_len, List.length_map, partsGo_len]
  show 1 * _ = _
  omega
theorem lawTell_is (L : List Int) (h : L.length ≤ 20) : defF 2 (lawTellB (defF 1 (sumsB (defF 3 partsB)))) [.tup (IL L)] = .ok (.bl (adjI (sumsI L))) := by
  have hlen := sumsI_len L
  have hp : 2 ^ L.length ≤ 2 ^ 20 := Nat.pow_le_pow_right (by decide) h
  have hp0 : 1 ≤ 2 ^ L.length := Nat.one_le_two_pow
  generalize hS : sumsI L = S at hlen
  have e1 : fLc [2] (fRng1 (fCons (fBin dSub (fFn (on1 dLen) (fCons (fVb 1) fNil)) (fC (.int 1))) fNil)) (.v 2) fYes (fBin dNe (fBin dItem (fVb 1) (fVb 2)) (fBin dItem (fVb 1) (fBin dAdd (fVb 2) (fC (.int 1))))) [.sh (.tup (IL L)), .sh (.lst (IL S)), .non] = .ok (.lst ((List.range (S.length - 1)).map fun i => .bl (!ieq (S.getD i 0) (S.getD (i + 1) 0)))) := by
    show (tIf (i62 (((IL S).length : Nat) - 1 : Int)) (T.ok (rgD 0 (((IL S).length : Nat) - 1 : Int).toNat))).bind _ = _
    have c : i62 (((IL S).length : Nat) - 1 : Int) = true := by
      rw [List.length_map]
      unfold i62
      rw [ilt_eq, ile_eq, Bool.and_eq_true]
      exact ⟨decide_eq_true (by omega), decide_eq_true (by omega)⟩
    have t : ((((IL S).length : Nat) - 1 : Int)).toNat = S.length - 1 := by rw [List.length_map]; omega
    rw [c, t, rgD_range]
    show tIf (lenOk ((List.range (S.length - 1)).map _).length) ((mapC (.v 2) fYes (fBin dNe (fBin dItem (fVb 1) (fVb 2)) (fBin dItem (fVb 1) (fBin dAdd (fVb 2) (fC (.int 1))))) [.sh (.tup (IL L)), .sh (.lst (IL S)), .non] ((List.range (S.length - 1)).map fun (i : Nat) => D.int (0 + (i : Int)))).bind fun ys => T.ok (D.lst ys)) = _
    rw [List.length_map, List.length_range, lenOk_of (by rw [sizeLine_eq]; omega), mapC_yes (f := fun (i : Nat) => D.int (0 + (i : Int))) (g := fun i => .bl (!ieq (S.getD i 0) (S.getD (i + 1) 0))) fun i hi => by
      have hi := List.mem_range.mp hi
      show (atD (IL S) (0 + (i : Int))).bind (fun a => (atD (IL S) (0 + (i : Int) + 1)).bind fun b => dNe a b) = _
      unfold atD
      rw [show (0 : Int) + (i : Int) = ((i : Nat) : Int) by omega, show ((i : Nat) : Int) + 1 = ((i + 1 : Nat) : Int) by omega, at_IL (by omega), at_IL (by omega)]
      rfl]
    rfl
  have e0 : fCall 1 (defF 1 (sumsB (defF 3 partsB))) (fCons (fV 0) fNil) [.sh (.tup (IL L)), .non, .non] = .ok (.lst (IL S)) := by
    show defF 1 (sumsB (defF 3 partsB)) [.tup (IL L)] = _
    rw [sums_is L h, hS]
  show (((fCall 1 (defF 1 (sumsB (defF 3 partsB))) (fCons (fV 0) fNil) [.sh (.tup (IL L)), .non, .non]).bind fun d => T.ok (Res.nx (Ev.put [.sh (.tup (IL L)), .non, .non] 1 (.sh d)))).bind _).bind outD = _
  rw [e0]
  show ((((fLc [2] (fRng1 (fCons (fBin dSub (fFn (on1 dLen) (fCons (fVb 1) fNil)) (fC (.int 1))) fNil)) (.v 2) fYes (fBin dNe (fBin dItem (fVb 1) (fVb 2)) (fBin dItem (fVb 1) (fBin dAdd (fVb 2) (fC (.int 1))))) [.sh (.tup (IL L)), .sh (.lst (IL S)), .non]).bind fun a => T.ok [a]).bind (on1 dAll)).bind fun d => T.ok (Res.rt d)).bind outD = _
  rw [e1]
  show ((dAll (.lst ((List.range (S.length - 1)).map fun i => .bl (!ieq (S.getD i 0) (S.getD (i + 1) 0))))).bind fun d => T.ok (Res.rt d)).bind outD = _
  unfold dAll
  dsimp only
  rw [bls_map]
  show T.ok (D.bl (((List.range (S.length - 1)).map fun i => !ieq (S.getD i 0) (S.getD (i + 1) 0)).all id)) = _
  rw [adj_range]
/-- a plain reading of the law's own test -/
def lawTellG : List D → T D
  | [.tup xs] => match intsD xs with
    | some ns => tIf (Nat.ble ns.length 20) (.ok (.bl (adjI (sumsI ns))))
    | none => .no
  | _ => .no
theorem lawTell_le : LE lawTellG (defF 2 (lawTellB (defF 1 (sumsB (defF 3 partsB))))) := fun ds => by
  unfold lawTellG
  split
  · rename_i xs
    split
    · rename_i ns e
      cases hc : Nat.ble ns.length 20
      · exact trivial
      · rw [ints_IL e, lawTell_is ns (Nat.le_of_ble_eq_true hc)]; exact rfl
    · exact trivial
  · exact trivial
end
end DL

set_option Elab.async false
set_option linter.all false
set_option maxRecDepth 100000
namespace DL
/-! ### lots whose parts have unlike sums: bounds (plain mathematics) -/
def goS : List Int → List Int → List Int
  | S, [] => S
  | S, x :: r => goS (S ++ S.map (· + x)) r
def isq : List Int → Int
  | [] => 0
  | x :: r => x * x + isq r
def pows : Int → Nat → List Int
  | _, 0 => []
  | b, n + 1 => b :: pows (2 * b) n
theorem goS_len : ∀ (L S : List Int), (goS S L).length = S.length * 2 ^ L.length
  | [], S => by simp [goS]
  | x :: r, S => by
    show (goS (S ++ S.map (· + x)) r).length = _
    rw [goS_len r, List.length_append, List.length_map, List.length_cons, Nat.pow_succ, ← Nat.two_mul, Nat.mul_comm 2, Nat.mul_assoc, Nat.mul_comm 2]
theorem goS_sub : ∀ (L S : List Int), ∀ s ∈ S, s ∈ goS S L
  | [], _, _, h => h
  | x :: r, S, s, h => goS_sub r _ s (List.mem_append_left _ h)
theorem goS_pre : ∀ (L S : List Int), List.Sublist S (goS S L)
  | [], S => List.Sublist.refl _
  | x :: r, S => (List.sublist_append_left _ _).trans (goS_pre r _)
theorem goS_top : ∀ (L S : List Int) (m : Int), m ∈ S → m + isum L ∈ goS S L
  | [], S, m, h => by show m + 0 ∈ S; rw [Int.add_zero]; exact h
  | x :: r, S, m, h => by
    have := goS_top r (S ++ S.map (· + x)) (m + x) (List.mem_append_right _ (List.mem_map.mpr ⟨m, h, rfl⟩))
    show m + (x + isum r) ∈ _
    rw [← Int.add_assoc]; exact this
theorem goS_box : ∀ (L S : List Int) (m : Int), (∀ x ∈ L, 0 ≤ x) → (∀ s ∈ S, 0 ≤ s ∧ s ≤ m) → ∀ s ∈ goS S L, 0 ≤ s ∧ s ≤ m + isum L
  | [], S, m, _, h, s, hs => by
    have := h s hs
    exact ⟨this.1, by show s ≤ m + 0; omega⟩
  | x :: r, S, m, hx, h, s, hs => by
    have x0 := hx x List.mem_cons_self
    have := goS_box r (S ++ S.map (· + x)) (m + x) (fun y hy => hx y (List.mem_cons_of_mem _ hy)) (fun t ht => by
      rcases List.mem_append.mp ht with ht | ht
      · have := h t ht; omega
      · obtain ⟨u, hu, e⟩ := List.mem_map.mp ht
        have := h u hu
        omega) s hs
    exact ⟨this.1, by show s ≤ m + (x + isum r); omega⟩
/-- what is not among the first is as great as what comes later -/
theorem goS_low : ∀ (L S : List Int) (m : Int), (∀ x ∈ L, m ≤ x) → 0 ≤ m → (∀ s ∈ S, 0 ≤ s) → ∀ s ∈ goS S L, s ∈ S ∨ m ≤ s
  | [], _, _, _, _, _, _, hs => .inl hs
  | x :: r, S, m, hx, hm, h0, s, hs => by
    have x0 := hx x List.mem_cons_self
    rcases goS_low r (S ++ S.map (· + x)) m (fun y hy => hx y (List.mem_cons_of_mem _ hy)) hm (fun t ht => by
      rcases List.mem_append.mp ht with ht | ht
      · exact h0 t ht
      · obtain ⟨u, hu, e⟩ := List.mem_map.mp ht
        have := h0 u hu
        omega) s hs with q | q
    · rcases List.mem_append.mp q with q | q
      · exact .inl q
      · obtain ⟨u, hu, e⟩ := List.mem_map.mp q
        have := h0 u hu
        exact .inr (by omega)
    · exact .inr q
/-- so many unlike numbers below a bound -/
theorem nodup_bound : ∀ (n : Nat) (l : List Int), l.Nodup → (∀ x ∈ l, 0 ≤ x ∧ x < (n : Int)) → l.length ≤ n
  | 0, l, _, h => by
    cases l with
    | nil => exact Nat.le_refl _
    | cons a r => have := h a List.mem_cons_self; omega
  | n + 1, l, hn, h => by
    have h1 := nodup_bound n (l.erase (n : Int)) (hn.erase _) (fun x hx => by
      have hx' := (hn.mem_erase_iff).mp hx
      have := h x hx'.2
      have := hx'.1
      omega)
    have : l.length ≤ (l.erase (n : Int)).length + 1 := by rw [List.length_erase]; split <;> omega
    omega
/-! the sum -/
theorem tell_sum {L : List Int} (h0 : ∀ x ∈ L, 0 ≤ x) (hn : (goS [0] L).Nodup) : (2 : Int) ^ L.length - 1 ≤ isum L := by
  have hb := goS_box L [0] 0 h0 (fun s hs => by rw [List.mem_singleton] at hs; omega)
  have hs : 0 ≤ isum L := by have := hb _ (goS_top L [0] 0 (by simp)); omega
  have := nodup_bound ((isum L).toNat + 1) _ hn (fun x hx => by have := hb x hx; omega)
  rw [goS_len] at this
  have e : (([0] : List Int).length * 2 ^ L.length : Nat) = 2 ^ L.length := Nat.one_mul _
  rw [e] at this
  have c : ((2 ^ L.length : Nat) : Int) = (2 : Int) ^ L.length := by rw [Int.natCast_pow]; rfl
  omega
theorem goS_app : ∀ (K M S : List Int), goS S (K ++ M) = goS (goS S K) M
  | [], _, _ => rfl
  | x :: K, M, S => goS_app K M _
/-- the sums of the first ones stand above 1, 2, 4, .. -/
def dom : Int → Int → List Int → Prop
  | _, _, [] => True
  | P, b, x :: r => 0 ≤ P + x - b ∧ dom (P + x - b) (2 * b) r
theorem isum_app : ∀ (K M : List Int), isum (K ++ M) = isum K + isum M
  | [], M => by show isum M = 0 + isum M; omega
  | x :: K, M => by show x + isum (K ++ M) = x + isum K + isum M; rw [isum_app K M]; omega
theorem tell_dom : ∀ (M K : List Int), (∀ x ∈ K ++ M, 0 ≤ x) → (goS [0] (K ++ M)).Nodup → dom (isum K - ((2 : Int) ^ K.length - 1)) (2 ^ K.length) M
  | [], _, _, _ => trivial
  | x :: M, K, h0, hn => by
    have e : K ++ x :: M = (K ++ [x]) ++ M := by simp
    rw [e] at h0 hn
    have ih := tell_dom M (K ++ [x]) h0 hn
    have hs : (2 : Int) ^ (K ++ [x]).length - 1 ≤ isum (K ++ [x]) := tell_sum (fun y hy => h0 y (List.mem_append_left _ hy)) (by
      rw [goS_app] at hn
      exact (goS_pre M _).nodup hn)
    rw [isum_app] at hs ih
    have e1 : isum [x] = x := by show x + 0 = x; omega
    have e2 : (K ++ [x]).length = K.length + 1 := by simp
    rw [e1, e2, Int.pow_succ] at hs ih
    have e3 : isum K + x - (2 ^ K.length * 2 - 1) = isum K - (2 ^ K.length - 1) + x - 2 ^ K.length := by omega
    rw [e3, Int.mul_comm] at ih
    exact ⟨by omega, ih⟩
/-! the reciprocals -/
def iprod : List Int → Int
  | [] => 1
  | x :: r => x * iprod r
/-- above, of the sum of reciprocals over the product -/
def inum : List Int → Int
  | [] => 0
  | x :: r => iprod r + x * inum r
def recN (b : Int) (L : List Int) : Int := ((2 : Int) ^ L.length - 1) * iprod L * 2 - 2 ^ L.length * b * inum L
theorem iprod_pos : ∀ {L : List Int}, (∀ x ∈ L, 0 < x) → 0 < iprod L
  | [], _ => by decide
  | x :: r, h => Int.mul_pos (h x List.mem_cons_self) (iprod_pos fun y hy => h y (List.mem_cons_of_mem _ hy))
theorem recN_cons (b x : Int) (r : List Int) : recN b (x :: r) = (x - b) * 2 ^ (r.length + 1) * iprod r + x * recN (2 * b) r := by
  unfold recN
  show ((2 : Int) ^ (r.length + 1) - 1) * (x * iprod r) * 2 - 2 ^ (r.length + 1) * b * (iprod r + x * inum r) = _
  rw [Int.pow_succ]
  generalize (2 : Int) ^ r.length = T
  generalize iprod r = p
  generalize inum r = q
  grind
theorem rec_low : ∀ (r : List Int) (x P b : Int), (x :: r).Pairwise (· < ·) → (∀ y ∈ x :: r, 0 < y) → dom P b (x :: r) →
    0 ≤ recN b (x :: r) + P * (2 ^ (r.length + 1) * iprod r) ∧ (recN b (x :: r) + P * (2 ^ (r.length + 1) * iprod r) = 0 → P = 0 → x :: r = pows b (r.length + 1))
  | [], x, P, b, _, _, hd => by
    have e : recN b [x] = 2 * (x - b) := by unfold recN; show ((2 : Int) ^ 1 - 1) * (x * 1) * 2 - 2 ^ 1 * b * (1 + x * 0) = _; omega
    rw [e]
    have h1 : 0 ≤ P + x - b := hd.1
    show 0 ≤ 2 * (x - b) + P * (2 ^ 1 * 1) ∧ _
    refine ⟨by omega, fun h hP => ?_⟩
    have h : 2 * (x - b) + P * (2 ^ 1 * 1) = 0 := h
    show [x] = [b]
    rw [show x = b by omega]
  | y :: r, x, P, b, hp, h0, hd => by
    obtain ⟨hx, hp'⟩ := List.pairwise_cons.mp hp
    have hxy := hx y List.mem_cons_self
    have x0 := h0 x List.mem_cons_self
    have h0' : ∀ z ∈ y :: r, 0 < z := fun z hz => h0 z (List.mem_cons_of_mem _ hz)
    obtain ⟨d1, d2⟩ := hd
    obtain ⟨i1, i2⟩ := rec_low r y (P + x - b) (2 * b) hp' h0' d2
    have hpos : 0 < (2 : Int) ^ (r.length + 1) * iprod r := Int.mul_pos (Int.pow_pos (by decide)) (iprod_pos fun z hz => h0' z (List.mem_cons_of_mem _ hz))
    have key : recN b (x :: y :: r) + P * (2 ^ ((y :: r).length + 1) * iprod (y :: r)) = x * (recN (2 * b) (y :: r) + (P + x - b) * (2 ^ (r.length + 1) * iprod r)) + (P + x - b) * ((2 * y - x) * (2 ^ (r.length + 1) * iprod r)) := by
      rw [recN_cons b x (y :: r)]
      show (x - b) * 2 ^ (r.length + 1 + 1) * (y * iprod r) + x * recN (2 * b) (y :: r) + P * (2 ^ (r.length + 1 + 1) * (y * iprod r)) = _
      rw [Int.pow_succ (2 : Int) (r.length + 1)]
      generalize (2 : Int) ^ (r.length + 1) = T
      generalize iprod r = p
      generalize recN (2 * b) (y :: r) = q
      grind
    have t1 : 0 ≤ x * (recN (2 * b) (y :: r) + (P + x - b) * (2 ^ (r.length + 1) * iprod r)) := Int.mul_nonneg (by omega) i1
    have t2' : 0 < (2 * y - x) * (2 ^ (r.length + 1) * iprod r) := Int.mul_pos (by omega) hpos
    have t2 : 0 ≤ (P + x - b) * ((2 * y - x) * (2 ^ (r.length + 1) * iprod r)) := Int.mul_nonneg d1 (by omega)
    rw [key]
    refine ⟨by omega, fun h hP => ?_⟩
    have z1 : x * (recN (2 * b) (y :: r) + (P + x - b) * (2 ^ (r.length + 1) * iprod r)) = 0 := by omega
    have z2 : (P + x - b) * ((2 * y - x) * (2 ^ (r.length + 1) * iprod r)) = 0 := by omega
    have z3 : P + x - b = 0 := by
      rcases Int.mul_eq_zero.mp z2 with q | q
      · exact q
      · omega
    have z4 : recN (2 * b) (y :: r) + (P + x - b) * (2 ^ (r.length + 1) * iprod r) = 0 := by
      rcases Int.mul_eq_zero.mp z1 with q | q
      · omega
      · exact q
    have := i2 z4 z3
    show x :: y :: r = b :: pows (2 * b) (r.length + 1)
    rw [this, show x = b by omega]
/-! the squares -/
def dsq (a : Int) : List Int → Int
  | [] => 0
  | y :: r => (a - y) * (a - y) + dsq a r
/-- the squares of all differences, each pair twice -/
def VV (l : List Int) : Int := isum (l.map fun a => dsq a l)

theorem dsq_app (a : Int) : ∀ (l m : List Int), dsq a (l ++ m) = dsq a l + dsq a m
  | [], m => by show dsq a m = 0 + dsq a m; omega
  | y :: l, m => by show (a - y) * (a - y) + dsq a (l ++ m) = (a - y) * (a - y) + dsq a l + dsq a m; rw [dsq_app a l m]; omega
theorem dsq_map (a x : Int) : ∀ (m : List Int), dsq a (m.map (· + x)) = dsq (a - x) m
  | [] => rfl
  | y :: m => by
    show (a - (y + x)) * (a - (y + x)) + dsq a (m.map (· + x)) = (a - x - y) * (a - x - y) + dsq (a - x) m
    rw [dsq_map a x m, show a - (y + x) = a - x - y by omega]
theorem dsq_pm (a x : Int) : ∀ (m : List Int), dsq (a - x) m + dsq (a + x) m = 2 * dsq a m + 2 * (m.length : Int) * (x * x)
  | [] => by show (0 : Int) + 0 = 2 * 0 + 2 * ((0 : Nat) : Int) * (x * x); simp
  | y :: m => by
    have ih := dsq_pm a x m
    show (a - x - y) * (a - x - y) + dsq (a - x) m + ((a + x - y) * (a + x - y) + dsq (a + x) m) = 2 * ((a - y) * (a - y) + dsq a m) + 2 * ((m.length + 1 : Nat) : Int) * (x * x)
    rw [Int.natCast_add]
    generalize dsq (a - x) m = p at *
    generalize dsq (a + x) m = q at *
    generalize dsq a m = r at *
    generalize (m.length : Int) = n at *
    grind
theorem isum_add {f g : Int → Int} : ∀ l : List Int, isum (l.map fun a => f a + g a) = isum (l.map f) + isum (l.map g)
  | [] => rfl
  | a :: l => by show f a + g a + isum (l.map fun a => f a + g a) = f a + isum (l.map f) + (g a + isum (l.map g)); rw [isum_add l]; omega
theorem isum_lin {f : Int → Int} (c d : Int) : ∀ l : List Int, isum (l.map fun a => c * f a + d) = c * isum (l.map f) + (l.length : Int) * d
  | [] => by show (0 : Int) = c * 0 + ((0 : Nat) : Int) * d; simp
  | a :: l => by
    show c * f a + d + isum (l.map fun a => c * f a + d) = c * (f a + isum (l.map f)) + ((l.length + 1 : Nat) : Int) * d
    rw [isum_lin c d l, Int.natCast_add]
    generalize isum (l.map f) = p
    generalize (l.length : Int) = n
    generalize f a = q
    grind
theorem VV_step (S : List Int) (x : Int) : VV (S ++ S.map (· + x)) = 4 * VV S + 2 * ((S.length : Int) * (S.length : Int)) * (x * x) := by
  unfold VV
  rw [List.map_append, isum_app, List.map_map]
  have e1 : (S.map fun a => dsq a (S ++ S.map (· + x))) = S.map fun a => dsq a S + dsq (a - x) S := List.map_congr_left fun a _ => by rw [dsq_app, dsq_map]
  have e2 : (S.map ((fun a => dsq a (S ++ S.map (· + x))) ∘ (· + x))) = S.map fun a => dsq (a + x) S + dsq a S := List.map_congr_left fun a _ => by
    show dsq (a + x) (S ++ S.map (· + x)) = _
    rw [dsq_app, dsq_map, show a + x - x = a by omega]
  rw [e1, e2, isum_add, isum_add]
  have e3 : isum (S.map fun a => dsq (a - x) S) + isum (S.map fun a => dsq (a + x) S) = 2 * isum (S.map fun a => dsq a S) + (S.length : Int) * (2 * (S.length : Int) * (x * x)) := by
    rw [← isum_add, ← isum_lin]
    congr 1
    exact List.map_congr_left fun a _ => dsq_pm a x S
  generalize isum (S.map fun a => dsq (a - x) S) = p at *
  generalize isum (S.map fun a => dsq (a + x) S) = q at *
  generalize isum (S.map fun a => dsq a S) = r at *
  generalize (S.length : Int) = n at *
  grind
theorem VV_goS : ∀ (L S : List Int), 2 * VV (goS S L) = 4 ^ L.length * (2 * VV S + ((S.length : Int) * (S.length : Int)) * isq L)
  | [], S => by
    show 2 * VV S = 4 ^ 0 * (2 * VV S + ((S.length : Int) * (S.length : Int)) * 0)
    rw [Int.pow_zero]; omega
  | x :: r, S => by
    show 2 * VV (goS (S ++ S.map (· + x)) r) = 4 ^ (r.length + 1) * (2 * VV S + ((S.length : Int) * (S.length : Int)) * (x * x + isq r))
    rw [VV_goS r, VV_step, List.length_append, List.length_map, Int.natCast_add, Int.pow_succ]
    generalize VV S = v
    generalize (S.length : Int) = n
    generalize isq r = q
    generalize (4 : Int) ^ r.length = T
    grind
theorem dsq_perm (a : Int) {l m : List Int} (h : l.Perm m) : dsq a l = dsq a m := by
  induction h with
  | nil => rfl
  | cons x _ ih => show (a - x) * (a - x) + _ = (a - x) * (a - x) + _; rw [ih]
  | swap x y l => show (a - y) * (a - y) + ((a - x) * (a - x) + dsq a l) = (a - x) * (a - x) + ((a - y) * (a - y) + dsq a l); omega
  | trans _ _ h1 h2 => exact h1.trans h2
theorem isum_perm {l m : List Int} (h : l.Perm m) : isum l = isum m := by
  induction h with
  | nil => rfl
  | cons x _ ih => show x + _ = x + _; rw [ih]
  | swap x y l => show y + (x + isum l) = x + (y + isum l); omega
  | trans _ _ h1 h2 => exact h1.trans h2
theorem VV_perm {l m : List Int} (h : l.Perm m) : VV l = VV m := by
  unfold VV
  rw [isum_perm (h.map fun a => dsq a l)]
  congr 1
  exact List.map_congr_left fun a _ => dsq_perm a h
theorem VV_cons (a : Int) (l : List Int) : VV (a :: l) = 2 * dsq a l + VV l := by
  unfold VV
  show dsq a (a :: l) + isum (l.map fun b => dsq b (a :: l)) = _
  have e : (l.map fun b => dsq b (a :: l)) = l.map fun b => (b - a) * (b - a) + dsq b l := rfl
  rw [e, isum_add]
  have e2 : ∀ l : List Int, isum (l.map fun b => (b - a) * (b - a)) = dsq a l := by
    intro l
    induction l with
    | nil => rfl
    | cons y l ih =>
      show (y - a) * (y - a) + isum (l.map fun b => (b - a) * (b - a)) = (a - y) * (a - y) + dsq a l
      rw [ih]
      have : (y - a) * (y - a) = (a - y) * (a - y) := by grind
      omega
  rw [e2]
  show (a - a) * (a - a) + dsq a l + _ = _
  rw [show a - a = 0 by omega]
  omega
def sqs : Int → Nat → Int
  | _, 0 => 0
  | k, m + 1 => (k + 1) * (k + 1) + sqs (k + 1) m
theorem sqs_is : ∀ (m : Nat) (k : Int), 6 * sqs k m = 6 * (m : Int) * (k * k) + 6 * k * ((m : Int) * ((m : Int) + 1)) + (m : Int) * ((m : Int) + 1) * (2 * (m : Int) + 1)
  | 0, k => by show 6 * (0 : Int) = 6 * ((0 : Nat) : Int) * (k * k) + 6 * k * (((0 : Nat) : Int) * (((0 : Nat) : Int) + 1)) + ((0 : Nat) : Int) * (((0 : Nat) : Int) + 1) * (2 * ((0 : Nat) : Int) + 1); simp
  | m + 1, k => by
    have ih := sqs_is m (k + 1)
    show 6 * ((k + 1) * (k + 1) + sqs (k + 1) m) = _
    rw [Int.natCast_add]
    generalize sqs (k + 1) m = s at *
    generalize (m : Int) = n at *
    show 6 * ((k + 1) * (k + 1) + s) = 6 * (n + 1) * (k * k) + 6 * k * ((n + 1) * (n + 1 + 1)) + (n + 1) * (n + 1 + 1) * (2 * (n + 1) + 1)
    grind
theorem sq_mono {u v : Int} (h : 0 ≤ u) (h2 : u ≤ v) : u * u ≤ v * v := Int.mul_le_mul h2 h2 h (by omega)
theorem dsq_low : ∀ (l : List Int) (a k : Int), 0 ≤ k → l.Pairwise (· < ·) → (∀ y ∈ l, a + k + 1 ≤ y) → sqs k l.length ≤ dsq a l ∧ (dsq a l = sqs k l.length → ∀ y ∈ l, y ≤ a + k + (l.length : Int))
  | [], a, k, _, _, _ => ⟨Int.le_refl _, fun _ y hy => nomatch hy⟩
  | y :: r, a, k, hk, hp, h => by
    obtain ⟨h1, h2⟩ := List.pairwise_cons.mp hp
    have hy := h y List.mem_cons_self
    obtain ⟨i1, i2⟩ := dsq_low r a (k + 1) (by omega) h2 (fun z hz => by have := h1 z hz; omega)
    have sq : (k + 1) * (k + 1) ≤ (a - y) * (a - y) := by
      have := sq_mono (u := k + 1) (v := y - a) (by omega) (by omega)
      have e : (y - a) * (y - a) = (a - y) * (a - y) := by grind
      omega
    show (k + 1) * (k + 1) + sqs (k + 1) r.length ≤ (a - y) * (a - y) + dsq a r ∧ ((a - y) * (a - y) + dsq a r = (k + 1) * (k + 1) + sqs (k + 1) r.length → _)
    refine ⟨by omega, fun e z hz => ?_⟩
    have e1 : dsq a r = sqs (k + 1) r.length := by omega
    have e2 : (a - y) * (a - y) = (k + 1) * (k + 1) := by omega
    rw [List.length_cons, Int.natCast_add]
    rcases List.mem_cons.mp hz with hz | hz
    · subst hz
      by_cases q : z ≤ a + k + 1
      · have : (0 : Int) ≤ (r.length : Int) := Int.natCast_nonneg _
        show z ≤ a + k + ((r.length : Int) + 1)
        omega
      · exfalso
        have := sq_mono (u := k + 2) (v := z - a) (by omega) (by omega)
        have e3 : (z - a) * (z - a) = (a - z) * (a - z) := by grind
        have e4 : (k + 2) * (k + 2) = (k + 1) * (k + 1) + 2 * k + 3 := by grind
        omega
    · have := i2 e1 z hz
      show z ≤ a + k + ((r.length : Int) + 1)
      omega
theorem VV_low : ∀ (l : List Int), l.Pairwise (· < ·) → ((l.length : Int) * (l.length : Int)) * ((l.length : Int) * (l.length : Int) - 1) ≤ 6 * VV l ∧
    (6 * VV l = ((l.length : Int) * (l.length : Int)) * ((l.length : Int) * (l.length : Int) - 1) → ∀ x ∈ l, ∀ y ∈ l, y ≤ x + ((l.length : Int) - 1))
  | [], _ => ⟨by decide, fun _ x hx => nomatch hx⟩
  | a :: r, hp => by
    obtain ⟨h1, h2⟩ := List.pairwise_cons.mp hp
    obtain ⟨i1, _⟩ := VV_low r h2
    obtain ⟨j1, j2⟩ := dsq_low r a 0 (by omega) h2 (fun y hy => by have := h1 y hy; omega)
    have c := sqs_is r.length 0
    rw [VV_cons, List.length_cons, Int.natCast_add]
    have c' : 6 * sqs 0 r.length = (r.length : Int) * ((r.length : Int) + 1) * (2 * (r.length : Int) + 1) := by
      rw [c]
      generalize (r.length : Int) = n
      grind
    have id1 : ((r.length : Int) + 1) * ((r.length : Int) + 1) * (((r.length : Int) + 1) * ((r.length : Int) + 1) - 1) = 2 * ((r.length : Int) * ((r.length : Int) + 1) * (2 * (r.length : Int) + 1)) + ((r.length : Int) * (r.length : Int)) * ((r.length : Int) * (r.length : Int) - 1) := by
      generalize (r.length : Int) = n
      grind
    show ((r.length : Int) + 1) * ((r.length : Int) + 1) * (((r.length : Int) + 1) * ((r.length : Int) + 1) - 1) ≤ _ ∧ (_ = ((r.length : Int) + 1) * ((r.length : Int) + 1) * (((r.length : Int) + 1) * ((r.length : Int) + 1) - 1) → _)
    rw [id1, ← c']
    refine ⟨by omega, fun e x hx y hy => ?_⟩
    have e1 : dsq a r = sqs 0 r.length := by omega
    have hmax := j2 e1
    have hx' : a ≤ x := by
      rcases List.mem_cons.mp hx with q | q
      · omega
      · have := h1 x q; omega
    have hy' : y ≤ a + (r.length : Int) := by
      rcases List.mem_cons.mp hy with q | q
      · have : (0 : Int) ≤ (r.length : Int) := Int.natCast_nonneg _
        omega
      · have := hmax y q; omega
    show y ≤ x + ((r.length : Int) + 1 - 1)
    omega
theorem tell_sq {L l : List Int} (h0 : ∀ x ∈ L, 0 ≤ x) (hl : l.Perm (goS [0] L)) (hp : l.Pairwise (· < ·)) : (4 : Int) ^ L.length - 1 ≤ 3 * isq L ∧ (3 * isq L = 4 ^ L.length - 1 → isum L = 2 ^ L.length - 1) := by
  obtain ⟨v1, v2⟩ := VV_low l hp
  have hn : (goS [0] L).Nodup := hl.nodup_iff.mp (hp.imp fun h e => by omega)
  have e0 : l.length = 2 ^ L.length := by
    rw [hl.length_eq, goS_len]; exact Nat.one_mul _
  have e1 : (l.length : Int) * (l.length : Int) = 4 ^ L.length := by
    rw [e0, Int.natCast_pow]
    show (2 : Int) ^ L.length * 2 ^ L.length = _
    rw [← Int.mul_pow]; rfl
  have e2 : 2 * VV l = 4 ^ L.length * isq L := by
    rw [VV_perm hl, VV_goS]
    show 4 ^ L.length * (2 * 0 + 1 * 1 * isq L) = _
    congr 1; omega
  rw [e1] at v1 v2
  have hT : 0 < (4 : Int) ^ L.length := Int.pow_pos (by decide)
  have e3 : 6 * VV l = 4 ^ L.length * (3 * isq L) := by
    have : 6 * VV l = 3 * (2 * VV l) := by omega
    rw [this, e2]
    generalize (4 : Int) ^ L.length = T
    generalize isq L = q
    grind
  rw [e3] at v1 v2
  refine ⟨Int.le_of_mul_le_mul_left v1 hT, fun h => ?_⟩
  have hmax := v2 (by rw [h])
  have m0 : (0 : Int) ∈ l := hl.mem_iff.mpr (goS_sub L [0] 0 (by simp))
  have mt : isum L ∈ l := hl.mem_iff.mpr (by have := goS_top L [0] 0 (by simp); rwa [Int.zero_add] at this)
  have := hmax 0 m0 _ mt
  have lo := tell_sum h0 hn
  have c : (l.length : Int) = (2 : Int) ^ L.length := by rw [e0, Int.natCast_pow]; rfl
  omega
end DL

set_option Elab.async false
set_option linter.all false
set_option maxRecDepth 100000
namespace DL
/-! ### the sum is least only for 1, 2, 4, .. -/
theorem all_there {n : Nat} {l : List Int} (hn : l.Nodup) (h : ∀ x ∈ l, 0 ≤ x ∧ x < (n : Int)) (hl : l.length = n) : ∀ v : Int, 0 ≤ v → v < n → v ∈ l := fun v h0 h1 => by
  by_cases q : v ∈ l
  · exact q
  · have := nodup_bound n (v :: l) (List.nodup_cons.mpr ⟨q, hn⟩) (fun x hx => by
      rcases List.mem_cons.mp hx with e | e
      · subst e; exact ⟨h0, h1⟩
      · exact h x e)
    rw [List.length_cons] at this
    omega
theorem pows_of : ∀ (L S : List Int) (b : Int), 0 < b → L.Pairwise (· < ·) → (∀ x ∈ L, 0 < x) → (goS S L).Nodup → (∀ s, s ∈ S ↔ 0 ≤ s ∧ s < b) → (∀ v : Int, 0 ≤ v → v < b * 2 ^ L.length → v ∈ goS S L) → L = pows b L.length
  | [], _, _, _, _, _, _, _, _ => rfl
  | x :: r, S, b, hb, hp, h0, hn, hS, hall => by
    obtain ⟨h1, h2⟩ := List.pairwise_cons.mp hp
    have x0 := h0 x List.mem_cons_self
    have hn' : (S ++ S.map (· + x)).Nodup := (goS_pre r _).nodup hn
    have low : b ≤ x := by
      by_cases q : b ≤ x
      · exact q
      · exfalso
        have a1 : x ∈ S := (hS x).mpr ⟨by omega, by omega⟩
        have a2 : x ∈ S.map (· + x) := List.mem_map.mpr ⟨0, (hS 0).mpr ⟨by omega, hb⟩, by omega⟩
        exact (List.nodup_append.mp hn').2.2 x a1 x a2 rfl
    have up : x ≤ b := by
      by_cases q : x ≤ b
      · exact q
      · exfalso
        have hpow : 1 < (2 : Int) ^ (r.length + 1) := by
          rw [Int.pow_succ]
          have : 0 < (2 : Int) ^ r.length := Int.pow_pos (by decide)
          omega
        have hlt : b < b * 2 ^ (r.length + 1) := by
          have := Int.mul_lt_mul_of_pos_left hpow hb
          omega
        have := hall b (by omega) hlt
        rcases goS_low (x :: r) S x (fun y hy => by
          rcases List.mem_cons.mp hy with e | e
          · omega
          · have := h1 y e; omega) (by omega) (fun s hs => ((hS s).mp hs).1) b this with z | z
        · have := (hS b).mp z; omega
        · omega
    have e : x = b := by omega
    subst e
    have ih := pows_of r (S ++ S.map (· + x)) (2 * x) (by omega) h2 (fun y hy => h0 y (List.mem_cons_of_mem _ hy)) hn (fun s => by
      rw [List.mem_append, List.mem_map]
      constructor
      · rintro (h | ⟨t, ht, e⟩)
        · have := (hS s).mp h; omega
        · have := (hS t).mp ht; omega
      · intro h
        by_cases q : s < x
        · exact .inl ((hS s).mpr ⟨h.1, q⟩)
        · exact .inr ⟨s - x, (hS _).mpr ⟨by omega, by omega⟩, by omega⟩) (fun v v0 v1 => hall v v0 (by
          show v < x * 2 ^ (r.length + 1)
          rw [Int.pow_succ]
          have : x * (2 ^ r.length * 2) = 2 * x * 2 ^ r.length := by
            generalize (2 : Int) ^ r.length = T
            grind
          omega))
    show x :: r = x :: pows (2 * x) r.length
    rw [← ih]
theorem tell_pows {L : List Int} (hp : L.Pairwise (· < ·)) (h0 : ∀ x ∈ L, 0 < x) (hn : (goS [0] L).Nodup) (hs : isum L = 2 ^ L.length - 1) : L = pows 1 L.length := by
  have hb := goS_box L [0] 0 (fun x hx => by have := h0 x hx; omega) (fun s hs => by rw [List.mem_singleton] at hs; omega)
  have c : ((2 ^ L.length : Nat) : Int) = (2 : Int) ^ L.length := by rw [Int.natCast_pow]; rfl
  have hall := all_there (n := 2 ^ L.length) hn (fun x hx => by have := hb x hx; omega) (by rw [goS_len]; exact Nat.one_mul _)
  refine pows_of L [0] 1 (by decide) hp h0 hn (fun s => ?_) (fun v v0 v1 => hall v v0 (by omega))
  rw [List.mem_singleton]
  omega
/-! 1, 2, 4, .. reach the bounds -/
theorem pows_len : ∀ (n : Nat) (b : Int), (pows b n).length = n
  | 0, _ => rfl
  | n + 1, b => congrArg (· + 1) (pows_len n (2 * b))
theorem pows_sum : ∀ (n : Nat) (b : Int), isum (pows b n) = b * (2 ^ n - 1)
  | 0, b => by show (0 : Int) = b * (2 ^ 0 - 1); simp
  | n + 1, b => by
    show b + isum (pows (2 * b) n) = _
    rw [pows_sum n, Int.pow_succ]
    generalize (2 : Int) ^ n = T
    grind
theorem pows_sq : ∀ (n : Nat) (b : Int), 3 * isq (pows b n) = b * b * (4 ^ n - 1)
  | 0, b => by show 3 * (0 : Int) = b * b * (4 ^ 0 - 1); simp
  | n + 1, b => by
    have ih := pows_sq n (2 * b)
    show 3 * (b * b + isq (pows (2 * b) n)) = _
    rw [Int.pow_succ]
    generalize (4 : Int) ^ n = T at *
    generalize isq (pows (2 * b) n) = q at *
    grind
theorem pows_rec : ∀ (n : Nat) (b : Int), recN b (pows b n) = 0
  | 0, b => by unfold recN; show ((2 : Int) ^ 0 - 1) * 1 * 2 - 2 ^ 0 * b * 0 = 0; simp
  | n + 1, b => by
    show recN b (b :: pows (2 * b) n) = 0
    rw [recN_cons, pows_rec n (2 * b), show b - b = 0 by omega]; simp
/-- all of it: what the law asks of a telling lot -/
theorem tell_all {L l : List Int} (hp : L.Pairwise (· < ·)) (h0 : ∀ x ∈ L, 0 < x) (hne : L ≠ []) (hl : l.Perm (goS [0] L)) (hlp : l.Pairwise (· < ·)) :
    (2 ^ L.length - 1 ≤ isum L ∧ (4 : Int) ^ L.length - 1 ≤ 3 * isq L ∧ 0 ≤ recN 1 L) ∧
    ((isum L = 2 ^ L.length - 1 ↔ L = pows 1 L.length) ∧ (3 * isq L = 4 ^ L.length - 1 ↔ L = pows 1 L.length) ∧ (recN 1 L = 0 ↔ L = pows 1 L.length)) := by
  have h0' : ∀ x ∈ L, 0 ≤ x := fun x hx => by have := h0 x hx; omega
  have hn : (goS [0] L).Nodup := hl.nodup_iff.mp (hlp.imp fun h e => by omega)
  obtain ⟨q1, q2⟩ := tell_sq h0' hl hlp
  have hd := tell_dom L [] h0' hn
  obtain ⟨x, r, e⟩ : ∃ x r, L = x :: r := by
    cases L with
    | nil => exact absurd rfl hne
    | cons x r => exact ⟨x, r, rfl⟩
  have hd' : dom 0 1 L := by
    have : dom (isum [] - ((2 : Int) ^ ([] : List Int).length - 1)) (2 ^ ([] : List Int).length) L := hd
    have e1 : isum [] - ((2 : Int) ^ ([] : List Int).length - 1) = 0 := by decide
    have e2 : (2 : Int) ^ ([] : List Int).length = 1 := by decide
    rw [e1, e2] at this
    exact this
  have hr : 0 ≤ recN 1 L ∧ (recN 1 L = 0 → L = pows 1 L.length) := by
    subst e
    obtain ⟨r1, r2⟩ := rec_low r x 0 1 hp h0 hd'
    rw [Int.zero_mul, Int.add_zero] at r1 r2
    exact ⟨r1, fun h => r2 h rfl⟩
  have p1 : L = pows 1 L.length → isum L = 2 ^ L.length - 1 := fun e => by
    have := pows_sum L.length 1
    rw [← e] at this; omega
  have p2 : L = pows 1 L.length → 3 * isq L = 4 ^ L.length - 1 := fun e => by
    have := pows_sq L.length 1
    rw [← e] at this; omega
  have p3 : L = pows 1 L.length → recN 1 L = 0 := fun e => by
    have := pows_rec L.length 1
    rw [← e] at this; exact this
  exact ⟨⟨tell_sum h0' hn, q1, hr.1⟩, ⟨fun h => tell_pows hp h0 hn h, p1⟩, ⟨fun h => tell_pows hp h0 hn (q2 h), p2⟩, ⟨hr.2, p3⟩⟩
end DL

set_option Elab.async false
set_option linter.all false
set_option maxRecDepth 100000
namespace DL
noncomputable section
/-! ### less known, and in a poorer room: slots that are not there -/
def EvLe : Ev → Ev → Prop
  | [], [] => True
  | s :: r, s' :: r' => (s = .non ∨ s = s') ∧ EvLe r r'
  | _, _ => False
theorem EvLe.refl : ∀ ρ : Ev, EvLe ρ ρ
  | [] => trivial
  | _ :: r => ⟨.inr rfl, EvLe.refl r⟩
theorem EvLe.at : ∀ {ρ ρ' : Ev} (i : Nat), EvLe ρ ρ' → ρ.at i = .non ∨ ρ.at i = ρ'.at i
  | [], [], _, _ => .inl rfl
  | _ :: _, _ :: _, 0, h => h.1
  | _ :: r, _ :: r', i + 1, h => EvLe.at (ρ := r) (ρ' := r') i h.2
theorem EvLe.put : ∀ {ρ ρ' : Ev} (i : Nat) (s : Sl), EvLe ρ ρ' → EvLe (ρ.put i s) (ρ'.put i s)
  | [], [], _, _, _ => trivial
  | _ :: _, _ :: _, 0, _, h => ⟨.inr rfl, h.2⟩
  | _ :: r, _ :: r', i + 1, s, h => ⟨h.1, EvLe.put (ρ := r) (ρ' := r') i s h.2⟩
theorem EvLe.lend : ∀ {ρ ρ' : Ev}, EvLe ρ ρ' → EvLe (lend ρ) (lend ρ')
  | [], [], _ => trivial
  | s :: r, s' :: r', h => by
    rcases h with ⟨h | h, t⟩
    · subst h
      cases s' <;> exact ⟨.inl rfl, EvLe.lend t⟩
    · subst h
      cases s <;> exact ⟨.inr rfl, EvLe.lend t⟩
theorem EvLe.wipe {ρ ρ' : Ev} (h : EvLe ρ ρ') : ∀ vs : List Nat, EvLe (wipeE ρ vs) (wipeE ρ' vs)
  | [] => h
  | v :: vs => (EvLe.wipe h vs).put v .non
theorem EvLe.dem {ρ ρ' : Ev} (i : Nat) (h : EvLe ρ ρ') : EvLe (dem i ρ) (dem i ρ') := by
  unfold DL.dem
  rcases h.at i with e | e
  · rw [e]
    cases e2 : ρ'.at i <;> first | exact h | skip
    rename_i d
    -- a slot that is not there
    clear e2
    have : ∀ {ρ ρ' : Ev} {i : Nat} {s : Sl}, EvLe ρ ρ' → ρ.at i = .non → EvLe ρ (ρ'.put i s) := by
      intro ρ
      induction ρ with
      | nil => intro ρ' i s h _; cases ρ' <;> first | exact h | exact h.elim
      | cons x r ih =>
        intro ρ' i s h e
        cases ρ' with
        | nil => exact h.elim
        | cons y r' =>
          cases i with
          | zero => exact ⟨.inl e, h.2⟩
          | succ i => exact ⟨h.1, ih h.2 e⟩
    exact this h e
  · rw [← e]
    cases ρ.at i <;> first | exact h | exact h.put i _
def T.leR {α β : Type} (R : α → β → Prop) : T α → T β → Prop
  | .no, _ => True
  | .ok a, .ok b => R a b
  | .pk n k, .pk n' k' => n = n' ∧ ∀ r, T.leR R (k r) (k' r)
  | _, _ => False
theorem T.leR_refl {α : Type} : ∀ m : T α, T.leR Eq m m
  | .no => trivial
  | .ok _ => rfl
  | .pk _ k => ⟨rfl, fun r => T.leR_refl (k r)⟩
theorem T.leR_of {α : Type} : ∀ {m m' : T α}, T.le m m' → T.leR Eq m m'
  | .no, _, _ => trivial
  | .ok _, .ok _, h => h
  | .pk _ _, .pk _ _, ⟨e, h⟩ => ⟨e, fun r => T.leR_of (h r)⟩
  | .ok _, .no, h => h.elim
  | .ok _, .pk _ _, h => h.elim
  | .pk _ _, .no, h => h.elim
  | .pk _ _, .ok _, h => h.elim
theorem T.leR_bind {α β γ δ : Type} {R : α → β → Prop} {S : γ → δ → Prop} {f : α → T γ} {g : β → T δ} (hf : ∀ a b, R a b → T.leR S (f a) (g b)) : ∀ {m : T α} {m' : T β}, T.leR R m m' → T.leR S (m.bind f) (m'.bind g)
  | .no, _, _ => trivial
  | .ok a, .ok b, e => hf a b e
  | .pk n k, .pk n' k', ⟨e, h⟩ => ⟨e, fun r => T.leR_bind hf (h r)⟩
  | .ok _, .no, h => h.elim
  | .ok _, .pk _ _, h => h.elim
  | .pk _ _, .no, h => h.elim
  | .pk _ _, .ok _, h => h.elim
theorem T.hb {α γ δ : Type} {S : γ → δ → Prop} {f : α → T γ} {g : α → T δ} {m m' : T α} (h : T.leR Eq m m') (hf : ∀ a, T.leR S (f a) (g a)) : T.leR S (m.bind f) (m'.bind g) := T.leR_bind (fun a b e => by subst e; exact hf a) h
theorem T.leR_wp {α β : Type} {R : α → β → Prop} {Q : α → Prop} {Q' : β → Prop} (hq : ∀ a b, R a b → Q a → Q' b) : ∀ {m : T α} {m' : T β}, T.leR R m m' → WP m Q → WP m' Q'
  | .no, _, _, w => w.elim
  | .ok a, .ok b, e, w => hq a b e w
  | .pk n k, .pk n' k', ⟨e, h⟩, w => fun r h0 h1 => T.leR_wp hq (h r) (w r h0 (e ▸ h1))
  | .ok _, .no, h, _ => h.elim
  | .ok _, .pk _ _, h, _ => h.elim
  | .pk _ _, .no, h, _ => h.elim
  | .pk _ _, .ok _, h, _ => h.elim
def ResLe : Res → Res → Prop
  | .nx ρ, .nx ρ' => EvLe ρ ρ'
  | .rt d, .rt d' => d = d'
  | _, _ => False
/-- f in the poorer room knows no more than g in the richer one -/
def HV {α : Type} (f g : Ev → T α) : Prop := ∀ ρ ρ', EvLe ρ ρ' → T.leR Eq (f ρ) (g ρ')
def HS (F G : Ev → T Res) : Prop := ∀ ρ ρ', EvLe ρ ρ' → T.leR ResLe (F ρ) (G ρ')
theorem HV.le {α : Type} {f f' g : Ev → T α} (h1 : LE f f') (h2 : HV f' g) : HV f g := fun ρ ρ' h => by
  have a := T.leR_of (h1 ρ)
  have b := h2 ρ ρ' h
  have tr : ∀ {x y z : T α}, T.leR Eq x y → T.leR Eq y z → T.leR Eq x z := by
    intro x
    induction x with
    | no => intros; trivial
    | ok a => intro y z p q; cases y <;> first | exact p.elim | skip
              cases z <;> first | exact q.elim | skip
              exact Eq.trans p q
    | pk n k ih => intro y z p q; cases y <;> first | exact p.elim | skip
                   cases z <;> first | exact q.elim | skip
                   exact ⟨p.1.trans q.1, fun r => ih r (p.2 r) (q.2 r)⟩
  exact tr a b
section
variable {f f' g g' h h' : Ev → T D} {c c' d d' : Ev → T Bool} {a a' b b' : Ev → T (List D)} {F F' G G' : Ev → T Res} {o o' u u' : Ev → T (Option Int)} {m m' : Ev → T (List Sl)} {X X' : List D → T D}
theorem htif {α β : Type} {R : α → β → Prop} {k : Bool} {x : T α} {y : T β} (e : T.leR R x y) : T.leR R (tIf k x) (tIf k y) := by cases k <;> first | exact e | trivial
theorem h_fV {i} : HV (fV i) (fV i) := fun ρ ρ' e => by
  unfold fV
  rcases e.at i with q | q
  · rw [q]; trivial
  · rw [q]; exact T.leR_refl _
theorem h_fVb {i} : HV (fVb i) (fVb i) := fun ρ ρ' e => by
  unfold fVb
  rcases e.at i with q | q
  · rw [q]; trivial
  · rw [q]; exact T.leR_refl _
theorem h_fC {d} : HV (fC d) (fC d) := fun _ _ _ => rfl
theorem h_fDn {d} : HV (fDn d) (fDn d) := fun _ _ _ => rfl
theorem h_fNil : HV fNil fNil := fun _ _ _ => rfl
theorem h_fNo : HV fNo fNo := fun _ _ _ => rfl
theorem h_fYes : HV fYes fYes := fun _ _ _ => rfl
theorem h_mNil : HV mNil mNil := fun _ _ _ => rfl
theorem h_fNx : HS fNx fNx := fun _ _ e => e
theorem h_fRetN : HS fRetN fRetN := fun _ _ _ => rfl
theorem h_fBin {fo} (h1 : HV f f') (h2 : HV g g') : HV (fBin fo f g) (fBin fo f' g') := fun ρ ρ' e => T.hb (h1 ρ ρ' e) fun _ => T.hb (h2 ρ ρ' e) fun _ => T.leR_refl _
theorem h_fUn {fo} (h1 : HV f f') : HV (fUn fo f) (fUn fo f') := fun ρ ρ' e => T.hb (h1 ρ ρ' e) fun _ => T.leR_refl _
theorem h_fTru (h1 : HV f f') : HV (fTru f) (fTru f') := fun ρ ρ' e => T.hb (h1 ρ ρ' e) fun _ => T.leR_refl _
theorem h_fTb (h1 : HV f f') : HV (fTb f) (fTb f') := fun ρ ρ' e => T.hb (h1 ρ ρ' e) fun _ => T.leR_refl _
theorem h_fAnd (h1 : HV c c') (h2 : HV d d') : HV (fAnd c d) (fAnd c' d') := fun ρ ρ' e => T.hb (h1 ρ ρ' e) fun k => by cases k <;> first | exact h2 ρ ρ' e | exact T.leR_refl _
theorem h_fOr (h1 : HV c c') (h2 : HV d d') : HV (fOr c d) (fOr c' d') := fun ρ ρ' e => T.hb (h1 ρ ρ' e) fun k => by cases k <;> first | exact h2 ρ ρ' e | exact T.leR_refl _
theorem h_fNot (h1 : HV c c') : HV (fNot c) (fNot c') := fun ρ ρ' e => T.hb (h1 ρ ρ' e) fun _ => T.leR_refl _
theorem h_fAndV (h1 : HV f f') (h2 : HV g g') : HV (fAndV f g) (fAndV f' g') := fun ρ ρ' e => T.hb (h1 ρ ρ' e) fun _ => T.hb (T.leR_refl _) fun k => by cases k <;> first | exact h2 ρ ρ' e | exact T.leR_refl _
theorem h_fOrV (h1 : HV f f') (h2 : HV g g') : HV (fOrV f g) (fOrV f' g') := fun ρ ρ' e => T.hb (h1 ρ ρ' e) fun _ => T.hb (T.leR_refl _) fun k => by cases k <;> first | exact h2 ρ ρ' e | exact T.leR_refl _
theorem h_fNotV (h1 : HV f f') : HV (fNotV f) (fNotV f') := fun ρ ρ' e => T.hb (h1 ρ ρ' e) fun _ => T.leR_refl _
theorem h_fIf (h0 : HV c c') (h1 : HV f f') (h2 : HV g g') : HV (fIf c f g) (fIf c' f' g') := fun ρ ρ' e => T.hb (h0 ρ ρ' e) fun k => by cases k <;> first | exact h2 ρ ρ' e | exact h1 ρ ρ' e
theorem h_fChain {fo fo'} (h1 : HV f f') (h2 : HV g g') (h3 : HV h h') : HV (fChain fo fo' f g h) (fChain fo fo' f' g' h') := fun ρ ρ' e => T.hb (h1 ρ ρ' e) fun _ => T.hb (h2 ρ ρ' e) fun _ => T.hb (T.leR_refl _) fun _ => T.hb (T.leR_refl _) fun k => by
  cases k
  · exact T.leR_refl _
  · exact T.hb (h3 ρ ρ' e) fun _ => T.leR_refl _
theorem h_fSo (h1 : HV f f') : HV (fSo f) (fSo f') := fun ρ ρ' e => T.hb (h1 ρ ρ' e) fun _ => T.leR_refl _
theorem h_fSl (h1 : HV f f') (h2 : HV o o') (h3 : HV u u') : HV (fSl f o u) (fSl f' o' u') := fun ρ ρ' e => T.hb (h1 ρ ρ' e) fun _ => T.hb (h2 ρ ρ' e) fun _ => T.hb (h3 ρ ρ' e) fun _ => T.leR_refl _
theorem h_fCons (h1 : HV f f') (h2 : HV a a') : HV (fCons f a) (fCons f' a') := fun ρ ρ' e => T.hb (h1 ρ ρ' e) fun _ => T.hb (h2 ρ ρ' e) fun _ => T.leR_refl _
theorem h_fTup (h1 : HV a a') : HV (fTup a) (fTup a') := fun ρ ρ' e => T.hb (h1 ρ ρ' e) fun _ => T.leR_refl _
theorem h_fLst (h1 : HV a a') : HV (fLst a) (fLst a') := fun ρ ρ' e => T.hb (h1 ρ ρ' e) fun _ => T.leR_refl _
theorem h_fFn {fo} (h1 : HV a a') : HV (fFn fo a) (fFn fo a') := fun ρ ρ' e => T.hb (h1 ρ ρ' e) fun _ => T.leR_refl _
theorem h_fRgT (h1 : HV a a') : HV (fRgT a) (fRgT a') := fun ρ ρ' e => T.hb (h1 ρ ρ' e) fun _ => T.leR_refl _
theorem h_fRgL (h1 : HV a a') : HV (fRgL a) (fRgL a') := fun ρ ρ' e => T.hb (h1 ρ ρ' e) fun _ => T.leR_refl _
theorem h_fCall {n} (h0 : LE X X') (h1 : HV a a') : HV (fCall n X a) (fCall n X' a') := fun ρ ρ' e => T.hb (h1 ρ ρ' e) fun ds => htif (T.leR_of (h0 ds))
theorem h_fCallB {n} (h0 : LE X X') (h1 : HV a a') : HV (fCallB n X a) (fCallB n X' a') := fun ρ ρ' e => T.hb (h1 ρ ρ' e) fun ds => htif (T.hb (T.leR_of (h0 ds)) fun _ => T.leR_refl _)
theorem h_fParts (h1 : HV f f') : HV (fParts f) (fParts f') := fun ρ ρ' e => T.hb (h1 ρ ρ' e) fun _ => T.leR_refl _
theorem h_fRng1 (h1 : HV a a') : HV (fRng1 a) (fRng1 a') := fun ρ ρ' e => T.hb (h1 ρ ρ' e) fun _ => T.leR_refl _
theorem h_fRng2 (h1 : HV a a') : HV (fRng2 a) (fRng2 a') := fun ρ ρ' e => T.hb (h1 ρ ρ' e) fun _ => T.leR_refl _
theorem h_fRng3 (h1 : HV a a') : HV (fRng3 a) (fRng3 a') := fun ρ ρ' e => T.hb (h1 ρ ρ' e) fun _ => T.leR_refl _
theorem h_fEn (h1 : HV a a') : HV (fEn a) (fEn a') := fun ρ ρ' e => T.hb (h1 ρ ρ' e) fun _ => T.leR_refl _
theorem h_fZp (h1 : HV a a') : HV (fZp a) (fZp a') := fun ρ ρ' e => T.hb (h1 ρ ρ' e) fun _ => T.leR_refl _
theorem h_fGet2 (h1 : HV f f') (h2 : HV g g') (h3 : HV h h') : HV (fGet2 f g h) (fGet2 f' g' h') := fun ρ ρ' e => T.hb (h1 ρ ρ' e) fun _ => T.hb (h2 ρ ρ' e) fun _ => T.hb (h3 ρ ρ' e) fun _ => T.leR_refl _
theorem h_fGet1 (h1 : HV f f') (h2 : HV g g') : HV (fGet1 f g) (fGet1 f' g') := fun ρ ρ' e => T.hb (h1 ρ ρ' e) fun _ => T.hb (h2 ρ ρ' e) fun _ => T.leR_refl _
theorem h_dctSh {i} : HV (dctSh i) (dctSh i) := fun ρ ρ' e => by
  unfold dctSh
  rcases e.at i with q | q
  · rw [q]; trivial
  · rw [q]; exact T.leR_refl _
theorem h_dctAt {i} : HV (dctAt i) (dctAt i) := fun ρ ρ' e => by
  unfold dctAt
  rcases e.at i with q | q
  · rw [q]; trivial
  · rw [q]; exact T.leR_refl _
theorem h_fDc {i g} : HV (fDc i g) (fDc i g) := fun ρ ρ' e => T.hb (h_dctSh ρ ρ' e) fun _ => T.leR_refl _
theorem h_fKeysF {i} : HV (fKeysF i) (fKeysF i) := fun ρ ρ' e => T.hb (h_dctSh ρ ρ' e) fun _ => T.leR_refl _
theorem h_fItems {i} : HV (fItems i) (fItems i) := fun ρ ρ' e => T.hb (h_dctSh ρ ρ' e) fun _ => T.leR_refl _
theorem h_fKeys {i} : HV (fKeys i) (fKeys i) := fun ρ ρ' e => T.hb (h_dctAt ρ ρ' e) fun _ => T.leR_refl _
theorem h_fDispT (h1 : HV f f') (h2 : HV g g') : HV (fDispT f g) (fDispT f' g') := fun ρ ρ' e => T.hb (h1 ρ ρ' e) fun _ => T.hb (h2 ρ ρ' e) fun _ => T.leR_refl _
theorem h_fIsi {t} (h1 : HV f f') : HV (fIsi t f) (fIsi t f') := fun ρ ρ' e => T.hb (h1 ρ ρ' e) fun _ => T.leR_refl _
theorem h_fSta (h1 : HV f f') (h2 : HV a a') : HV (fSta f a) (fSta f' a') := fun ρ ρ' e => T.hb (h1 ρ ρ' e) fun d => by cases partsOf d <;> first | exact trivial | exact T.hb (h2 ρ ρ' e) fun _ => T.leR_refl _
theorem h_prsN : HV (fPrs []) (fPrs []) := fun _ _ _ => rfl
theorem h_prs {ps ps' : List ((Ev → T D) × (Ev → T D))} (h1 : HV f f') (h2 : HV g g') (h3 : HV (fPrs ps) (fPrs ps')) : HV (fPrs ((f, g) :: ps)) (fPrs ((f', g') :: ps')) := fun ρ ρ' e => T.hb (h1 ρ ρ' e) fun _ => T.hb (h2 ρ ρ' e) fun _ => T.hb (h3 ρ ρ' e) fun _ => T.leR_refl _
theorem h_fDisp {ps ps' : List ((Ev → T D) × (Ev → T D))} (h1 : HV (fPrs ps) (fPrs ps')) : HV (fDisp ps) (fDisp ps') := fun ρ ρ' e => T.hb (h1 ρ ρ' e) fun _ => T.leR_refl _
mutual
theorem h_bindP {ρ ρ' : Ev} (e : EvLe ρ ρ') : ∀ (p : Pat) (d : D), T.leR EvLe (bindP p d ρ) (bindP p d ρ')
  | .v i, d => by unfold bindP; exact e.put i _
  | .t ps, d => by
    cases d <;> unfold bindP <;> first | exact h_bindPs ps _ e | trivial
theorem h_bindPs : ∀ (ps : List Pat) (ds : List D) {ρ ρ' : Ev}, EvLe ρ ρ' → T.leR EvLe (bindPs ps ds ρ) (bindPs ps ds ρ')
  | [], ds, ρ, ρ', e => by
    cases ds <;> unfold bindPs <;> first | exact e | trivial
  | p :: ps, ds, ρ, ρ', e => by
    cases ds <;> unfold bindPs
    · trivial
    · exact T.leR_bind (fun _ _ e2 => h_bindPs ps _ e2) (h_bindP e p _)
end
theorem h_mapC {p : Pat} (h1 : HV c c') (h2 : HV f f') {ρ ρ' : Ev} (e : EvLe ρ ρ') : ∀ ds : List D, T.leR Eq (mapC p c f ρ ds) (mapC p c' f' ρ' ds)
  | [] => rfl
  | d :: ds => T.leR_bind (fun ρ1 ρ2 e1 => T.hb (h1 ρ1 ρ2 e1) fun k => by
      cases k
      · exact h_mapC h1 h2 e ds
      · exact T.hb (h2 ρ1 ρ2 e1) fun _ => T.hb (h_mapC h1 h2 e ds) fun _ => rfl) (h_bindP e p d)
theorem h_fLc {vs p} (h0 : HV a a') (h1 : HV c c') (h2 : HV f f') : HV (fLc vs a p c f) (fLc vs a' p c' f') := fun ρ ρ' e => T.hb (h0 ρ ρ' e) fun ds => htif (T.hb (h_mapC h1 h2 (e.lend.wipe vs) ds) fun _ => rfl)
theorem resB {F G : Ev → T Res} (h : HS F G) : ∀ r r', ResLe r r' → T.leR ResLe (match r with | .nx ρ' => F ρ' | .rt d => T.ok (Res.rt d)) (match r' with | .nx ρ' => G ρ' | .rt d => T.ok (Res.rt d))
  | .nx ρ, .nx ρ', e => h ρ ρ' e
  | .rt _, .rt _, e => e
  | .nx _, .rt _, e => e.elim
  | .rt _, .nx _, e => e.elim
theorem h_fSeq (h1 : HS F F') (h2 : HS G G') : HS (fSeq F G) (fSeq F' G') := fun ρ ρ' e => T.leR_bind (fun r r' q => resB h2 r r' q) (h1 ρ ρ' e)
theorem h_fRet (h1 : HV f f') : HS (fRet f) (fRet f') := fun ρ ρ' e => T.hb (h1 ρ ρ' e) fun _ => rfl
theorem h_fDrop (h1 : HV f f') : HS (fDrop f) (fDrop f') := fun ρ ρ' e => T.hb (h1 ρ ρ' e) fun _ => e
theorem h_fIfS (h0 : HV c c') (h1 : HS F F') (h2 : HS G G') : HS (fIfS c F G) (fIfS c' F' G') := fun ρ ρ' e => T.hb (h0 ρ ρ' e) fun k => by cases k <;> first | exact h2 ρ ρ' e | exact h1 ρ ρ' e
theorem h_fSet {i} (h1 : HV f f') : HS (fSet i f) (fSet i f') := fun ρ ρ' e => T.hb (h1 ρ ρ' e) fun _ => e.put i _
theorem h_fSetF {i} (h1 : HV f f') : HS (fSetF i f) (fSetF i f') := fun ρ ρ' e => T.hb (h1 ρ ρ' e) fun _ => e.put i _
theorem h_mSh (h1 : HV f f') (h2 : HV m m') : HV (mSh f m) (mSh f' m') := fun ρ ρ' e => T.hb (h1 ρ ρ' e) fun _ => T.hb (h2 ρ ρ' e) fun _ => rfl
theorem h_mOw (h1 : HV f f') (h2 : HV m m') : HV (mOw f m) (mOw f' m') := fun ρ ρ' e => T.hb (h1 ρ ρ' e) fun _ => T.hb (h2 ρ ρ' e) fun _ => rfl
theorem h_putAll : ∀ (is : List Nat) (ss : List Sl) {ρ ρ' : Ev}, EvLe ρ ρ' → EvLe (putAll ρ is ss) (putAll ρ' is ss)
  | [], ss, ρ, ρ', e => by cases ss <;> exact e
  | i :: is, ss, ρ, ρ', e => by
    cases ss with
    | nil => exact e
    | cons s ss => exact h_putAll is ss (e.put i s)
theorem h_fParM {is} (h2 : HV m m') : HS (fParM is m) (fParM is m') := fun ρ ρ' e => T.hb (h2 ρ ρ' e) fun ss => htif (h_putAll is ss e)
theorem h_fAsg {p} (h1 : HV f f') : HS (fAsg f p) (fAsg f' p) := fun ρ ρ' e => T.hb (h1 ρ ρ' e) fun d => T.leR_bind (fun _ _ e => e) (h_bindP e p d)
theorem h_fDem {i} (h1 : HS F F') : HS (fDem i F) (fDem i F') := fun ρ ρ' e => h1 _ _ (e.dem i)
theorem h_fMut {i mm} (h1 : HV f f') : HS (fMut i mm f) (fMut i mm f') := fun ρ ρ' e => by
  unfold fMut
  rcases e.at i with q | q
  · rw [q]; trivial
  · rw [q]
    cases ρ'.at i <;> first | trivial | exact T.hb (h1 ρ ρ' e) fun _ => T.hb (T.leR_refl _) fun _ => e.put i _
theorem h_fPut {i} (h1 : HV f f') (h2 : HV g g') : HS (fPut i f g) (fPut i f' g') := fun ρ ρ' e => by
  unfold fPut
  rcases e.at i with q | q
  · rw [q]; trivial
  · rw [q]
    cases ρ'.at i <;> first | trivial | exact T.hb (h2 ρ ρ' e) fun _ => T.hb (h1 ρ ρ' e) fun _ => T.hb (T.leR_refl _) fun _ => e.put i _
theorem h_while (h0 : HV c c') (h1 : HS F F') : ∀ (n : Nat), HS (whileT c F n) (whileT c' F' n)
  | 0 => fun _ _ _ => trivial
  | n + 1 => fun ρ ρ' e => T.hb (h0 ρ ρ' e) fun k => by
      cases k
      · exact e
      · exact T.leR_bind (fun r r' q => resB (h_while h0 h1 n) r r' q) (h1 ρ ρ' e)
theorem h_fWhile {n} (h0 : HV c c') (h1 : HS F F') : HS (fWhile n c F) (fWhile n c' F') := h_while h0 h1 n
theorem h_foldB {p} (h1 : HS F F') : ∀ (ds : List D), HS (foldB p F ds) (foldB p F' ds)
  | [] => fun _ _ e => e
  | d :: ds => fun ρ ρ' e => T.leR_bind (fun ρ1 ρ2 e1 => T.leR_bind (fun r r' q => resB (h_foldB h1 ds) r r' q) (h1 ρ1 ρ2 e1)) (h_bindP e p d)
theorem h_fFor {p} (h0 : HV a a') (h1 : HS F F') : HS (fFor a p F) (fFor a' p F') := fun ρ ρ' e => T.hb (h0 ρ ρ' e) fun ds => h_foldB h1 ds ρ ρ' e
end
/-! ### stages -/
/-- a room that holds at least what the poorer one holds, decided where the slots are plain ones -/
def slB : Sl → Sl → Bool
  | .non, _ => true
  | .sh d, .sh e => D.beq d e
  | _, _ => false
def evB : Ev → Ev → Bool
  | [], [] => true
  | s :: r, s' :: r' => match slB s s' with
    | true => evB r r'
    | false => false
  | _, _ => false
theorem evB_w : ∀ {ρ ρ' : Ev}, evB ρ ρ' = true → EvLe ρ ρ'
  | [], [], _ => trivial
  | [], _ :: _, h => nomatch h
  | _ :: _, [], h => nomatch h
  | s :: r, s' :: r', h => by
    unfold evB at h
    cases e : slB s s'
    · rw [e] at h; cases h
    · rw [e] at h
      refine ⟨?_, evB_w h⟩
      cases s with
      | non => exact .inl rfl
      | sh d =>
        cases s' with
        | sh d' => exact .inr (congrArg Sl.sh (D.beq_eq e))
        | _ => cases e
      | _ => cases s' <;> cases e
def nxB (t : Ev) : Res → Bool
  | .nx ρ => evB t ρ
  | .rt _ => false
/-- F's first part leads into a room that the second part ends well in -/
theorem stage {F G : Ev → T Res} {t ρ : Ev} (h1 : WP (F ρ) fun r => nxB t r = true) (hG : HS G G) (h2 : WP (G t) fun r => isT r = true) : WP (fSeq F G ρ) fun r => isT r = true := by
  have wb : ∀ {α β : Type} {m : T α} {f : α → T β} {Q : β → Prop}, WP m (fun a => WP (f a) Q) → WP (m.bind f) Q := by
    intro α β m f Q h
    induction m with
    | ok a => exact h
    | no => exact h.elim
    | pk n k ih => exact fun r a b => ih r (h r a b)
  refine wb (h1.mono fun r hr => ?_)
  cases r with
  | nx ρ' => exact T.leR_wp (R := ResLe) (fun a b e q => by
      cases a with
      | nx _ => cases q
      | rt d => cases b with
        | nx _ => exact e.elim
        | rt d' => exact (show d = d' from e) ▸ q) (hG t ρ' (evB_w hr)) h2
  | rt d => cases hr
theorem isT_le {G G' : Ev → T Res} {t ρ : Ev} (h : HS G G') (e : EvLe t ρ) (w : WP (G t) fun r => isT r = true) : WP (G' ρ) fun r => isT r = true := T.leR_wp (R := ResLe) (fun a b e q => by
      cases a with
      | nx _ => cases q
      | rt d => cases b with
        | nx _ => exact e.elim
        | rt d' => exact (show d = d' from e) ▸ q) (h t ρ e) w
theorem EvLe.trans : ∀ {a b c : Ev}, EvLe a b → EvLe b c → EvLe a c := by
  intro a
  induction a with
  | nil => intro b c h1 h2; cases b <;> first | exact h2 | exact h1.elim
  | cons x r ih =>
    intro b c h1 h2
    cases b with
    | nil => exact h1.elim
    | cons y r2 => cases c with
      | nil => exact h2.elim
      | cons z r3 =>
        refine ⟨?_, ih h1.2 h2.2⟩
        rcases h1.1 with p | p
        · exact .inl p
        · rw [p]; exact h2.1
theorem nx_le {G G' : Ev → T Res} {t u ρ : Ev} (h : HS G G') (e : EvLe t ρ) (w : WP (G t) fun r => nxB u r = true) : WP (G' ρ) fun r => ∃ ρ', r = .nx ρ' ∧ EvLe u ρ' := T.leR_wp (R := ResLe) (fun a b e q => by
      cases a with
      | rt _ => cases q
      | nx d => cases b with
        | rt _ => exact e.elim
        | nx d' =>
          exact ⟨d', rfl, (evB_w q).trans e⟩) (h t ρ e) w
end
end DL

set_option Elab.async false
set_option linter.all false
set_option maxRecDepth 100000
namespace DL
noncomputable section
/-! ### pieces of a body, one after the other -/
theorem T.bind_assoc {α β γ : Type} (m : T α) (f : α → T β) (g : β → T γ) : (m.bind f).bind g = m.bind fun a => (f a).bind g := by
  induction m with
  | ok a => rfl
  | no => rfl
  | pk n k ih => exact congrArg (T.pk n) (funext fun r => ih r)
theorem fSeq_assoc (F G K : Ev → T Res) : fSeq F (fSeq G K) = fSeq (fSeq F G) K := by
  funext ρ
  show (F ρ).bind _ = ((F ρ).bind _).bind _
  rw [T.bind_assoc]
  congr 1
  funext r
  cases r <;> rfl
/-- F ends well from the room ρ (a structure: Lean must not unfold it) -/
structure OkT (F : Ev → T Res) (ρ : Ev) : Prop where
  run : WP (F ρ) fun r => isT r = true
/-- F leads from ρ into a room that holds u -/
structure OkR (F : Ev → T Res) (ρ u : Ev) : Prop where
  run : WP (F ρ) fun r => ∃ ρ', r = .nx ρ' ∧ EvLe u ρ'
def anyB (L : List Ev) (r : Res) : Bool := L.any fun t => nxB t r
theorem stageL {F F' G G' : Ev → T Res} {L : List Ev} {ρ : Ev} (hF : HS F' F) (hG : HS G' G) (h1 : T.chk (anyB L) (F' ρ) = true) (h2 : ∀ t ∈ L, OkT G' t) : OkT (fSeq F G) ρ := by
  refine ⟨?_⟩
  have h1 := T.chk_w h1
  have wb : ∀ {α β : Type} {m : T α} {f : α → T β} {Q : β → Prop}, WP m (fun a => WP (f a) Q) → WP (m.bind f) Q := by
    intro α β m f Q h
    induction m with
    | ok a => exact h
    | no => exact h.elim
    | pk n k ih => exact fun r a b => ih r (h r a b)
  have h3 : WP (F ρ) fun r => ∃ t ∈ L, ∃ ρ', r = .nx ρ' ∧ EvLe t ρ' := T.leR_wp (R := ResLe) (fun a b e q => by
    obtain ⟨t, ht, hq⟩ := List.any_eq_true.mp q
    cases a with
    | rt _ => cases hq
    | nx d => cases b with
      | rt _ => exact e.elim
      | nx d' => exact ⟨t, ht, d', rfl, (evB_w hq).trans e⟩) (hF ρ ρ (EvLe.refl ρ)) h1
  refine wb (h3.mono fun r ⟨t, ht, ρ', er, le⟩ => ?_)
  subst er
  exact isT_le hG le (h2 t ht).run
theorem wp_bind {α β : Type} {m : T α} {f : α → T β} {Q : β → Prop} (h : WP m fun a => WP (f a) Q) : WP (m.bind f) Q := by
  induction m with
  | ok a => exact h
  | no => exact h.elim
  | pk n k ih => exact fun r a b => ih r (h r a b)
/-- a loop whose turns all lead from one room into the same -/
theorem loop_room {t0 : Ev} {p : Pat} {body body' : Ev → T Res} (hb : HS body' body) : ∀ (ds : List D) (ρ : Ev), EvLe t0 ρ → (ds.all fun d => T.chk (nxB t0) ((bindP p d t0).bind body')) = true →
    WP (foldB p body ds ρ) fun r => ∃ ρ', r = .nx ρ' ∧ EvLe t0 ρ'
  | [], ρ, h, _ => ⟨ρ, rfl, h⟩
  | d :: ds, ρ, h, hc => by
    rw [List.all_cons, Bool.and_eq_true] at hc
    have e : foldB p body (d :: ds) ρ = ((bindP p d ρ).bind body).bind fun r => match r with
      | .nx ρ' => foldB p body ds ρ'
      | .rt d => .ok (.rt d) := by
      show (bindP p d ρ).bind _ = _
      rw [T.bind_assoc]
      try rfl
    rw [e]
    have key : T.leR ResLe ((bindP p d t0).bind body') ((bindP p d ρ).bind body) := T.leR_bind (fun a b q => hb a b q) (h_bindP h p d)
    refine wp_bind ((T.leR_wp (R := ResLe) (Q := fun r => nxB t0 r = true) (Q' := fun r => ∃ ρ', r = .nx ρ' ∧ EvLe t0 ρ') (fun a b e q => ?_) key (T.chk_w hc.1)).mono fun r ⟨ρ', er, le⟩ => ?_)
    · cases a with
      | rt _ => cases q
      | nx d => cases b with
        | rt _ => exact e.elim
        | nx d' => exact ⟨d', rfl, (evB_w q).trans e⟩
    · subst er
      exact loop_room hb ds ρ' le hc.2
theorem loop_roomI {t0 : Ev} {i : Nat} {body body' : Ev → T Res} (hb : HS body' body) (xs : List Int) (ρ : Ev) (h : EvLe t0 ρ) (hc : (xs.all fun s => T.chk (nxB t0) (body' (t0.put i (.sh (.int s))))) = true) :
    WP (foldB (.v i) body (IL xs) ρ) fun r => ∃ ρ', r = .nx ρ' ∧ EvLe t0 ρ' := loop_room hb (IL xs) ρ h (by
  unfold IL
  rw [List.all_map]
  exact hc)
theorem HV.ok {α : Type} {f g : Ev → T α} (h : HV f g) {t ρ : Ev} (e : EvLe t ρ) {a : α} (q : f t = .ok a) : g ρ = .ok a := by
  have := h t ρ e
  rw [q] at this
  cases hq : g ρ with
  | ok b => rw [hq] at this; exact congrArg T.ok (show a = b from this).symm
  | no => rw [hq] at this; exact this.elim
  | pk _ _ => rw [hq] at this; exact this.elim
def rngB (m : T (List D)) (xs : List Int) : Bool := match m with
  | .ok ds => D.beqs ds (IL xs)
  | _ => false
theorem rngB_w {m : T (List D)} {xs : List Int} (h : rngB m xs = true) : m = .ok (IL xs) := by
  cases m with
  | ok ds => exact congrArg T.ok (D.beqs_eq h)
  | no => cases h
  | pk _ _ => cases h
/-- a draw, and what is made of it; then a loop over ints in the room that it leads to, which is left as it was -/
theorem draw_loop {p1 p1' pB body body' : Ev → T Res} {rng : Ev → T (List D)} {i N : Nat} {ρ u : Ev} (hN : 0 < N) (hB : pB = fFor rng (.v i) body) (h1 : HS p1' p1) (hb : HS body' body) (hv : HV rng rng) (hpk : T.isPk (N : Nat) (p1' ρ) = true)
    (hk : ∀ k : Nat, k < N → ∃ t0 xs, T.chk (nxB t0) (T.at (p1' ρ) (k : Nat)) = true ∧ rng t0 = .ok (IL xs) ∧ (xs.all fun s => T.chk (nxB t0) (body' (t0.put i (.sh (.int s))))) = true ∧ evB u t0 = true) : OkR (fSeq p1 pB) ρ u := by
  refine ⟨?_⟩
  have h : WP (p1' ρ) fun r => ∃ t0 xs, nxB t0 r = true ∧ rng t0 = .ok (IL xs) ∧ (xs.all fun s => T.chk (nxB t0) (body' (t0.put i (.sh (.int s))))) = true ∧ evB u t0 = true :=
    T.pk_list hpk hN fun r hr => by
      obtain ⟨t0, xs, c1, c⟩ := hk r hr
      exact (T.chk_w c1).mono fun a ha => ⟨t0, xs, ha, c⟩
  have h' : WP (p1 ρ) fun r => ∃ t0 xs ρ', r = .nx ρ' ∧ EvLe t0 ρ' ∧ rng t0 = .ok (IL xs) ∧ (xs.all fun s => T.chk (nxB t0) (body' (t0.put i (.sh (.int s))))) = true ∧ evB u t0 = true :=
    T.leR_wp (R := ResLe) (fun a b e ⟨t0, xs, q, c⟩ => by
      cases a with
      | rt _ => cases q
      | nx d => cases b with
        | rt _ => exact e.elim
        | nx d' => exact ⟨t0, xs, d', rfl, (evB_w q).trans e, c⟩) (h1 ρ ρ (EvLe.refl ρ)) h
  refine wp_bind (h'.mono fun r ⟨t0, xs, ρ', er, le, c2, c3, c4⟩ => ?_)
  subst er
  show WP (pB ρ') _
  rw [hB]
  refine wp_bind (m := rng ρ') ?_
  rw [hv.ok le c2]
  exact (loop_roomI hb xs ρ' le c3).mono fun r ⟨ρ2, er2, le2⟩ => ⟨ρ2, er2, (evB_w c4).trans le2⟩
/-- then the rest -/
theorem then_rest {A K : Ev → T Res} {ρ u : Ev} (hA : OkR A ρ u) (hK : HS K K) (h : OkT K u) : OkT (fSeq A K) ρ := by
  refine ⟨wp_bind (hA.run.mono fun r ⟨ρ', er, le⟩ => ?_)⟩
  subst er
  exact isT_le hK le h.run
end
end DL

set_option Elab.async false
set_option linter.all false
set_option maxRecDepth 100000
namespace DL
noncomputable section
open PySem PySem.Spec PyProof.Rows L2
theorem bok {α β : Type} {a : α} {f : α → T β} : (T.ok a).bind f = f a := rfl
theorem lg {a : Int} {e : Nat} (h0 : 0 ≤ a) (h : a < 2 ^ e) : a.natAbs.log2 ≤ e := by
  by_cases z : a.natAbs = 0
  · rw [z]; exact Nat.le_trans (by decide : Nat.log2 0 ≤ 0) (Nat.zero_le _)
  · refine Nat.le_of_lt ((Nat.log2_lt z).mpr ?_)
    have c : ((2 ^ e : Nat) : Int) = (2 : Int) ^ e := by rw [Int.natCast_pow]; rfl
    omega
def Good (L : List Int) : Prop := L.Pairwise (· < ·) ∧ (∀ x ∈ L, 0 < x ∧ x < 1024) ∧ L ≠ [] ∧ L.length ≤ 9
theorem ten10 : (2 : Int) ^ 10 = 1024 := by decide
theorem lg10 {x : Int} (h : 0 < x ∧ x < 1024) : x.natAbs.log2 ≤ 10 := lg (e := 10) (by omega) (by rw [ten10]; exact h.2)
theorem mulOk_of {a x : Int} {e : Nat} (h0 : 0 ≤ a) (h : a < 2 ^ e) (he : e ≤ 900) (hx : 0 < x ∧ x < 1024) : mulOk a x = true := by
  have h1 := lg h0 h
  have h2 := lg10 hx
  unfold mulOk
  exact nblt.mpr (by omega)
theorem sum_IL (L : List Int) : dSum (.lst (IL L)) = .ok (.int (isum L)) := by
  unfold dSum ofInts
  show (match intsD (IL L) with | some ns => T.ok (D.int (isum ns)) | none => .no) = _
  rw [intsD_IL]
theorem sum_TL (L : List Int) : dSum (.tup (IL L)) = .ok (.int (isum L)) := by
  unfold dSum ofInts
  show (match intsD (IL L) with | some ns => T.ok (D.int (isum ns)) | none => .no) = _
  rw [intsD_IL]
abbrev powersB : Ev → T Res := (fRet (fAndV (fBin dNe (fVb 0) (fTup fNil)) (fAndV (fBin dEq (fBin dItem (fVb 0) (fC (.int 0))) (fC (.int 1))) (fFn (on1 dAll) (fCons (fLc [1, 2] (fZp (fCons (fVb 0) (fCons (fSl (fVb 0) (fSo (fC (.int 1))) fNo) fNil))) (.t [(.v 1), (.v 2)]) fYes (fBin dEq (fVb 2) (fBin dMul (fC (.int 2)) (fVb 1)))) fNil)))))
abbrev pairD (p : Int × Int) : D := .tup [.int p.1, .int p.2]
theorem mapC_pair {i j : Nat} {e : Ev → T D} {ρ : Ev} {g : Int × Int → D} : ∀ {l : List (Int × Int)}, (∀ p ∈ l, e ((ρ.put i (.sh (.int p.1))).put j (.sh (.int p.2))) = .ok (g p)) → mapC (.t [.v i, .v j]) fYes e ρ (l.map pairD) = .ok (l.map g)
  | [], _ => rfl
  | a :: r, h => by
    show ((e ((ρ.put i (.sh (.int a.1))).put j (.sh (.int a.2)))).bind fun y => (mapC (.t [.v i, .v j]) fYes e ρ (r.map pairD)).bind fun ys => T.ok (y :: ys)) = _
    rw [h a List.mem_cons_self, mapC_pair fun b hb => h b (List.mem_cons_of_mem _ hb)]; rfl
theorem zp_IL : ∀ (l m : List Int), zpD (IL l) (IL m) = (l.zip m).map pairD
  | [], m => rfl
  | _ :: _, [] => rfl
  | a :: l, b :: m => by
    show D.tup [.int a, .int b] :: zpD (IL l) (IL m) = _
    rw [zp_IL l m]; rfl
abbrev dblP (p : Int × Int) : Bool := ieq p.2 (2 * p.1)
theorem dbl_pows : ∀ (r : List Int) (x : Int), ((x :: r).zip r).all dblP = decide (x :: r = pows x (r.length + 1))
  | [], x => (decide_eq_true (show [x] = pows x 1 from rfl)).symm
  | y :: r, x => by
    show (ieq y (2 * x) && ((y :: r).zip r).all dblP) = decide (x :: y :: r = x :: pows (2 * x) (r.length + 1))
    rw [dbl_pows r y, ieq_eq]
    by_cases q : y = 2 * x
    · rw [decide_eq_true q, ← q, Bool.true_and]
      exact decide_eq_decide.mpr ⟨fun h => by rw [← h], fun h => (List.cons.inj h).2⟩
    · rw [decide_eq_false q, Bool.false_and]
      symm
      refine decide_eq_false fun h => q ?_
      have := (List.cons.inj h).2
      exact (List.cons.inj this).1
abbrev pw (L : List Int) : Bool := decide (L = pows 1 L.length)
theorem pw_cons (x : Int) (r : List Int) : (ieq x 1 && ((x :: r).zip r).all dblP) = pw (x :: r) := by
  rw [dbl_pows, ieq_eq]
  by_cases q : x = 1
  · rw [decide_eq_true q, q, Bool.true_and]; rfl
  · rw [decide_eq_false q, Bool.false_and]
    symm
    exact decide_eq_false fun h => q (List.cons.inj h).1
theorem cut_IL (x : Int) (r : List Int) : DL.cutD (IL (x :: r)) (some 1) none = IL r := by
  unfold DL.cutD
  have e1 : HT.sIx (IL (x :: r)).length 0 (some 1) = 1 := by
    have : (IL (x :: r)).length = r.length + 1 := by rw [List.length_map]; rfl
    rw [this]
    simp [HT.sIx]
    try omega
  have e2 : HT.sIx (IL (x :: r)).length (IL (x :: r)).length none = (IL (x :: r)).length := rfl
  rw [e1, e2]
  show (IL r).take _ = _
  refine List.take_of_length_le ?_
  rw [List.length_map, List.length_map]
  show r.length ≤ r.length + 1 - 1
  omega
theorem pl_TL (L : List Int) : pl 60 (.tup (IL L)) = true := pls_IL 59 L
theorem powers_is {L : List Int} (hg : Good L) : defF 2 powersB [.tup (IL L)] = .ok (.bl (pw L)) := by
  obtain ⟨_, hx, hne, hl⟩ := hg
  cases L with
  | nil => exact absurd rfl hne
  | cons x r =>
    have e1 : (fBin dNe (fVb 0) (fTup fNil)) [.sh (.tup (IL (x :: r))), .non, .non] = .ok (.bl true) := by
      show tIf (pl 60 (.tup (IL (x :: r))) && true) (T.ok (D.bl true)) = _
      rw [pl_TL]; rfl
    have e2 : (fBin dEq (fBin dItem (fVb 0) (fC (.int 0))) (fC (.int 1))) [.sh (.tup (IL (x :: r))), .non, .non] = .ok (.bl (ieq x 1)) := by
      have a := at_IL (S := x :: r) (i := 0) (by simp)
      have b : atD (IL (x :: r)) 0 = .ok (.int x) := by
        unfold atD
        rw [show (0 : Int) = ((0 : Nat) : Int) from rfl, a]; rfl
      show (atD (IL (x :: r)) 0).bind (fun d => (T.ok (D.int 1)).bind fun y => dEq d y) = _
      rw [b]; rfl
    have e3 : (fLc [1, 2] (fZp (fCons (fVb 0) (fCons (fSl (fVb 0) (fSo (fC (.int 1))) fNo) fNil))) (.t [(.v 1), (.v 2)]) fYes (fBin dEq (fVb 2) (fBin dMul (fC (.int 2)) (fVb 1)))) [.sh (.tup (IL (x :: r))), .non, .non] = .ok (.lst (((x :: r).zip r).map fun p => .bl (dblP p))) := by
      show ((zpO [.tup (IL (x :: r)), .tup (DL.cutD (IL (x :: r)) (some 1) none)]).bind fun ds => tIf (lenOk ds.length) ((mapC (.t [(.v 1), (.v 2)]) fYes (fBin dEq (fVb 2) (fBin dMul (fC (.int 2)) (fVb 1))) [.sh (.tup (IL (x :: r))), .non, .non] ds).bind fun ys => T.ok (D.lst ys))) = _
      rw [cut_IL]
      show (tIf (lenOk (zpD (IL (x :: r)) (IL r)).length) ((mapC (.t [(.v 1), (.v 2)]) fYes (fBin dEq (fVb 2) (fBin dMul (fC (.int 2)) (fVb 1))) [.sh (.tup (IL (x :: r))), .non, .non] (zpD (IL (x :: r)) (IL r))).bind fun ys => T.ok (D.lst ys))) = _
      have hlen : (zpD (IL (x :: r)) (IL r)).length ≤ 9 := by
        rw [zp_IL, List.length_map, List.length_zip]
        rw [List.length_cons] at *
        omega
      rw [lenOk_of (by rw [sizeLine_eq]; omega), zp_IL, mapC_pair (g := fun p => .bl (dblP p)) fun p hp => by
        have hm : p.1 ∈ x :: r := (List.of_mem_zip (a := p.1) (b := p.2) hp).1
        show ((fBin dMul (fC (.int 2)) (fVb 1)) [.sh (.tup (IL (x :: r))), .sh (.int p.1), .sh (.int p.2)]).bind (fun y => dEq (.int p.2) y) = _
        have : (fBin dMul (fC (.int 2)) (fVb 1)) [.sh (.tup (IL (x :: r))), .sh (.int p.1), .sh (.int p.2)] = .ok (.int (2 * p.1)) := by
          show tIf (mulOk 2 p.1) _ = _
          rw [mulOk_of (e := 2) (by decide) (by decide) (by omega) (hx p.1 hm)]; rfl
        rw [this]; rfl]
      rfl
    have e4 : (fFn (on1 dAll) (fCons (fLc [1, 2] (fZp (fCons (fVb 0) (fCons (fSl (fVb 0) (fSo (fC (.int 1))) fNo) fNil))) (.t [(.v 1), (.v 2)]) fYes (fBin dEq (fVb 2) (fBin dMul (fC (.int 2)) (fVb 1)))) fNil)) [.sh (.tup (IL (x :: r))), .non, .non] = .ok (.bl (((x :: r).zip r).all dblP)) := by
      show ((((fLc [1, 2] (fZp (fCons (fVb 0) (fCons (fSl (fVb 0) (fSo (fC (.int 1))) fNo) fNil))) (.t [(.v 1), (.v 2)]) fYes (fBin dEq (fVb 2) (fBin dMul (fC (.int 2)) (fVb 1)))) [.sh (.tup (IL (x :: r))), .non, .non]).bind fun a => T.ok [a]).bind (on1 dAll)) = _
      rw [e3]
      show (match bls (((x :: r).zip r).map fun p => .bl (dblP p)) with | some bs => T.ok (D.bl (bs.all id)) | none => .no) = _
      rw [bls_map, ]
      show T.ok (D.bl ((((x :: r).zip r).map dblP).all id)) = _
      rw [List.all_map]; rfl
    rw [← pw_cons]
    show ((((fBin dNe (fVb 0) (fTup fNil)) [.sh (.tup (IL (x :: r))), .non, .non]).bind fun d => (blD d).bind fun c => match c with
      | true => (fAndV (fBin dEq (fBin dItem (fVb 0) (fC (.int 0))) (fC (.int 1))) (fFn (on1 dAll) (fCons (fLc [1, 2] (fZp (fCons (fVb 0) (fCons (fSl (fVb 0) (fSo (fC (.int 1))) fNo) fNil))) (.t [(.v 1), (.v 2)]) fYes (fBin dEq (fVb 2) (fBin dMul (fC (.int 2)) (fVb 1)))) fNil))) [.sh (.tup (IL (x :: r))), .non, .non]
      | false => T.ok (D.bl false)).bind fun d => T.ok (Res.rt d)).bind outD = _
    rw [e1]
    show ((((fBin dEq (fBin dItem (fVb 0) (fC (.int 0))) (fC (.int 1))) [.sh (.tup (IL (x :: r))), .non, .non]).bind fun d => (blD d).bind fun c => match c with
      | true => (fFn (on1 dAll) (fCons (fLc [1, 2] (fZp (fCons (fVb 0) (fCons (fSl (fVb 0) (fSo (fC (.int 1))) fNo) fNil))) (.t [(.v 1), (.v 2)]) fYes (fBin dEq (fVb 2) (fBin dMul (fC (.int 2)) (fVb 1)))) fNil)) [.sh (.tup (IL (x :: r))), .non, .non]
      | false => T.ok (D.bl false)).bind fun d => T.ok (Res.rt d)).bind outD = _
    rw [e2]
    cases ieq x 1
    · rfl
    · show (((fFn (on1 dAll) (fCons (fLc [1, 2] (fZp (fCons (fVb 0) (fCons (fSl (fVb 0) (fSo (fC (.int 1))) fNo) fNil))) (.t [(.v 1), (.v 2)]) fYes (fBin dEq (fVb 2) (fBin dMul (fC (.int 2)) (fVb 1)))) fNil)) [.sh (.tup (IL (x :: r))), .non, .non]).bind fun d => T.ok (Res.rt d)).bind outD = _
      rw [e4]; rfl
theorem pows_range : ∀ (n : Nat) (b : Int), pows b n = (List.range n).map fun i => b * 2 ^ i
  | 0, _ => rfl
  | n + 1, b => by
    rw [List.range_succ_eq_map, List.map_cons, List.map_map]
    show b :: pows (2 * b) n = _
    rw [pows_range n (2 * b)]
    congr 1
    · rw [Int.pow_zero]; omega
    · refine List.map_congr_left fun i _ => ?_
      show 2 * b * 2 ^ i = b * 2 ^ (i + 1)
      rw [Int.pow_succ]; grind
theorem deqs_IL : ∀ (l m : List Int), deqs (IL l) (IL m) = decide (l = m)
  | [], [] => rfl
  | [], _ :: _ => rfl
  | _ :: _, [] => rfl
  | a :: l, b :: m => by
    show (ieq a b && deqs (IL l) (IL m)) = _
    rw [deqs_IL l m, ieq_eq]
    by_cases h1 : a = b
    · rw [decide_eq_true h1, Bool.true_and]
      exact decide_eq_decide.mpr ⟨fun h => by rw [h1, h], fun h => (List.cons.inj h).2⟩
    · rw [decide_eq_false h1, Bool.false_and]
      symm
      exact decide_eq_false fun h => h1 (List.cons.inj h).1
/-- the comprehension 1 << k -/
theorem shl_mapC {j : Nat} {ρ : Ev} {n : Nat} (hj : ∀ x : Int, (ρ.put j (.sh (.int x))).at j = .sh (.int x)) (hn : n ≤ 9) : mapC (.v j) fYes (fBin dShl (fC (.int 1)) (fVb j)) ρ (rgD 0 n) = .ok (IL (pows 1 n)) := by
  rw [rgD_range, mapC_yes (f := fun (i : Nat) => D.int (0 + (i : Int))) (g := fun (i : Nat) => D.int (1 * 2 ^ i)) fun i hi => by
    have v : fVb j (ρ.put j (.sh (.int (0 + (i : Int))))) = .ok (.int (0 + (i : Int))) := by unfold fVb; rw [hj]
    show ((fVb j (ρ.put j (.sh (.int (0 + (i : Int)))))).bind fun b => dShl (.int 1) b) = _
    rw [v]
    have hi' := List.mem_range.mp hi
    show tIf (ile 0 (0 + (i : Int)) && ile (0 + (i : Int)) 1000000 && ilt ((1 : Int).natAbs : Int) 18446744073709551616) (T.ok (D.int (1 * 2 ^ (0 + (i : Int)).toNat))) = _
    rw [ile_iff.mpr (by omega), ile_iff.mpr (by omega), show (0 + (i : Int)).toNat = i by omega]; rfl]
  rw [pows_range, IL, List.map_map]; rfl
theorem parts_goS : ∀ (L : List Int) (F : List (List Int)), (partsGo F L).map isum = goS (F.map isum) L
  | [], _ => rfl
  | x :: r, F => by
    show (partsGo (F ++ F.map (· ++ [x])) r).map isum = goS (F.map isum ++ (F.map isum).map (· + x)) r
    rw [parts_goS r, List.map_append, List.map_map, List.map_map]
    congr 2
    refine List.map_congr_left fun p _ => ?_
    show isum (p ++ [x]) = isum p + x
    rw [isum_app]
    show isum p + (x + 0) = _
    omega
theorem ile_total : PySem.W.TotalLe ile := ⟨fun a b c h1 h2 => ile_iff.mpr (Int.le_trans (ile_iff.mp h1) (ile_iff.mp h2)), fun a b => (Int.le_total a b).imp ile_iff.mpr ile_iff.mpr⟩
theorem adj_lt : ∀ {l : List Int}, l.Pairwise (fun a b => ile a b = true) → adjI l = true → l.Pairwise (· < ·)
  | [], _, _ => List.Pairwise.nil
  | [a], _, _ => List.pairwise_singleton _ _
  | a :: b :: r, hp, h => by
    obtain ⟨h1, h2⟩ := List.pairwise_cons.mp hp
    unfold adjI at h
    rw [ieq_eq] at h
    by_cases q : a = b
    · rw [decide_eq_true q] at h; cases h
    · rw [decide_eq_false q] at h
      have ih := adj_lt h2 h
      refine List.pairwise_cons.mpr ⟨fun y hy => ?_, ih⟩
      have hab := ile_iff.mp (h1 b List.mem_cons_self)
      rcases List.mem_cons.mp hy with e | e
      · omega
      · have := (List.pairwise_cons.mp ih).1 y e
        omega
theorem tell_of {L : List Int} (h : adjI (sumsI L) = true) : ∃ l : List Int, l.Perm (goS [0] L) ∧ l.Pairwise (· < ·) := by
  have e : sumsI L = (goS [0] L).mergeSort ile := by
    unfold sumsI
    rw [msort_eq ile_total, parts_goS]; rfl
  rw [e] at h
  exact ⟨_, List.mergeSort_perm _ _, adj_lt (PySem.W.sort_pairwise ile_total _) h⟩
section
variable {f g : Ev → T D} {as : Ev → T (List D)} {ρ : Ev} {x y : D} {xs : List D}
theorem bin_ok {fo : D → D → T D} (h1 : f ρ = .ok x) (h2 : g ρ = .ok y) : fBin fo f g ρ = fo x y := by
  show ((f ρ).bind fun a => (g ρ).bind fun b => fo a b) = _
  rw [h1, h2]; rfl
theorem cons_ok (h1 : f ρ = .ok x) (h2 : as ρ = .ok xs) : fCons f as ρ = .ok (x :: xs) := by
  show ((f ρ).bind fun a => (as ρ).bind fun r => T.ok (a :: r)) = _
  rw [h1, h2]; rfl
theorem tup_ok (h : as ρ = .ok xs) (hl : lenOk xs.length = true := by rfl) : fTup as ρ = .ok (.tup xs) := by
  show ((as ρ).bind fun ds => tIf (lenOk ds.length) (T.ok (D.tup ds))) = _
  rw [h]
  show tIf (lenOk xs.length) _ = _
  rw [hl]; rfl
theorem lst_ok (h : as ρ = .ok xs) (hl : lenOk xs.length = true := by rfl) : fLst as ρ = .ok (.lst xs) := by
  show ((as ρ).bind fun ds => tIf (lenOk ds.length) (T.ok (D.lst ds))) = _
  rw [h]
  show tIf (lenOk xs.length) _ = _
  rw [hl]; rfl
theorem fn_ok {fo : List D → T D} (h : as ρ = .ok xs) : fFn fo as ρ = fo xs := by
  show ((as ρ).bind fo) = _
  rw [h]; rfl
theorem call_ok {n : Nat} {F : List D → T D} (h : as ρ = .ok xs) (hl : Nat.beq xs.length n = true := by rfl) : fCall n F as ρ = F xs := by
  show ((as ρ).bind fun ds => tIf (Nat.beq ds.length n) (F ds)) = _
  rw [h]
  show tIf (Nat.beq xs.length n) _ = _
  rw [hl]; rfl
theorem set_ok {i : Nat} (h : f ρ = .ok x) : fSet i f ρ = .ok (.nx (ρ.put i (.sh x))) := by
  show ((f ρ).bind fun d => T.ok (Res.nx (ρ.put i (.sh d)))) = _
  rw [h]; rfl
theorem tb_ok {b : Bool} (h : f ρ = .ok (.bl b)) : fTb f ρ = .ok b := by
  show (f ρ).bind blD = _
  rw [h]; rfl
end
theorem seq_ok {F G : Ev → T Res} {ρ ρ1 : Ev} (h : F ρ = .ok (.nx ρ1)) : fSeq F G ρ = G ρ1 := by
  show (F ρ).bind _ = _
  rw [h]; rfl
theorem ifs_no {c : Ev → T Bool} {F : Ev → T Res} {ρ : Ev} (h : c ρ = .ok false) : fIfS c F fNx ρ = .ok (.nx ρ) := by
  show (c ρ).bind _ = _
  rw [h]; rfl
theorem or_no {c d : Ev → T Bool} {ρ : Ev} (h : c ρ = .ok false) (h2 : d ρ = .ok false) : fOr c d ρ = .ok false := by
  show (c ρ).bind _ = _
  rw [h]; exact h2
theorem rne {f g : Ev → T D} {ρ : Ev} {d : D} (hr : rOk d = true) (hf : f ρ = .ok d) (hg : g ρ = .ok d) : fTb (fBin dNe (fFn (on1 dRepr) (fCons f fNil)) (fFn (on1 dRepr) (fCons g fNil))) ρ = .ok false := by
  show (((((f ρ).bind fun a => T.ok [a]).bind (on1 dRepr)).bind fun x => (((g ρ).bind fun a => T.ok [a]).bind (on1 dRepr)).bind fun y => dNe x y).bind blD) = _
  rw [hf, hg]
  show (((tIf (rOk d) (T.ok (D.txt d))).bind fun x => (tIf (rOk d) (T.ok (D.txt d))).bind fun y => dNe x y).bind blD) = _
  rw [hr]
  show (tIf (D.beq d d) (T.ok (D.bl (!true)))).bind blD = _
  rw [D.beq_self]; rfl
theorem p2_small {n : Nat} (h1 : 1 ≤ n) (h2 : n ≤ 9) : 0 < (2 : Int) ^ n ∧ (2 : Int) ^ n < 1024 ∧ ((2 : Int) ^ n * 2 ^ n - 1) % 3 = 0 ∧ (2 : Int) ^ n * 2 ^ n = 4 ^ n ∧ (2 : Int) ^ n = 2 * 2 ^ (n - 1) ∧ 0 < (2 : Int) ^ (n - 1) := by
  have : n = 1 ∨ n = 2 ∨ n = 3 ∨ n = 4 ∨ n = 5 ∨ n = 6 ∨ n = 7 ∨ n = 8 ∨ n = 9 := by omega
  rcases this with e | e | e | e | e | e | e | e | e <;> (subst e; decide)
abbrev dP (k : Int) : Ev → T D := (fCall 2 pickF (fCons (fV 0) (fCons (fC (.int k)) fNil)))
abbrev d0 : Ev → T Res := (fSet 5 (fBin dAdd (fC (.int 1)) (fCall 2 pickF (fCons (fV 0) (fCons (fC (.int 12)) fNil)))))
abbrev d1 : Ev → T Res := (fIfS (fTb (fBin dEq (fVb 2) (fC (.int 1)))) (fSet 5 (fFn dMax (fCons (fC (.int 1)) (fCons (fBin dAdd (fBin dSub (fBin dSub (fBin dAdd (fFn (on1 dSum) (fCons (fVb 3) fNil)) (fC (.int 1))) (fVb 4)) (fCall 2 pickF (fCons (fV 0) (fCons (fC (.int 3)) fNil)))) (fCall 2 pickF (fCons (fV 0) (fCons (fC (.int 2)) fNil)))) fNil)))) fNx)
abbrev d2 : Ev → T Res := (fIfS (fTb (fBin dEq (fVb 2) (fC (.int 2)))) (fSet 5 (fBin dAdd (fC (.int 1)) (fCall 2 pickF (fCons (fV 0) (fCons (fC (.int 2)) fNil))))) fNx)
abbrev d3 : Ev → T Res := (fSet 4 (fBin dAdd (fVb 4) (fVb 5)))
abbrev d4 : Ev → T Res := (fMut 3 mAppend (fV 4))
abbrev dB : Ev → T Res := (fSeq d0 (fSeq d1 (fSeq d2 (fSeq d3 d4))))
abbrev drawB : Ev → T Res := fSeq (fParM [2, 3, 4] (mSh (fCall 2 pickF (fCons (fV 0) (fCons (fC (.int 3)) fNil))) (mOw (fLst fNil) (mSh (fC (.int 0)) mNil)))) (fSeq (fFor (fRng1 (fCons (fBin dAdd (fC (.int 1)) (fCall 2 pickF (fCons (fV 0) (fCons (fC (.int 7)) fNil)))) fNil)) (.v 1) dB) (fRet (fFn (on1 dTupOf) (fCons (fVb 3) fNil))))
theorem wseq {F G : Ev → T Res} {ρ : Ev} {P : Ev → Prop} {Q : Res → Prop} (h : WP (F ρ) fun r => ∃ ρ1, r = .nx ρ1 ∧ P ρ1) (hG : ∀ ρ1, P ρ1 → WP (G ρ1) Q) : WP (fSeq F G ρ) Q := by
  refine wp_bind (h.mono fun r ⟨ρ1, e, p⟩ => ?_)
  subst e
  exact hG ρ1 p
theorem wok {α : Type} {m : T α} {a : α} {Q : α → Prop} (h : m = .ok a) (q : Q a) : WP m Q := by rw [h]; exact q
def dr (road : Int) (F : List Int) (last : Int) (s1 s5 : Sl) : Ev := [.sh .src, s1, .sh (.int road), .own (.lst (IL F)), .sh (.int last), s5]
section
variable {road last : Int} {F : List Int} {s1 s5 : Sl}
theorem w_d0 : WP (d0 (dr road F last s1 s5)) fun r => ∃ ρ1, r = .nx ρ1 ∧ ∃ k : Int, ρ1 = dr road F last s1 (.sh (.int k)) ∧ 1 ≤ k ∧ k ≤ 12 := by
  show ∀ r : Int, 0 ≤ r → (r < 12 ∨ r = 0) → _
  exact fun r h0 h1 => ⟨_, rfl, 1 + r, rfl, by omega, by omega⟩
theorem sum_own : (fFn (on1 dSum) (fCons (fVb 3) fNil)) (dr road F last s1 s5) = .ok (.int (isum F)) := sum_IL F
theorem max1 (x : Int) : dMax [.int 1, .int x] = .ok (.int (match ilt 1 x with | true => x | false => 1)) := rfl
theorem w_d1 (hl : 0 ≤ last) (hs : last ≤ isum F) {k : Int} (h1 : 1 ≤ k) (h2 : k ≤ 12) : WP (d1 (dr road F last s1 (.sh (.int k)))) fun r => ∃ ρ1, r = .nx ρ1 ∧ ∃ k : Int, ρ1 = dr road F last s1 (.sh (.int k)) ∧ 1 ≤ k ∧ last + k ≤ isum F + 12 := by
  have ec : (fTb (fBin dEq (fVb 2) (fC (.int 1)))) (dr road F last s1 (.sh (.int k))) = .ok (ieq road 1) := rfl
  show WP (((fTb (fBin dEq (fVb 2) (fC (.int 1)))) (dr road F last s1 (.sh (.int k)))).bind _) _
  rw [ec]
  cases ieq road 1
  · exact ⟨_, rfl, k, rfl, h1, by omega⟩
  · have eA : (fBin dSub (fBin dAdd (fFn (on1 dSum) (fCons (fVb 3) fNil)) (fC (.int 1))) (fVb 4)) (dr road F last s1 (.sh (.int k))) = .ok (.int (isum F + 1 - last)) :=
      bin_ok (fo := dSub) (x := .int (isum F + 1)) (y := .int last) (bin_ok (fo := dAdd) (x := .int (isum F)) (y := .int 1) sum_own rfl) rfl
    show WP ((((((((fBin dSub (fBin dAdd (fFn (on1 dSum) (fCons (fVb 3) fNil)) (fC (.int 1))) (fVb 4)) (dr road F last s1 (.sh (.int k)))).bind (fun x => (dP 3 (dr road F last s1 (.sh (.int k)))).bind fun y => dSub x y)).bind (fun x => (dP 2 (dr road F last s1 (.sh (.int k)))).bind fun y => dAdd x y)).bind (fun x => T.ok [x])).bind (fun r => T.ok (D.int 1 :: r))).bind dMax).bind (fun d => T.ok (Res.nx (Ev.put (dr road F last s1 (.sh (.int k))) 5 (.sh d))))) _
    rw [eA]
    show ∀ p : Int, 0 ≤ p → (p < 3 ∨ p = 0) → ∀ q : Int, 0 ≤ q → (q < 2 ∨ q = 0) → _
    intro p p0 p1 q q0 q1
    refine ⟨_, rfl, (match ilt 1 (isum F + 1 - last - p + q) with | true => isum F + 1 - last - p + q | false => 1), rfl, ?_, ?_⟩
    · rw [ilt_eq]
      by_cases z : 1 < isum F + 1 - last - p + q
      · rw [decide_eq_true z]; show 1 ≤ isum F + 1 - last - p + q; omega
      · rw [decide_eq_false z]; exact Int.le_refl 1
    · rw [ilt_eq]
      by_cases z : 1 < isum F + 1 - last - p + q
      · rw [decide_eq_true z]; show last + (isum F + 1 - last - p + q) ≤ _; omega
      · rw [decide_eq_false z]; show last + 1 ≤ _; omega
theorem w_d2 (hl : 0 ≤ last) (hs : last ≤ isum F) {k : Int} (h1 : 1 ≤ k) (h2 : last + k ≤ isum F + 12) : WP (d2 (dr road F last s1 (.sh (.int k)))) fun r => ∃ ρ1, r = .nx ρ1 ∧ ∃ k : Int, ρ1 = dr road F last s1 (.sh (.int k)) ∧ 1 ≤ k ∧ last + k ≤ isum F + 12 := by
  have ec : (fTb (fBin dEq (fVb 2) (fC (.int 2)))) (dr road F last s1 (.sh (.int k))) = .ok (ieq road 2) := rfl
  show WP (((fTb (fBin dEq (fVb 2) (fC (.int 2)))) (dr road F last s1 (.sh (.int k)))).bind _) _
  rw [ec]
  cases ieq road 2
  · exact ⟨_, rfl, k, rfl, h1, h2⟩
  · show ∀ r : Int, 0 ≤ r → (r < 2 ∨ r = 0) → _
    exact fun r h0 h1 => ⟨_, rfl, 1 + r, rfl, by omega, by omega⟩
theorem w_dB (hl : 0 ≤ last) (hs : last ≤ isum F) (hz : F.length < 1000) : WP (dB (dr road F last s1 s5)) fun r => ∃ ρ1, r = .nx ρ1 ∧ ∃ (x : Int) (t5 : Sl), ρ1 = dr road (F ++ [x]) x s1 t5 ∧ last < x ∧ x ≤ isum F + 12 := by
  refine wseq w_d0 fun ρ1 ⟨k, e, h1, h2⟩ => ?_
  subst e
  refine wseq (w_d1 hl hs h1 h2) fun ρ2 ⟨k, e, h1, h2⟩ => ?_
  subst e
  refine wseq (w_d2 hl hs h1 h2) fun ρ3 ⟨k, e, h1, h2⟩ => ?_
  subst e
  have e3 : d3 (dr road F last s1 (.sh (.int k))) = .ok (.nx (dr road F (last + k) s1 (.sh (.int k)))) := rfl
  have e4 : d4 (dr road F (last + k) s1 (.sh (.int k))) = .ok (.nx (dr road (F ++ [last + k]) (last + k) s1 (.sh (.int k)))) := by
    show ((tIf (Nat.blt (IL F).length sizeLine) (T.ok (D.lst (IL F ++ [.int (last + k)])))).bind fun d' => T.ok (Res.nx (Ev.put (dr road F (last + k) s1 (.sh (.int k))) 3 (.own d')))) = _
    rw [List.length_map, show Nat.blt F.length sizeLine = true from nblt.mpr (by rw [sizeLine_eq]; omega)]
    show T.ok (Res.nx [.sh .src, s1, .sh (.int road), .own (.lst (IL F ++ [.int (last + k)])), .sh (.int (last + k)), .sh (.int k)]) = _
    unfold dr IL
    rw [List.map_append]; rfl
  rw [seq_ok e3]
  exact wok e4 ⟨_, rfl, last + k, _, rfl, by omega, h2⟩
end
structure Dn (F : List Int) (last : Int) : Prop where
  asc : F.Pairwise (· < ·)
  pos : ∀ x ∈ F, 0 < x ∧ x < 1024 ∧ x ≤ last
  lo : 0 ≤ last
  le : last ≤ isum F
  up : isum F ≤ 12 * (2 ^ F.length - 1)
theorem Dn.step {F : List Int} {last x : Int} (h : Dn F last) (hl : F.length ≤ 6) (h1 : last < x) (h2 : x ≤ isum F + 12) : Dn (F ++ [x]) x := by
  have hp : (2 : Int) ^ F.length ≤ 64 := by
    have q : (2 : Nat) ^ F.length ≤ 2 ^ 6 := Nat.pow_le_pow_right (by decide) hl
    have c1 : ((2 ^ F.length : Nat) : Int) = (2 : Int) ^ F.length := by rw [Int.natCast_pow]; rfl
    have c2 : (2 : Nat) ^ 6 = 64 := by decide
    omega
  have u := h.up
  have l0 := h.lo
  have es : isum (F ++ [x]) = isum F + x := by rw [isum_app]; show isum F + (x + 0) = _; omega
  refine ⟨?_, ?_, by omega, by rw [es]; have := h.le; omega, ?_⟩
  · refine List.pairwise_append.mpr ⟨h.asc, List.pairwise_singleton _ _, fun a ha b hb => ?_⟩
    rw [List.mem_singleton] at hb
    have := h.pos a ha
    omega
  · intro y hy
    rcases List.mem_append.mp hy with q | q
    · have := h.pos y q; omega
    · rw [List.mem_singleton] at q; omega
  · rw [es, List.length_append, List.length_singleton, Int.pow_succ]; omega
theorem w_loop {road : Int} : ∀ (ds : List D) (F : List Int) (last : Int) (s1 s5 : Sl), Dn F last → F.length + ds.length ≤ 7 →
    WP (foldB (.v 1) dB ds (dr road F last s1 s5)) fun r => ∃ ρ1, r = .nx ρ1 ∧ ∃ (F' : List Int) (last' : Int) (t1 t5 : Sl), ρ1 = dr road F' last' t1 t5 ∧ Dn F' last' ∧ F'.length = F.length + ds.length
  | [], F, last, s1, s5, h, _ => ⟨_, rfl, F, last, s1, s5, rfl, h, rfl⟩
  | d :: ds, F, last, s1, s5, h, hl => by
    rw [List.length_cons] at hl
    show WP ((dB (dr road F last (.sh d) s5)).bind _) _
    refine wp_bind ((w_dB h.lo h.le (by omega)).mono fun r ⟨ρ1, e, x, t5, e2, h1, h2⟩ => ?_)
    subst e; subst e2
    refine (w_loop ds (F ++ [x]) x (.sh d) t5 (h.step (by omega) h1 h2) (by rw [List.length_append, List.length_singleton]; omega)).mono fun r ⟨ρ1, e, F', last', t1, t5, e2, q1, q2⟩ => ⟨ρ1, e, F', last', t1, t5, e2, q1, ?_⟩
    rw [q2, List.length_append, List.length_singleton, List.length_cons]; omega
theorem w_draw : WP (defF 5 drawB [.src]) fun d => ∃ L, Good L ∧ d = .tup (IL L) := by
  show WP ((drawB [.sh .src, .non, .non, .non, .non, .non]).bind outD) _
  refine wp_bind ?_
  refine wseq (P := fun ρ1 => ∃ road : Int, ρ1 = dr road [] 0 .non .non) ?_ fun ρ1 ⟨road, e⟩ => ?_
  · show ∀ r : Int, 0 ≤ r → (r < 3 ∨ r = 0) → _
    exact fun r _ _ => ⟨_, rfl, r, rfl⟩
  subst e
  refine wseq (P := fun ρ1 => ∃ (F' : List Int) (last' : Int) (t1 t5 : Sl), ρ1 = dr road F' last' t1 t5 ∧ Dn F' last' ∧ 1 ≤ F'.length ∧ F'.length ≤ 7) ?_ fun ρ1 ⟨F', last', t1, t5, e, q1, q2, q3⟩ => ?_
  · show ∀ r : Int, 0 ≤ r → (r < 7 ∨ r = 0) → _
    intro r h0 h1
    show WP ((tIf (i62 (1 + r)) (T.ok (rgD 0 (1 + r).toNat))).bind fun ds => foldB (.v 1) dB ds (dr road [] 0 .non .non)) _
    have hi : i62 (1 + r) = true := by
      unfold i62
      rw [Bool.and_eq_true]
      exact ⟨ilt_iff.mpr (by omega), ile_iff.mpr (by omega)⟩
    rw [hi]
    show WP (foldB (.v 1) dB (rgD 0 (1 + r).toNat) (dr road [] 0 .non .non)) _
    refine (w_loop (road := road) (rgD 0 (1 + r).toNat) [] 0 .non .non ⟨List.Pairwise.nil, (fun x hx => nomatch hx), Int.le_refl 0, Int.le_refl 0, by decide⟩ (by rw [rgD_len]; show 0 + _ ≤ 7; omega)).mono fun r' ⟨ρ1, e, F', last', t1, t5, e2, q1, q2⟩ => ⟨ρ1, e, F', last', t1, t5, e2, q1, ?_⟩
    rw [rgD_len] at q2
    have : F'.length = 0 + (1 + r).toNat := q2
    omega
  subst e
  have : Good F' := ⟨q1.asc, fun x hx => ⟨(q1.pos x hx).1, (q1.pos x hx).2.1⟩, (fun e => by rw [e] at q2; exact absurd q2 (by decide)), by omega⟩
  exact ⟨F', this, rfl⟩
abbrev TL (L : List Int) : D := .tup (IL L)
def GoodD (y : D) : Prop := ∃ L, Good L ∧ y = TL L
theorem w_map {e : Ev → T D} {ρ : Ev} {j : Nat} {P : D → Prop} (h : ∀ d, WP (e (ρ.put j (.sh d))) P) : ∀ ds : List D, WP (mapC (.v j) fYes e ρ ds) fun ys => (∀ y ∈ ys, P y) ∧ ys.length = ds.length
  | [] => ⟨(fun y hy => nomatch hy), rfl⟩
  | d :: ds => by
    show WP ((e (ρ.put j (.sh d))).bind fun y => (mapC (.v j) fYes e ρ ds).bind fun ys => T.ok (y :: ys)) _
    refine wp_bind ((h d).mono fun y hy => wp_bind ((w_map h ds).mono fun ys ⟨h1, h2⟩ => ?_))
    refine ⟨fun z hz => ?_, congrArg (· + 1) h2⟩
    rcases List.mem_cons.mp hz with q | q
    · rw [q]; exact hy
    · exact h1 z q
theorem loop_P {t0 : Ev} {p : Pat} {body : Ev → T Res} (hb : HS body body) : ∀ (ds : List D) (ρ : Ev), EvLe t0 ρ → (∀ d ∈ ds, ∃ t1 u, bindP p d t0 = .ok t1 ∧ body t1 = .ok (.nx u) ∧ EvLe t0 u) →
    WP (foldB p body ds ρ) fun r => ∃ ρ', r = .nx ρ' ∧ EvLe t0 ρ'
  | [], ρ, h, _ => ⟨ρ, rfl, h⟩
  | d :: ds, ρ, h, hc => by
    obtain ⟨t1, u, e1, e2, e3⟩ := hc d List.mem_cons_self
    have k1 := h_bindP h p d
    rw [e1] at k1
    show WP ((bindP p d ρ).bind _) _
    cases hq : bindP p d ρ with
    | no => rw [hq] at k1; exact k1.elim
    | pk _ _ => rw [hq] at k1; exact k1.elim
    | ok ρ1 =>
      rw [hq] at k1
      have k2 := hb t1 ρ1 k1
      rw [e2] at k2
      show WP ((body ρ1).bind _) _
      cases hq2 : body ρ1 with
      | no => rw [hq2] at k2; exact k2.elim
      | pk _ _ => rw [hq2] at k2; exact k2.elim
      | ok r =>
        rw [hq2] at k2
        cases r with
        | rt _ => exact k2.elim
        | nx ρ2 => exact loop_P hb ds ρ2 (e3.trans k2) fun d' hd' => hc d' (List.mem_cons_of_mem _ hd')
end
end DL

set_option Elab.async false
set_option linter.all false
set_option maxRecDepth 100000
namespace DL
/-! ### complete lots (plain mathematics) -/
def fjI : Int → List Int → Option Int
  | _, [] => none
  | T, x :: r => match ilt (T + 1) x with
    | true => some (T + 1)
    | false => fjI (T + x) r
theorem fjI_cons (T x : Int) (r : List Int) : fjI T (x :: r) = if T + 1 < x then some (T + 1) else fjI (T + x) r := by
  show (match ilt (T + 1) x with | true => some (T + 1) | false => fjI (T + x) r) = _
  rw [ilt_eq]
  by_cases h : T + 1 < x
  · rw [decide_eq_true h, if_pos h]
  · rw [decide_eq_false h, if_neg h]
theorem isum_nn : ∀ {L : List Int}, (∀ x ∈ L, 0 ≤ x) → 0 ≤ isum L
  | [], _ => Int.le_refl _
  | x :: r, h => by
    have := h x List.mem_cons_self
    have := isum_nn fun y hy => h y (List.mem_cons_of_mem _ hy)
    show 0 ≤ x + isum r
    omega
theorem fj_spec : ∀ (r S : List Int) (T : Int), (∀ s, s ∈ S ↔ 0 ≤ s ∧ s ≤ T) → 0 ≤ T → r.Pairwise (· < ·) → (∀ x ∈ r, 0 < x) →
    (fjI T r = none → ∀ t, 0 ≤ t → t ≤ T + isum r → t ∈ goS S r) ∧ (∀ j, fjI T r = some j → j ∉ goS S r ∧ 1 ≤ j ∧ j ≤ T + isum r ∧ ∀ t, 0 ≤ t → t < j → t ∈ goS S r)
  | [], S, T, hS, _, _, _ => by
    refine ⟨fun _ t h0 h1 => ?_, fun j h => (by cases h)⟩
    have h1 : t ≤ T + 0 := h1
    exact (hS t).mpr ⟨h0, by omega⟩
  | x :: r, S, T, hS, hT, hp, h0 => by
    obtain ⟨h1, h2⟩ := List.pairwise_cons.mp hp
    have x0 := h0 x List.mem_cons_self
    have hr0 : ∀ y ∈ r, 0 < y := fun y hy => h0 y (List.mem_cons_of_mem _ hy)
    have hrs := isum_nn (L := r) fun y hy => by have := hr0 y hy; omega
    rw [fjI_cons]
    by_cases q : T + 1 < x
    · rw [if_pos q]
      refine ⟨fun h => (by cases h), fun j h => ?_⟩
      cases h
      refine ⟨fun hm => ?_, by omega, by show T + 1 ≤ T + (x + isum r); omega, fun t t0 t1 => goS_sub (x :: r) S t ((hS t).mpr ⟨t0, by omega⟩)⟩
      rcases goS_low (x :: r) S x (fun y hy => by
        rcases List.mem_cons.mp hy with e | e
        · omega
        · have := h1 y e; omega) (by omega) (fun s hs => ((hS s).mp hs).1) _ hm with z | z
      · have := (hS _).mp z; omega
      · omega
    · rw [if_neg q]
      have ih := fj_spec r (S ++ S.map (· + x)) (T + x) (fun s => by
        rw [List.mem_append, List.mem_map]
        constructor
        · rintro (h | ⟨t, ht, e⟩)
          · have := (hS s).mp h; omega
          · have := (hS t).mp ht; omega
        · intro h
          by_cases z : s ≤ T
          · exact .inl ((hS s).mpr ⟨h.1, z⟩)
          · exact .inr ⟨s - x, (hS _).mpr ⟨by omega, by omega⟩, by omega⟩) (by omega) h2 hr0
      have e : T + isum (x :: r) = T + x + isum r := by show T + (x + isum r) = _; omega
      rw [e]
      exact ih
theorem fj_zero {L : List Int} (hp : L.Pairwise (· < ·)) (h0 : ∀ x ∈ L, 0 < x) : (fjI 0 L = none → ∀ t, 0 ≤ t → t ≤ isum L → t ∈ goS [0] L) ∧ (∀ j, fjI 0 L = some j → j ∉ goS [0] L ∧ 1 ≤ j ∧ j ≤ isum L ∧ ∀ t, 0 ≤ t → t < j → t ∈ goS [0] L) := by
  have := fj_spec L [0] 0 (fun s => by rw [List.mem_singleton]; omega) (Int.le_refl 0) hp h0
  rw [Int.zero_add] at this
  exact this
/-! telling and complete: 1, 2, 4, .. -/
theorem tell_goS : ∀ (L S : List Int), S.Nodup → (tellGo S L = true ↔ (goS S L).Nodup)
  | [], S, h => ⟨fun _ => h, fun _ => rfl⟩
  | x :: r, S, h => by
    have hm : (S.map (· + x)).Nodup := List.Pairwise.map _ (fun a b h q => h (by omega)) h
    show (match anyI S (plusI x S) with | true => false | false => tellGo (S ++ plusI x S) r) = true ↔ _
    cases ha : anyI S (plusI x S)
    · have hn : (S ++ plusI x S).Nodup := tell_nodup h ha
      have := tell_goS r (S ++ plusI x S) hn
      rw [plusI_eq] at this ⊢
      exact this
    · refine ⟨fun h => (by cases h), fun hg => ?_⟩
      exfalso
      rw [anyI_eq, plusI_eq] at ha
      obtain ⟨t, ht, hd⟩ := List.any_eq_true.mp ha
      have hn : (S ++ S.map (· + x)).Nodup := (goS_pre r _).nodup hg
      exact (List.nodup_append.mp hn).2.2 t (of_decide_eq_true hd) t ht rfl
theorem pow_all : ((List.range 9).all fun n => tellGo [0] (pows 1 (n + 1)) && (fjI 0 (pows 1 (n + 1))).isNone) = true := by decide +kernel
theorem cp_pow {L : List Int} (hg : Good L) : (tellGo [0] L && (fjI 0 L).isNone) = pw L := by
  obtain ⟨hp, hx, hne, hl⟩ := hg
  have h0 : ∀ x ∈ L, 0 < x := fun x h => (hx x h).1
  by_cases q : L = pows 1 L.length
  · have hl1 : 1 ≤ L.length := by
      cases L with
      | nil => exact absurd rfl hne
      | cons x r => rw [List.length_cons]; omega
    have := List.all_eq_true.mp pow_all (L.length - 1) (List.mem_range.mpr (by omega))
    rw [show L.length - 1 + 1 = L.length by omega, ← q] at this
    rw [this]
    exact (decide_eq_true q).symm
  · have : pw L = false := decide_eq_false q
    rw [this]
    cases ht : tellGo [0] L
    · rfl
    · cases hf : fjI 0 L with
      | some j => rfl
      | none =>
        exfalso
        have hn := (tell_goS L [0] (by simp)).mp ht
        have hall := (fj_zero hp h0).1 hf
        have hs := tell_sum (fun x h => by have := h0 x h; omega) hn
        exact q (pows_of L [0] 1 (by decide) hp h0 hn (fun s => by rw [List.mem_singleton]; omega) fun v v0 v1 => hall v v0 (by omega))
/-! the greedy part -/
def gr : List Int → Int → List Int × Int
  | [], t => ([], t)
  | x :: r, t => match ile x t with
    | true => (x :: (gr r (t - x)).1, (gr r (t - x)).2)
    | false => gr r t
theorem gr_cons (x : Int) (r : List Int) (t : Int) : gr (x :: r) t = if x ≤ t then (x :: (gr r (t - x)).1, (gr r (t - x)).2) else gr r t := by
  show (match ile x t with | true => (x :: (gr r (t - x)).1, (gr r (t - x)).2) | false => gr r t) = _
  rw [ile_eq]
  by_cases h : x ≤ t
  · rw [decide_eq_true h, if_pos h]
  · rw [decide_eq_false h, if_neg h]
theorem gr_sum : ∀ (r : List Int) (t : Int), isum (gr r t).1 + (gr r t).2 = t
  | [], t => by show 0 + t = t; omega
  | x :: r, t => by
    rw [gr_cons]
    by_cases h : x ≤ t
    · rw [if_pos h]
      have := gr_sum r (t - x)
      show x + isum (gr r (t - x)).1 + (gr r (t - x)).2 = t
      omega
    · rw [if_neg h]; exact gr_sum r t
theorem gr_sub : ∀ (r : List Int) (t : Int), List.Sublist (gr r t).1 r
  | [], t => List.Sublist.refl _
  | x :: r, t => by
    rw [gr_cons]
    by_cases h : x ≤ t
    · rw [if_pos h]; exact (gr_sub r (t - x)).cons_cons x
    · rw [if_neg h]; exact (gr_sub r t).cons x
def cmpR : List Int → Prop
  | [] => True
  | x :: r => x ≤ isum r + 1 ∧ cmpR r
theorem gr_zero : ∀ (r : List Int) (t : Int), cmpR r → (∀ x ∈ r, 0 < x) → 0 ≤ t → t ≤ isum r → (gr r t).2 = 0
  | [], t, _, _, h0, h1 => by
    have : t ≤ 0 := h1
    show t = 0
    omega
  | x :: r, t, hc, hx, h0, h1 => by
    have h1 : t ≤ x + isum r := h1
    have hr : ∀ y ∈ r, 0 < y := fun y hy => hx y (List.mem_cons_of_mem _ hy)
    rw [gr_cons]
    by_cases h : x ≤ t
    · rw [if_pos h]; exact gr_zero r (t - x) hc.2 hr (by omega) (by omega)
    · rw [if_neg h]; exact gr_zero r t hc.2 hr h0 (by have := hc.1; omega)
theorem fj_app : ∀ (K : List Int) (T x : Int), fjI T (K ++ [x]) = none → fjI T K = none ∧ x ≤ T + isum K + 1
  | [], T, x, h => by
    rw [List.nil_append, fjI_cons] at h
    by_cases q : T + 1 < x
    · rw [if_pos q] at h; cases h
    · exact ⟨rfl, by show x ≤ T + 0 + 1; omega⟩
  | y :: K, T, x, h => by
    rw [List.cons_append, fjI_cons] at h
    rw [fjI_cons]
    by_cases q : T + 1 < y
    · rw [if_pos q] at h; cases h
    · rw [if_neg q] at h ⊢
      obtain ⟨h1, h2⟩ := fj_app K (T + y) x h
      exact ⟨h1, by show x ≤ T + (y + isum K) + 1; omega⟩
theorem fj_cmp : ∀ R : List Int, fjI 0 R.reverse = none → cmpR R
  | [], _ => trivial
  | x :: R, h => by
    rw [List.reverse_cons] at h
    obtain ⟨h1, h2⟩ := fj_app _ _ _ h
    have e : isum R.reverse = isum R := isum_perm (List.reverse_perm R)
    exact ⟨by omega, fj_cmp R h1⟩
theorem parts_mem : ∀ (L : List Int) (F : List (List Int)) (p q : List Int), p ∈ F → List.Sublist q L → p ++ q ∈ partsGo F L
  | [], F, p, q, hp, hq => by
    have : q = [] := List.sublist_nil.mp hq
    rw [this, List.append_nil]; exact hp
  | x :: r, F, p, q, hp, hq => by
    show p ++ q ∈ partsGo (F ++ F.map (· ++ [x])) r
    cases hq with
    | cons _ h => exact parts_mem r _ p q (List.mem_append_left _ hp) h
    | cons_cons _ h =>
      rename_i q'
      have := parts_mem r (F ++ F.map (· ++ [x])) (p ++ [x]) q' (List.mem_append_right _ (List.mem_map.mpr ⟨p, hp, rfl⟩)) h
      rw [List.append_assoc] at this
      exact this
/-- in a falling list: what is chosen, seen member by member -/
theorem gr_mem {x : Int} {r : List Int} {t : Int} (h : ∀ y ∈ r, y < x) : (x ∈ (gr (x :: r) t).1 ↔ x ≤ t) ∧ ∀ y ∈ r, (y ∈ (gr (x :: r) t).1 ↔ y ∈ (gr r (t - x * (if x ≤ t then 1 else 0))).1) := by
  rw [gr_cons]
  by_cases q : x ≤ t
  · rw [if_pos q, if_pos q, Int.mul_one]
    refine ⟨⟨fun _ => q, fun _ => List.mem_cons_self⟩, fun y hy => ?_⟩
    show y ∈ x :: (gr r (t - x)).1 ↔ _
    rw [List.mem_cons]
    have := h y hy
    exact ⟨fun z => z.resolve_left (by omega), .inr⟩
  · rw [if_neg q, if_neg q, Int.mul_zero, Int.sub_zero]
    refine ⟨⟨fun hm => ?_, fun z => absurd z q⟩, fun y _ => Iff.rfl⟩
    have := h x ((gr_sub r t).subset hm)
    omega
end DL

set_option Elab.async false
set_option linter.all false
set_option maxRecDepth 100000
namespace DL
/-! ### partings: column lots, hooks (plain mathematics, natural numbers) -/
/-- how many parts are above k -/
def cntP (l : List Nat) (k : Nat) : Nat := (l.filter fun p => decide (k < p)).length
/-- the column lot, falling -/
def bd : List Nat → List Nat
  | [] => []
  | p :: l => (p + l.length) :: bd l
/-- the rows of hooks -/
def rowsN : List Nat → List (List Nat)
  | [] => []
  | p :: l => ((List.range p).map fun k => p - k + cntP l k) :: rowsN l
abbrev Fall (l : List Nat) : Prop := l.Pairwise (fun a b => b ≤ a)
theorem cnt_cons (p : Nat) (l : List Nat) (k : Nat) : cntP (p :: l) k = (if k < p then 1 else 0) + cntP l k := by
  unfold cntP
  rw [List.filter_cons]
  by_cases h : k < p
  · rw [if_pos (decide_eq_true h), if_pos h, List.length_cons]; omega
  · rw [if_neg (by rw [decide_eq_false h]; exact Bool.false_ne_true), if_neg h]; omega
theorem cnt_le (l : List Nat) (k : Nat) : cntP l k ≤ l.length := List.length_filter_le _ _
theorem cnt_zero : ∀ {l : List Nat} {k : Nat}, (∀ p ∈ l, p ≤ k) → cntP l k = 0
  | [], _, _ => rfl
  | p :: l, k, h => by
    rw [cnt_cons, if_neg (by have := h p List.mem_cons_self; omega), cnt_zero fun q hq => h q (List.mem_cons_of_mem _ hq)]
theorem bd_len : ∀ l : List Nat, (bd l).length = l.length
  | [] => rfl
  | p :: l => congrArg (· + 1) (bd_len l)
theorem bd_up : ∀ {l : List Nat} {c : Nat}, (∀ p ∈ l, p ≤ c) → ∀ x ∈ bd l, x < c + l.length
  | [], _, _, _, h => nomatch h
  | p :: l, c, hc, x, h => by
    rw [List.length_cons]
    rcases List.mem_cons.mp h with e | e
    · have := hc p List.mem_cons_self; omega
    · have := bd_up (fun q hq => hc q (List.mem_cons_of_mem _ hq)) x e; omega
theorem bd_fall : ∀ {l : List Nat}, Fall l → (bd l).Pairwise (fun a b => b < a)
  | [], _ => List.Pairwise.nil
  | p :: l, h => by
    obtain ⟨h1, h2⟩ := List.pairwise_cons.mp h
    exact List.pairwise_cons.mpr ⟨fun x hx => bd_up h1 x hx, bd_fall h2⟩
/-- the k-th hole -/
def yP (l : List Nat) (k : Nat) : Nat := l.length + k - cntP l k
theorem range_split {p c : Nat} (h : p ≤ c) : List.range (c + 1) = List.range p ++ (p :: (List.range (c - p)).map (p + 1 + ·)) := by
  have e : c + 1 = p + (1 + (c - p)) := by omega
  rw [e, List.range_add, List.range_add, List.map_append, List.map_map]
  show List.range p ++ ([p + 0] ++ _) = _
  congr 1
  show (p + 0) :: _ = p :: _
  congr 1
  refine List.map_congr_left fun k _ => ?_
  show p + (1 + k) = p + 1 + k
  omega
theorem range_split' {p c : Nat} (h : p ≤ c) : List.range c = List.range p ++ (List.range (c - p)).map (p + ·) := by
  obtain ⟨d, rfl⟩ : ∃ d, c = p + d := ⟨c - p, by omega⟩
  rw [List.range_add, Nat.add_sub_cancel_left]
/-- what the column lot has not, below a bound -/
theorem holes_is : ∀ (l : List Nat) (c : Nat), Fall l → (∀ p ∈ l, p ≤ c) → (List.range (c + l.length)).filter (fun y => !decide (y ∈ bd l)) = (List.range c).map (yP l)
  | [], c, _, _ => by
    have e1 : (List.range (c + ([] : List Nat).length)).filter (fun y => !decide (y ∈ bd [])) = List.range c := by
      show (List.range (c + 0)).filter (fun y => !decide (y ∈ ([] : List Nat))) = _
      rw [Nat.add_zero]
      exact List.filter_eq_self.mpr fun y _ => by simp
    rw [e1]
    refine (List.map_id _).symm.trans (List.map_congr_left fun k _ => ?_)
    show k = 0 + k - 0
    omega
  | p :: l, c, hf, hc => by
    obtain ⟨h1, h2⟩ := List.pairwise_cons.mp hf
    have pc := hc p List.mem_cons_self
    have ih := holes_is l (c + 1) h2 (fun q hq => by have := h1 q hq; omega)
    have e : c + (p :: l).length = c + 1 + l.length := by rw [List.length_cons]; omega
    have ef : (fun y => !decide (y ∈ bd (p :: l))) = fun y => (!decide (y = p + l.length)) && (!decide (y ∈ bd l)) := by
      funext y
      have : (y ∈ bd (p :: l)) ↔ (y = p + l.length ∨ y ∈ bd l) := List.mem_cons
      by_cases a : y = p + l.length
      · rw [decide_eq_true (this.mpr (.inl a)), decide_eq_true a]; rfl
      · by_cases b : y ∈ bd l
        · rw [decide_eq_true (this.mpr (.inr b)), decide_eq_true b]; simp
        · rw [decide_eq_false (fun z => (this.mp z).elim a b), decide_eq_false a, decide_eq_false b]; rfl
    rw [e, ef, ← List.filter_filter, ih, range_split pc, List.map_append, List.map_cons, List.filter_append, List.filter_cons]
    have c0 : cntP l p = 0 := cnt_zero h1
    have y0 : yP l p = p + l.length := by unfold yP; omega
    rw [y0, if_neg (by simp)]
    have f1 : ((List.range p).map (yP l)).filter (fun y => !decide (y = p + l.length)) = (List.range p).map (yP (p :: l)) := by
      rw [List.filter_eq_self.mpr fun y hy => by
        obtain ⟨k, hk, rfl⟩ := List.mem_map.mp hy
        have hk' := List.mem_range.mp hk
        have := cnt_le l k
        rw [decide_eq_false (by unfold yP; omega)]; rfl]
      refine List.map_congr_left fun k hk => ?_
      have hk' := List.mem_range.mp hk
      unfold yP
      rw [cnt_cons, if_pos hk', List.length_cons]
      omega
    have f2 : (((List.range (c - p)).map (p + 1 + ·)).map (yP l)).filter (fun y => !decide (y = p + l.length)) = ((List.range (c - p)).map (p + ·)).map (yP (p :: l)) := by
      rw [List.map_map, List.map_map, List.filter_eq_self.mpr fun y hy => by
        obtain ⟨k, hk, rfl⟩ := List.mem_map.mp hy
        show (!decide (yP l (p + 1 + k) = p + l.length)) = true
        rw [decide_eq_false (by
          unfold yP
          rw [cnt_zero fun q hq => by have := h1 q hq; omega]; omega)]; rfl]
      refine List.map_congr_left fun k _ => ?_
      show yP l (p + 1 + k) = yP (p :: l) (p + k)
      unfold yP
      rw [cnt_cons, if_neg (by omega), cnt_zero fun q hq => by have := h1 q hq; omega, cnt_zero fun q hq => by have := h1 q hq; omega, List.length_cons]
      omega
    rw [f1, f2, ← List.map_append, ← range_split' pc]
/-- a row of hooks, by the column lot -/
theorem row_is {p : Nat} {l : List Nat} (hf : Fall (p :: l)) : ((List.range (p + l.length)).filter (fun y => !decide (y ∈ bd l))).map (fun y => p + l.length - y) = (List.range p).map fun k => p - k + cntP l k := by
  obtain ⟨h1, h2⟩ := List.pairwise_cons.mp hf
  rw [holes_is l p h2 h1, List.map_map]
  refine List.map_congr_left fun k hk => ?_
  have hk' := List.mem_range.mp hk
  have := cnt_le l k
  show p + l.length - yP l k = p - k + cntP l k
  unfold yP
  omega
/-- the conjugate -/
def conjP (l : List Nat) : List Nat := (List.range (l.headD 0)).map (cntP l)
theorem cnt_mono (l : List Nat) {j k : Nat} (h : j ≤ k) : cntP l k ≤ cntP l j := by
  induction l with
  | nil => exact Nat.le_refl _
  | cons p l ih =>
    rw [cnt_cons, cnt_cons]
    by_cases a : k < p
    · rw [if_pos a, if_pos (by omega)]; omega
    · rw [if_neg a]; omega
theorem conj_fall (l : List Nat) : Fall (conjP l) := by
  unfold conjP Fall
  rw [List.pairwise_map]
  exact List.Pairwise.imp (fun h => cnt_mono l (Nat.le_of_lt h)) List.pairwise_lt_range
/-- the j-th part is above k as often as more than j parts are above k -/
theorem cnt_get : ∀ {l : List Nat}, Fall l → ∀ (j k : Nat), (j < cntP l k ↔ k < l.getD j 0)
  | [], _, j, k => by simp [cntP]
  | p :: l, hf, j, k => by
    obtain ⟨h1, h2⟩ := List.pairwise_cons.mp hf
    rw [cnt_cons]
    cases j with
    | zero =>
      show 0 < _ ↔ k < p
      by_cases a : k < p
      · rw [if_pos a]; omega
      · rw [if_neg a, cnt_zero fun q hq => by have := h1 q hq; omega]; omega
    | succ j =>
      show _ ↔ k < l.getD j 0
      rw [← cnt_get h2 j k]
      by_cases a : k < p
      · rw [if_pos a]; omega
      · rw [if_neg a, cnt_zero fun q hq => by have := h1 q hq; omega]; omega
theorem cnt_conj {l : List Nat} (hf : Fall l) (j : Nat) : cntP (conjP l) j = l.getD j 0 := by
  unfold conjP
  have key : ∀ n : Nat, (∀ q ∈ l, q ≤ n) → cntP ((List.range n).map (cntP l)) j = l.getD j 0 := by
    intro n hn
    have e : cntP ((List.range n).map (cntP l)) j = ((List.range n).filter fun k => decide (k < l.getD j 0)).length := by
      unfold cntP
      rw [List.filter_map, List.length_map]
      congr 2
      funext k
      exact decide_eq_decide.mpr (cnt_get hf j k)
    rw [e]
    have hj : l.getD j 0 ≤ n := by
      rw [List.getD_eq_getElem?_getD]
      cases h : l[j]? with
      | none => exact Nat.zero_le _
      | some q => exact hn q (List.mem_of_getElem? h)
    generalize l.getD j 0 = m at *
    rw [range_split' hj, List.filter_append, List.length_append, List.filter_eq_self.mpr fun k hk => decide_eq_true (List.mem_range.mp hk), List.length_range, List.filter_eq_nil_iff.mpr fun k hk => by
      obtain ⟨i, _, rfl⟩ := List.mem_map.mp hk
      rw [decide_eq_false (by omega)]; exact Bool.false_ne_true]
    rfl
  refine key _ fun q hq => ?_
  cases l with
  | nil => exact nomatch hq
  | cons p l =>
    obtain ⟨h1, _⟩ := List.pairwise_cons.mp hf
    show q ≤ p
    rcases List.mem_cons.mp hq with e | e
    · omega
    · exact h1 q e
/-- turned about twice -/
theorem conj_conj {l : List Nat} (hf : Fall l) (h0 : ∀ p ∈ l, 0 < p) : conjP (conjP l) = l := by
  have hh : (conjP l).headD 0 = l.length := by
    unfold conjP
    cases l with
    | nil => rfl
    | cons p l =>
      have p0 := h0 p List.mem_cons_self
      obtain ⟨n, rfl⟩ : ∃ n, p = n + 1 := ⟨p - 1, by omega⟩
      show ((List.range (n + 1)).map (cntP ((n + 1) :: l))).headD 0 = _
      rw [List.range_succ_eq_map]
      show cntP ((n + 1) :: l) 0 = _
      unfold cntP
      rw [List.filter_eq_self.mpr fun q hq => decide_eq_true (h0 q hq)]
  have e : conjP (conjP l) = (List.range l.length).map fun j => l.getD j 0 := by
    show (List.range ((conjP l).headD 0)).map (cntP (conjP l)) = _
    rw [hh]
    exact List.map_congr_left fun j _ => cnt_conj hf j
  rw [e]
  refine List.ext_getElem (by simp) fun i h1 h2 => ?_
  rw [List.getElem_map, List.getElem_range, List.getD_eq_getElem?_getD, List.getElem?_eq_getElem h2]; rfl
end DL

set_option Elab.async false
set_option linter.all false
set_option maxRecDepth 100000
namespace DL
/-! ### hooks by places; turned about -/
theorem rows_whole : ∀ (l Z : List Nat), Fall l → (∀ z ∈ Z, ∀ x ∈ bd l, x < z) → rowsN l = (bd l).map fun x => ((List.range x).filter fun y => !decide (y ∈ Z ++ bd l)).map fun y => x - y
  | [], _, _, _ => rfl
  | p :: l, Z, hf, hz => by
    obtain ⟨h1, h2⟩ := List.pairwise_cons.mp hf
    have hx : ∀ x ∈ bd l, x < p + l.length := fun x hx => bd_up h1 x hx
    have ih := rows_whole l (Z ++ [p + l.length]) h2 (fun z hz' x hx' => by
      rcases List.mem_append.mp hz' with q | q
      · exact hz z q x (List.mem_cons_of_mem _ hx')
      · rw [List.mem_singleton] at q; rw [q]; exact hx x hx')
    show ((List.range p).map fun k => p - k + cntP l k) :: rowsN l = (((List.range (p + l.length)).filter fun y => !decide (y ∈ Z ++ bd (p :: l))).map fun y => p + l.length - y) :: ((bd l).map fun x => ((List.range x).filter fun y => !decide (y ∈ Z ++ bd (p :: l))).map fun y => x - y)
    rw [ih, ← row_is hf]
    congr 1
    · congr 1
      refine List.filter_congr fun y hy => ?_
      have hy' := List.mem_range.mp hy
      have : (y ∈ bd l) ↔ (y ∈ Z ++ bd (p :: l)) := by
        rw [List.mem_append]
        constructor
        · exact fun h => .inr (List.mem_cons_of_mem _ h)
        · rintro (h | h)
          · have := hz y h (p + l.length) List.mem_cons_self; omega
          · exact (List.mem_cons.mp h).resolve_left (by omega)
      rw [decide_eq_decide.mpr this]
    · refine List.map_congr_left fun x _ => ?_
      congr 1
      refine List.filter_congr fun y _ => ?_
      have : (y ∈ Z ++ [p + l.length] ++ bd l) ↔ (y ∈ Z ++ bd (p :: l)) := by
        show y ∈ (Z ++ [p + l.length]) ++ bd l ↔ y ∈ Z ++ (p + l.length) :: bd l
        simp
      rw [decide_eq_decide.mpr this]
theorem rows_bd {l : List Nat} (hf : Fall l) : rowsN l = (bd l).map fun x => ((List.range x).filter fun y => !decide (y ∈ bd l)).map fun y => x - y := by
  have := rows_whole l [] hf (fun z hz => nomatch hz)
  simpa using this
/-- a hook, by its row and place -/
def hookv (l : List Nat) (i k : Nat) : Nat := l.getD i 0 + cntP l k - i - k - 1
theorem rows_hook : ∀ {l : List Nat}, Fall l → rowsN l = (List.range l.length).map fun i => (List.range (l.getD i 0)).map (hookv l i)
  | [], _ => rfl
  | p :: l, hf => by
    obtain ⟨h1, h2⟩ := List.pairwise_cons.mp hf
    show ((List.range p).map fun k => p - k + cntP l k) :: rowsN l = (List.range (l.length + 1)).map _
    rw [rows_hook h2, List.range_succ_eq_map, List.map_cons, List.map_map]
    congr 1
    · refine List.map_congr_left fun k hk => ?_
      have hk' := List.mem_range.mp hk
      show p - k + cntP l k = p + cntP (p :: l) k - 0 - k - 1
      rw [cnt_cons, if_pos hk']; omega
    · refine List.map_congr_left fun i hi => ?_
      show (List.range (l.getD i 0)).map (hookv l i) = (List.range (l.getD i 0)).map (hookv (p :: l) (i + 1))
      refine List.map_congr_left fun k hk => ?_
      have hk' := List.mem_range.mp hk
      have : k < p := by
        have hi' := List.mem_range.mp hi
        have hq : l.getD i 0 ∈ l := by
          rw [List.getD_eq_getElem?_getD, List.getElem?_eq_getElem hi']
          exact List.getElem_mem hi'
        have := h1 _ hq
        omega
      show l.getD i 0 + cntP l k - i - k - 1 = l.getD i 0 + cntP (p :: l) k - (i + 1) - k - 1
      rw [cnt_cons, if_pos this]; omega
theorem flatMap_app {α β : Type} (g h : α → List β) : ∀ B : List α, (B.flatMap fun k => g k ++ h k).Perm (B.flatMap g ++ B.flatMap h)
  | [] => List.Perm.refl _
  | b :: B => by
    rw [List.flatMap_cons, List.flatMap_cons, List.flatMap_cons]
    have ih := flatMap_app g h B
    have e1 : ((g b ++ h b) ++ (B.flatMap fun k => g k ++ h k)).Perm ((g b ++ h b) ++ (B.flatMap g ++ B.flatMap h)) := List.Perm.append_left _ ih
    refine e1.trans ?_
    rw [List.append_assoc, List.append_assoc]
    refine List.Perm.append_left _ ?_
    rw [← List.append_assoc, ← List.append_assoc]
    exact List.Perm.append_right _ List.perm_append_comm
theorem swap_perm {α β γ : Type} (q : α → β → Bool) (f : α → β → γ) (B : List β) : ∀ A : List α, (A.flatMap fun i => (B.filter (q i)).map (f i)).Perm (B.flatMap fun k => (A.filter fun i => q i k).map fun i => f i k)
  | [] => by
    have : (B.flatMap fun k => (([] : List α).filter fun i => q i k).map fun i => f i k) = [] := by
      induction B with
      | nil => rfl
      | cons b B ih => rw [List.flatMap_cons, ih]; rfl
    rw [this]; exact List.Perm.refl _
  | a :: A => by
    rw [List.flatMap_cons]
    have ih := swap_perm q f B A
    refine (List.Perm.append_left _ ih).trans ?_
    have e1 : (B.filter (q a)).map (f a) = B.flatMap fun k => if q a k then [f a k] else [] := by
      induction B with
      | nil => rfl
      | cons b B ihB =>
        have ihB := ihB (swap_perm q f B A)
        rw [List.flatMap_cons, List.filter_cons, ← ihB]
        by_cases h : q a b = true
        · rw [if_pos h, if_pos h]; rfl
        · rw [if_neg h, if_neg h]; rfl
    rw [e1]
    refine (flatMap_app _ _ B).symm.trans ?_
    have e2 : (B.flatMap fun k => (if q a k then [f a k] else []) ++ ((A.filter fun i => q i k).map fun i => f i k)) = B.flatMap fun k => ((a :: A).filter fun i => q i k).map fun i => f i k := by
      congr 1
      funext k
      rw [List.filter_cons]
      by_cases h : q a k = true
      · rw [if_pos h, if_pos h]; rfl
      · rw [if_neg h, if_neg h]; rfl
    rw [e2]
theorem filter_range {m n : Nat} (h : m ≤ n) : (List.range n).filter (fun k => decide (k < m)) = List.range m := by
  rw [range_split' h, List.filter_append, List.filter_eq_self.mpr fun k hk => decide_eq_true (List.mem_range.mp hk), List.filter_eq_nil_iff.mpr fun k hk => by
    obtain ⟨i, _, rfl⟩ := List.mem_map.mp hk
    rw [decide_eq_false (by omega)]; exact Bool.false_ne_true]
  rw [List.append_nil]
theorem getD_le {l : List Nat} (hf : Fall l) (i : Nat) : l.getD i 0 ≤ l.headD 0 := by
  cases l with
  | nil => simp
  | cons p l =>
    obtain ⟨h1, _⟩ := List.pairwise_cons.mp hf
    cases i with
    | zero => exact Nat.le_refl _
    | succ i =>
      show l.getD i 0 ≤ p
      rw [List.getD_eq_getElem?_getD]
      cases h : l[i]? with
      | none => exact Nat.zero_le _
      | some q => exact h1 q (List.mem_of_getElem? h)
theorem conj_get {l : List Nat} (hf : Fall l) (k : Nat) : (conjP l).getD k 0 = cntP l k := by
  unfold conjP
  rw [List.getD_eq_getElem?_getD, List.getElem?_map]
  by_cases h : k < l.headD 0
  · rw [List.getElem?_eq_getElem (by rw [List.length_range]; exact h), List.getElem_range]; rfl
  · rw [List.getElem?_eq_none (by rw [List.length_range]; omega)]
    show 0 = cntP l k
    rw [cnt_zero fun p hp => ?_]
    obtain ⟨i, hi, rfl⟩ := List.getElem_of_mem hp
    have := getD_le hf i
    rw [List.getD_eq_getElem?_getD, List.getElem?_eq_getElem hi] at this
    have : l[i] ≤ l.headD 0 := this
    omega
/-- the hooks of a parting and of it turned about are the same ones -/
theorem hooks_conj {l : List Nat} (hf : Fall l) : (rowsN l).flatten.Perm (rowsN (conjP l)).flatten := by
  have e1 : (rowsN l).flatten = (List.range l.length).flatMap fun i => ((List.range (l.headD 0)).filter fun k => decide (k < l.getD i 0)).map (hookv l i) := by
    rw [rows_hook hf, List.flatten_eq_flatMap, List.flatMap_map]
    congr 1
    funext i
    rw [filter_range (getD_le hf i)]; rfl
  have hl : (conjP l).length = l.headD 0 := by unfold conjP; rw [List.length_map, List.length_range]
  have e2 : (rowsN (conjP l)).flatten = (List.range (l.headD 0)).flatMap fun k => ((List.range l.length).filter fun i => decide (k < l.getD i 0)).map fun i => hookv l i k := by
    rw [rows_hook (conj_fall l), List.flatten_eq_flatMap, List.flatMap_map, hl]
    congr 1
    funext k
    have ef : ((List.range l.length).filter fun i => decide (k < l.getD i 0)) = List.range ((conjP l).getD k 0) := by
      rw [conj_get hf, ← filter_range (cnt_le l k)]
      refine List.filter_congr fun i _ => ?_
      exact decide_eq_decide.mpr (cnt_get hf i k).symm
    rw [ef]
    show (List.range ((conjP l).getD k 0)).map (hookv (conjP l) k) = _
    refine List.map_congr_left fun i _ => ?_
    show (conjP l).getD k 0 + cntP (conjP l) i - k - i - 1 = l.getD i 0 + cntP l k - i - k - 1
    rw [conj_get hf, cnt_conj hf]
    omega
  rw [e1, e2]
  exact swap_perm (fun i k => decide (k < l.getD i 0)) (fun i k => hookv l i k) _ _
/-! cores -/
def coreB (l : List Nat) (s : Nat) : Bool := (bd l).all fun x => !decide (s ≤ x) || decide (x - s ∈ bd l)
theorem core_iff {l : List Nat} {s : Nat} : coreB l s = true ↔ ∀ x ∈ bd l, s ≤ x → x - s ∈ bd l := by
  unfold coreB
  rw [List.all_eq_true]
  constructor
  · intro h x hx hs
    have := h x hx
    rw [decide_eq_true hs] at this
    simpa using this
  · intro h x hx
    by_cases hs : s ≤ x
    · rw [decide_eq_true (h x hx hs)]; simp
    · rw [decide_eq_false hs]; rfl
theorem hook_mem {l : List Nat} (hf : Fall l) {h : Nat} : h ∈ (rowsN l).flatten ↔ ∃ x ∈ bd l, ∃ y, y < x ∧ y ∉ bd l ∧ h = x - y := by
  rw [rows_bd hf, List.mem_flatten]
  constructor
  · rintro ⟨r, hr, hh⟩
    obtain ⟨x, hx, rfl⟩ := List.mem_map.mp hr
    obtain ⟨y, hy, rfl⟩ := List.mem_map.mp hh
    obtain ⟨h1, h2⟩ := List.mem_filter.mp hy
    exact ⟨x, hx, y, List.mem_range.mp h1, by simpa using h2, rfl⟩
  · rintro ⟨x, hx, y, h1, h2, rfl⟩
    exact ⟨_, List.mem_map.mpr ⟨x, hx, rfl⟩, List.mem_map.mpr ⟨y, List.mem_filter.mpr ⟨List.mem_range.mpr h1, by simpa using h2⟩, rfl⟩⟩
theorem core_hook {l : List Nat} (hf : Fall l) {s : Nat} (hs : 1 ≤ s) : coreB l s = !decide (s ∈ (rowsN l).flatten) := by
  by_cases h : coreB l s = true
  · rw [h, decide_eq_false]; rfl
    intro hm
    obtain ⟨x, hx, y, h1, h2, e⟩ := (hook_mem hf).mp hm
    have := core_iff.mp h x hx (by omega)
    rw [show x - s = y by omega] at this
    exact h2 this
  · have h' : coreB l s = false := by cases q : coreB l s <;> first | rfl | exact absurd q h
    rw [h', decide_eq_true]; rfl
    have : ¬ ∀ x ∈ bd l, s ≤ x → x - s ∈ bd l := fun q => h (core_iff.mpr q)
    have : ∃ x ∈ bd l, s ≤ x ∧ x - s ∉ bd l := by
      apply Classical.byContradiction
      intro q
      exact this fun x hx hsx => Classical.byContradiction fun z => q ⟨x, hx, hsx, z⟩
    obtain ⟨x, hx, hsx, hn⟩ := this
    exact (hook_mem hf).mpr ⟨x, hx, x - s, by omega, hn, by omega⟩
theorem core_div {l : List Nat} (hf : Fall l) {s : Nat} (hs : 1 ≤ s) (hc : coreB l s = true) : ∀ h ∈ (rowsN l).flatten, h % s ≠ 0 := by
  intro h hm e
  obtain ⟨x, hx, y, h1, h2, rfl⟩ := (hook_mem hf).mp hm
  obtain ⟨q, hq⟩ := Nat.dvd_of_mod_eq_zero e
  have key : ∀ (q x : Nat), x ∈ bd l → y < x → x - y = s * q → y ∈ bd l := by
    intro q
    induction q with
    | zero => intro x _ a b; rw [Nat.mul_zero] at b; omega
    | succ q ih =>
      intro x hx a b
      rw [Nat.mul_succ] at b
      have hx' := core_iff.mp hc x hx (by omega)
      by_cases z : y < x - s
      · exact ih (x - s) hx' z (by omega)
      · have : x - s = y := by omega
        rw [← this]; exact hx'
  exact h2 (key q x hx h1 hq)
theorem core_conj {l : List Nat} (hf : Fall l) {s : Nat} (hs : 1 ≤ s) : coreB (conjP l) s = coreB l s := by
  rw [core_hook hf hs, core_hook (conj_fall l) hs]
  congr 1
  exact decide_eq_decide.mpr (hooks_conj hf).mem_iff.symm
end DL

set_option Elab.async false
set_option linter.all false
set_option maxRecDepth 100000
namespace DL
noncomputable section
open PySem PySem.Spec PyProof.Rows L2
def cN (l : List Nat) : List Int := l.map fun (n : Nat) => (n : Int)
abbrev TN (l : List Nat) : D := .tup (IL (cN l))
abbrev LN (l : List Nat) : D := .lst (IL (cN l))
theorem cN_len (l : List Nat) : (IL (cN l)).length = l.length := by rw [List.length_map]; exact List.length_map _
theorem cN_app (l m : List Nat) : cN (l ++ m) = cN l ++ cN m := List.map_append
theorem cN_rev (l : List Nat) : cN l.reverse = (cN l).reverse := List.map_reverse
theorem rev_IL (L : List Int) : (IL L).reverse = IL L.reverse := by unfold IL; rw [List.map_reverse]
theorem IL_app (l m : List Int) : IL (l ++ m) = IL l ++ IL m := List.map_append
theorem anyq_cN (x : Nat) : ∀ l : List Nat, anyq (.int (x : Int)) (IL (cN l)) = decide (x ∈ l)
  | [] => rfl
  | a :: r => by
    show (match ieq (a : Int) (x : Int) with | true => true | false => anyq (.int (x : Int)) (IL (cN r))) = _
    rw [ieq_eq, anyq_cN x r]
    by_cases h : a = x
    · rw [decide_eq_true (by omega : (a : Int) = (x : Int)), h]; simp
    · rw [decide_eq_false (by omega : ¬ (a : Int) = (x : Int))]
      have : (x ∈ a :: r) ↔ x ∈ r := by
        rw [List.mem_cons]
        exact ⟨fun q => q.elim (fun e => absurd e.symm h) id, .inr⟩
      exact decide_eq_decide.mpr this.symm
def enMap {α : Type} (g : Int → Int → α) : Int → List Int → List α
  | _, [] => []
  | k, a :: r => g k a :: enMap g (k + 1) r
theorem mapC_en {i j : Nat} {e : Ev → T D} {ρ : Ev} {g : Int → Int → D} : ∀ {l : List Int} {k : Int}, (∀ (q : Int) (a : Int), a ∈ l → k ≤ q → q < k + l.length → e ((ρ.put i (.sh (.int q))).put j (.sh (.int a))) = .ok (g q a)) → mapC (.t [.v i, .v j]) fYes e ρ (enD k (IL l)) = .ok (enMap g k l)
  | [], _, _ => rfl
  | a :: r, k, h => by
    show ((e ((ρ.put i (.sh (.int k))).put j (.sh (.int a)))).bind fun y => (mapC (.t [.v i, .v j]) fYes e ρ (enD (k + 1) (IL r))).bind fun ys => T.ok (y :: ys)) = _
    rw [h k a List.mem_cons_self (Int.le_refl _) (by rw [List.length_cons]; omega), mapC_en (k := k + 1) fun q b hb h1 h2 => h q b (List.mem_cons_of_mem _ hb) (by omega) (by rw [List.length_cons]; omega)]; rfl
theorem enMap_app {α : Type} (g : Int → Int → α) : ∀ (l m : List Int) (k : Int), enMap g k (l ++ m) = enMap g k l ++ enMap g (k + l.length) m
  | [], m, k => by show enMap g k m = enMap g (k + ((0 : Nat) : Int)) m; rw [Int.natCast_zero, Int.add_zero]
  | a :: l, m, k => by
    show g k a :: enMap g (k + 1) (l ++ m) = g k a :: (enMap g (k + 1) l ++ enMap g (k + ((l.length + 1 : Nat) : Int)) m)
    rw [enMap_app g l m (k + 1), show k + 1 + (l.length : Int) = k + ((l.length + 1 : Nat) : Int) by omega]
theorem rgD_cN : ∀ (n lo : Nat), rgD (lo : Int) n = IL (cN ((List.range n).map (lo + ·)))
  | 0, _ => rfl
  | n + 1, lo => by
    rw [List.range_succ_eq_map, List.map_cons, List.map_map]
    show D.int (lo : Int) :: rgD ((lo : Int) + 1) n = D.int ((lo + 0 : Nat) : Int) :: _
    rw [show ((lo : Int) + 1) = ((lo + 1 : Nat) : Int) by omega, rgD_cN n (lo + 1)]
    congr 2
    congr 1
    refine List.map_congr_left fun k _ => ?_
    show lo + 1 + k = lo + (k + 1)
    omega
theorem rg0 (n : Nat) : rgD 0 n = IL (cN (List.range n)) := by
  have := rgD_cN n 0
  rw [show ((0 : Nat) : Int) = 0 from rfl] at this
  rw [this]
  congr 2
  exact (List.map_congr_left fun k _ => Nat.zero_add k).trans (List.map_id _)
theorem i62_n {n : Nat} (h : n < 100000) : i62 (n : Int) = true := by
  unfold i62
  rw [Bool.and_eq_true]
  exact ⟨ilt_iff.mpr (by omega), ile_iff.mpr (by omega)⟩
theorem mapC_ifN {j : Nat} {t : Ev → T Bool} {e : Ev → T D} {ρ : Ev} {g : Nat → D} {c : Nat → Bool} {l : List Nat} (h1 : ∀ a ∈ l, t (ρ.put j (.sh (.int (a : Int)))) = .ok (c a)) (h2 : ∀ a ∈ l, c a = true → e (ρ.put j (.sh (.int (a : Int)))) = .ok (g a)) : mapC (.v j) t e ρ (IL (cN l)) = .ok ((l.filter c).map g) := by
  have e1 : IL (cN l) = l.map fun (a : Nat) => D.int (a : Int) := by unfold IL cN; rw [List.map_map]; rfl
  rw [e1]
  exact mapC_if h1 h2
theorem mapC_yesN {j : Nat} {e : Ev → T D} {ρ : Ev} {g : Nat → D} {l : List Nat} (h2 : ∀ a ∈ l, e (ρ.put j (.sh (.int (a : Int)))) = .ok (g a)) : mapC (.v j) fYes e ρ (IL (cN l)) = .ok (l.map g) := by
  have e1 : IL (cN l) = l.map fun (a : Nat) => D.int (a : Int) := by unfold IL cN; rw [List.map_map]; rfl
  rw [e1]
  exact mapC_yes h2
theorem map_int (l : List Nat) : (l.map fun (a : Nat) => D.int (a : Int)) = IL (cN l) := by unfold IL cN; rw [List.map_map]; rfl
theorem msort_uniq {S R : List Int} (hR : R.Pairwise (· ≤ ·)) (hp : R.Perm S) : msort ile S = R := by
  rw [msort_eq ile_total]
  refine List.Perm.eq_of_pairwise (le := fun a b => ile a b = true) (fun a b _ _ h1 h2 => Int.le_antisymm (ile_iff.mp h1) (ile_iff.mp h2)) (PySem.W.sort_pairwise ile_total S) (hR.imp fun h => ile_iff.mpr h) ?_
  exact (List.mergeSort_perm S ile).trans hp.symm
theorem pls_TN (n : Nat) : ∀ R : List (List Nat), pls (n + 1) (R.map TN) = true
  | [] => rfl
  | a :: r => by
    show (pls n (IL (cN a)) && pls (n + 1) (r.map TN)) = true
    rw [pls_IL, pls_TN n r]; rfl
theorem short_IL : ∀ {S : List Nat}, (∀ x ∈ S, x < 100000) → shorts (IL (cN S)) = true
  | [], _ => rfl
  | a :: r, h => by
    have ha := h a List.mem_cons_self
    show (Nat.blt ((a : Int)).natAbs.log2 1900 && shorts (IL (cN r))) = true
    rw [short_IL fun x hx => h x (List.mem_cons_of_mem _ hx)]
    have e17 : (2 : Int) ^ 17 = 131072 := by decide
    have := lg (e := 17) (a := (a : Int)) (by omega) (by omega)
    rw [nblt.mpr (by omega)]; rfl
theorem bulk_IL : ∀ S : List Nat, bulkDs (IL (cN S)) = S.length
  | [] => rfl
  | a :: r => by
    show 0 + 1 + bulkDs (IL (cN r)) = _
    rw [bulk_IL r, List.length_cons]; omega
theorem mSh_ok {f : Ev → T D} {m : Ev → T (List Sl)} {ρ : Ev} {d : D} {r : List Sl} (h1 : f ρ = .ok d) (h2 : m ρ = .ok r) : mSh f m ρ = .ok (.sh d :: r) := by
  show ((f ρ).bind fun a => (m ρ).bind fun r => T.ok (Sl.sh a :: r)) = _
  rw [h1, h2]; rfl
theorem par_ok {is : List Nat} {m : Ev → T (List Sl)} {ρ : Ev} {ss : List Sl} (h : m ρ = .ok ss) (hl : Nat.beq ss.length is.length = true := by rfl) : fParM is m ρ = .ok (.nx (putAll ρ is ss)) := by
  show ((m ρ).bind fun ss => tIf (Nat.beq ss.length is.length) (T.ok (Res.nx (putAll ρ is ss)))) = _
  rw [h]
  show tIf (Nat.beq ss.length is.length) _ = _
  rw [hl]; rfl
theorem repr_ok' {f : Ev → T D} {ρ : Ev} {d : D} (h : f ρ = .ok d) (hr : rOk d = true) : fFn (on1 dRepr) (fCons f fNil) ρ = .ok (.txt d) := by
  refine (fn_ok (cons_ok h rfl)).trans ?_
  show tIf (rOk d) (T.ok (D.txt d)) = _
  rw [hr]; rfl
def Leads (F : Ev → T Res) (P P' : Ev) : Prop := ∀ ρ, EvLe P ρ → ∃ u, F ρ = .ok (.nx u) ∧ EvLe P' u
theorem Leads.of {F : Ev → T Res} {P P' u : Ev} (h : F P = .ok (.nx u)) (le : EvLe P' u) (hF : HS F F) : Leads F P P' := fun ρ hρ => by
  have k := hF P ρ hρ
  rw [h] at k
  cases hq : F ρ with
  | no => rw [hq] at k; exact k.elim
  | pk _ _ => rw [hq] at k; exact k.elim
  | ok r =>
    rw [hq] at k
    cases r with
    | rt _ => exact k.elim
    | nx u' => exact ⟨u', rfl, le.trans k⟩
theorem Leads.seq {F G : Ev → T Res} {P P' P'' : Ev} (h1 : Leads F P P') (h2 : Leads G P' P'') : Leads (fSeq F G) P P'' := fun ρ hρ => by
  obtain ⟨u, e, le⟩ := h1 ρ hρ
  obtain ⟨u', e', le'⟩ := h2 u le
  exact ⟨u', (seq_ok e).trans e', le'⟩
theorem loop_L {P : Ev} {p : Pat} {body : Ev → T Res} (hb : HS body body) : ∀ (ds : List D), (∀ d ∈ ds, ∃ t1, bindP p d P = .ok t1 ∧ Leads body t1 P) → Leads (foldB p body ds) P P
  | [], _ => fun ρ hρ => ⟨ρ, rfl, hρ⟩
  | d :: ds, hc => fun ρ hρ => by
    obtain ⟨t1, e1, l1⟩ := hc d List.mem_cons_self
    have k1 := h_bindP hρ p d
    rw [e1] at k1
    cases hq : bindP p d ρ with
    | no => rw [hq] at k1; exact k1.elim
    | pk _ _ => rw [hq] at k1; exact k1.elim
    | ok ρ1 =>
      rw [hq] at k1
      obtain ⟨u, e, le⟩ := l1 ρ1 k1
      obtain ⟨u', e', le'⟩ := loop_L hb ds (fun d' hd' => hc d' (List.mem_cons_of_mem _ hd')) u le
      refine ⟨u', ?_, le'⟩
      show (bindP p d ρ).bind _ = _
      rw [hq]
      show (body ρ1).bind _ = _
      rw [e]; exact e'
theorem msort_perm {A B : List Int} (h : A.Perm B) : msort ile A = msort ile B := by
  rw [msort_eq ile_total, msort_eq ile_total]
  refine List.Perm.eq_of_pairwise (le := fun a b => ile a b = true) (fun a b _ _ h1 h2 => Int.le_antisymm (ile_iff.mp h1) (ile_iff.mp h2)) (PySem.W.sort_pairwise ile_total A) (PySem.W.sort_pairwise ile_total B) ?_
  exact (List.mergeSort_perm A ile).trans (h.trans (List.mergeSort_perm B ile).symm)
theorem loop_W {t0 : Ev} {p : Pat} {body : Ev → T Res} (hb : HS body body) : ∀ (ds : List D) (ρ : Ev), EvLe t0 ρ → (∀ d ∈ ds, ∃ t1, bindP p d t0 = .ok t1 ∧ WP (body t1) fun r => ∃ u, r = .nx u ∧ EvLe t0 u) →
    WP (foldB p body ds ρ) fun r => ∃ ρ', r = .nx ρ' ∧ EvLe t0 ρ'
  | [], ρ, h, _ => ⟨ρ, rfl, h⟩
  | d :: ds, ρ, h, hc => by
    obtain ⟨t1, e1, w⟩ := hc d List.mem_cons_self
    have k1 := h_bindP h p d
    rw [e1] at k1
    show WP ((bindP p d ρ).bind _) _
    cases hq : bindP p d ρ with
    | no => rw [hq] at k1; exact k1.elim
    | pk _ _ => rw [hq] at k1; exact k1.elim
    | ok ρ1 =>
      rw [hq] at k1
      have w2 : WP (body ρ1) fun r => ∃ u, r = .nx u ∧ EvLe t0 u := T.leR_wp (R := ResLe) (fun a b e ⟨u, q, le⟩ => by
        subst q
        cases b with
        | rt _ => exact e.elim
        | nx u' => exact ⟨u', rfl, le.trans e⟩) (hb t1 ρ1 k1) w
      show WP ((body ρ1).bind _) _
      refine wp_bind (w2.mono fun r ⟨u, e, le⟩ => ?_)
      subst e
      exact loop_W hb ds u le fun d' hd' => hc d' (List.mem_cons_of_mem _ hd')
end
end DL

set_option Elab.async false
set_option linter.all false
set_option maxRecDepth 100000
namespace DL
noncomputable section
open PySem PySem.Spec PyProof.Rows L2
/-! ### reading a piece of a body: by simp -/
/-- a number as data -/
abbrev nI (n : Nat) : D := .int (n : Int)
theorem IL_cN (l : List Nat) : IL (cN l) = l.map nI := by unfold IL cN; rw [List.map_map]; rfl
section
variable {ρ : Ev} {α β : Type}
theorem r_bind {a : α} {f : α → T β} : (T.ok a).bind f = f a := rfl
theorem r_fBin {fo : D → D → T D} {f g : Ev → T D} : fBin fo f g ρ = (f ρ).bind fun a => (g ρ).bind fun b => fo a b := rfl
theorem r_fUn {fo : D → T D} {f : Ev → T D} : fUn fo f ρ = (f ρ).bind fo := rfl
theorem r_fNil : fNil ρ = .ok [] := rfl
theorem r_fCons {f : Ev → T D} {g : Ev → T (List D)} : fCons f g ρ = (f ρ).bind fun a => (g ρ).bind fun r => .ok (a :: r) := rfl
theorem r_fSta {f : Ev → T D} {g : Ev → T (List D)} : fSta f g ρ = (f ρ).bind fun d => match partsOf d with
  | some xs => (g ρ).bind fun r => .ok (xs ++ r)
  | none => .no := rfl
theorem r_fV {i : Nat} : fV i ρ = match ρ.at i with
  | .sh d => .ok d
  | _ => .no := rfl
theorem r_fVb {i : Nat} : fVb i ρ = match ρ.at i with
  | .sh d => .ok d
  | .own d => .ok d
  | .lent d => .ok d
  | .non => .no := by unfold fVb; cases ρ.at i <;> rfl
theorem r_at0 {x : Sl} {r : Ev} : Ev.at (x :: r) 0 = x := rfl
theorem r_atS {x : Sl} {r : Ev} {n : Nat} : Ev.at (x :: r) (n + 1) = r.at n := rfl
theorem r_put0 {x s : Sl} {r : Ev} : Ev.put (x :: r) 0 s = s :: r := rfl
theorem r_putS {x s : Sl} {r : Ev} {n : Nat} : Ev.put (x :: r) (n + 1) s = x :: Ev.put r n s := rfl
theorem r_fCn {n : Nat} : fC (.int (no_index (OfNat.ofNat n))) ρ = .ok (.int ((OfNat.ofNat n : Nat) : Int)) := rfl
theorem r_fCb {b : Bool} : fC (.bl b) ρ = .ok (.bl b) := rfl
theorem r_fCs {b : Str} : fC (.str b) ρ = .ok (.str b) := rfl
theorem r_fC0 : fC .non ρ = .ok .non := rfl
theorem r_fTup {g : Ev → T (List D)} : fTup g ρ = (g ρ).bind fun ds => tIf (lenOk ds.length) (.ok (.tup ds)) := rfl
theorem r_fLst {g : Ev → T (List D)} : fLst g ρ = (g ρ).bind fun ds => tIf (lenOk ds.length) (.ok (.lst ds)) := rfl
theorem r_fFn {fo : List D → T D} {g : Ev → T (List D)} : fFn fo g ρ = (g ρ).bind fo := rfl
theorem r_on1 {f : D → T D} {d : D} : on1 f [d] = f d := rfl
theorem r_fCall {n : Nat} {F : List D → T D} {g : Ev → T (List D)} : fCall n F g ρ = (g ρ).bind fun ds => tIf (Nat.beq ds.length n) (F ds) := rfl
theorem r_fTb {f : Ev → T D} : fTb f ρ = (f ρ).bind blD := rfl
theorem r_blD {b : Bool} : blD (.bl b) = .ok b := rfl
theorem r_fTru {f : Ev → T D} : fTru f ρ = (f ρ).bind truD := rfl
theorem r_truB {b : Bool} : truD (.bl b) = .ok b := rfl
theorem r_fAnd {f g : Ev → T Bool} : fAnd f g ρ = (f ρ).bind fun c => match c with
  | true => g ρ
  | false => .ok false := rfl
theorem r_fOr {f g : Ev → T Bool} : fOr f g ρ = (f ρ).bind fun c => match c with
  | true => .ok true
  | false => g ρ := rfl
theorem r_fNot {f : Ev → T Bool} : fNot f ρ = (f ρ).bind fun c => .ok (!c) := rfl
theorem r_fAndV {f g : Ev → T D} : fAndV f g ρ = (f ρ).bind fun d => (blD d).bind fun c => match c with
  | true => g ρ
  | false => .ok (.bl false) := rfl
theorem r_fOrV {f g : Ev → T D} : fOrV f g ρ = (f ρ).bind fun d => (blD d).bind fun c => match c with
  | true => .ok (.bl true)
  | false => g ρ := rfl
theorem r_fNotV {f : Ev → T D} : fNotV f ρ = (f ρ).bind fun d => (blD d).bind fun c => .ok (.bl (!c)) := rfl
theorem r_fIf {c : Ev → T Bool} {f g : Ev → T D} : fIf c f g ρ = (c ρ).bind fun b => match b with
  | true => f ρ
  | false => g ρ := rfl
theorem r_fSl {f : Ev → T D} {l u : Ev → T (Option Int)} : fSl f l u ρ = (f ρ).bind fun d => (l ρ).bind fun a => (u ρ).bind fun b => dCut d a b := rfl
theorem r_fNo : fNo ρ = .ok none := rfl
theorem r_fSo {f : Ev → T D} : fSo f ρ = (f ρ).bind fun d => (inD d).bind fun i => .ok (some i) := rfl
theorem r_inD {i : Int} : inD (.int i) = .ok i := rfl
theorem r_fNx : fNx ρ = .ok (.nx ρ) := rfl
theorem r_fSeq {F G : Ev → T Res} : fSeq F G ρ = (F ρ).bind fun r => match r with
  | .nx ρ' => G ρ'
  | .rt d => .ok (.rt d) := rfl
theorem r_fRet {f : Ev → T D} : fRet f ρ = (f ρ).bind fun d => .ok (.rt d) := rfl
theorem r_fIfS {c : Ev → T Bool} {F G : Ev → T Res} : fIfS c F G ρ = (c ρ).bind fun b => match b with
  | true => F ρ
  | false => G ρ := rfl
theorem r_fSet {i : Nat} {f : Ev → T D} : fSet i f ρ = (f ρ).bind fun d => .ok (.nx (ρ.put i (.sh d))) := rfl
theorem r_fSetF {i : Nat} {f : Ev → T D} : fSetF i f ρ = (f ρ).bind fun d => .ok (.nx (ρ.put i (.own d))) := rfl
theorem r_mNil : mNil ρ = .ok [] := rfl
theorem r_mSh {f : Ev → T D} {g : Ev → T (List Sl)} : mSh f g ρ = (f ρ).bind fun a => (g ρ).bind fun r => .ok (.sh a :: r) := rfl
theorem r_mOw {f : Ev → T D} {g : Ev → T (List Sl)} : mOw f g ρ = (f ρ).bind fun a => (g ρ).bind fun r => .ok (.own a :: r) := rfl
theorem r_fParM {is : List Nat} {f : Ev → T (List Sl)} : fParM is f ρ = (f ρ).bind fun ss => tIf (Nat.beq ss.length is.length) (.ok (.nx (putAll ρ is ss))) := rfl
theorem r_putAll {i : Nat} {is : List Nat} {s : Sl} {ss : List Sl} : putAll ρ (i :: is) (s :: ss) = putAll (ρ.put i s) is ss := rfl
theorem r_putAll0 : putAll ρ [] [] = ρ := rfl
theorem r_bv {i : Nat} {d : D} : bindP (.v i) d ρ = .ok (ρ.put i (.sh d)) := by unfold bindP; rfl
theorem r_bt {ps : List Pat} {ds : List D} : bindP (.t ps) (.tup ds) ρ = bindPs ps ds ρ := by rw [bindP]
theorem r_b0 : bindPs [] [] ρ = .ok ρ := by rw [bindPs]
theorem r_bs {p : Pat} {ps : List Pat} {d : D} {ds : List D} : bindPs (p :: ps) (d :: ds) ρ = (bindP p d ρ).bind fun ρ' => bindPs ps ds ρ' := by rw [bindPs]
theorem r_fAsg {f : Ev → T D} {p : Pat} : fAsg f p ρ = (f ρ).bind fun d => (bindP p d ρ).bind fun ρ' => .ok (.nx ρ') := rfl
theorem r_fDem {i : Nat} {F : Ev → T Res} : fDem i F ρ = F (dem i ρ) := rfl
theorem r_dem {i : Nat} : dem i ρ = match ρ.at i with
  | .own d => ρ.put i (.sh d)
  | _ => ρ := rfl
theorem r_fMut {i : Nat} {m : D → D → T D} {f : Ev → T D} : fMut i m f ρ = match ρ.at i with
  | .own d => (f ρ).bind fun a => (m d a).bind fun d' => .ok (.nx (ρ.put i (.own d')))
  | _ => .no := rfl
theorem r_mApp {ds : List D} {a : D} : mAppend (.lst ds) a = tIf (Nat.blt ds.length sizeLine) (.ok (.lst (ds ++ [a]))) := rfl
theorem r_mExt {ds es : List D} : mExtend (.lst ds) (.lst es) = tIf (lenOk (ds.length + es.length)) (.ok (.lst (ds ++ es))) := rfl
theorem r_fPutL {i : Nat} {fk fv : Ev → T D} : fPut i fk fv ρ = match ρ.at i with
  | .own d => (fv ρ).bind fun v => (fk ρ).bind fun k => (match d with
      | .lst ds => match k with
        | .int n => match ixN ds.length n with
          | some j => T.ok (D.lst (ds.set j v))
          | none => .no
        | _ => .no
      | .dct tk kvs => match keyOf tk k with
        | some q => tIf (Nat.blt kvs.length sizeLine) (.ok (.dct tk (putD kvs q v)))
        | none => .no
      | _ => .no).bind fun d' => .ok (.nx (ρ.put i (.own d')))
  | _ => .no := rfl
theorem r_fParts {f : Ev → T D} : fParts f ρ = (f ρ).bind fun d => match partsOf d with
  | some ds => .ok ds
  | none => .no := rfl
theorem r_pl {ds : List D} : partsOf (.lst ds) = some ds := rfl
theorem r_pt {ds : List D} : partsOf (.tup ds) = some ds := rfl
theorem r_fRng1 {g : Ev → T (List D)} : fRng1 g ρ = (g ρ).bind rng1 := rfl
theorem r_fRng2 {g : Ev → T (List D)} : fRng2 g ρ = (g ρ).bind rng2 := rfl
theorem r_fEn {g : Ev → T (List D)} : fEn g ρ = (g ρ).bind enO := rfl
theorem r_fZp {g : Ev → T (List D)} : fZp g ρ = (g ρ).bind zpO := rfl
theorem r_fLc {vs : List Nat} {it : Ev → T (List D)} {p : Pat} {t : Ev → T Bool} {e : Ev → T D} : fLc vs it p t e ρ = (it ρ).bind fun ds => tIf (lenOk ds.length) ((mapC p t e (wipeE (lend ρ) vs) ds).bind fun ys => .ok (.lst ys)) := rfl
theorem r_fFor {it : Ev → T (List D)} {p : Pat} {b : Ev → T Res} : fFor it p b ρ = (it ρ).bind fun ds => foldB p b ds ρ := rfl
theorem r_tIf {m : T α} : tIf true m = m := rfl
theorem r_outR {d : D} : outD (.rt d) = .ok d := rfl
theorem r_outN {ρ : Ev} : outD (.nx ρ) = .ok .non := rfl
end
/-! operations -/
section
variable {a b i n : Nat}
theorem r_add {x y : Int} : dAdd (.int x) (.int y) = .ok (.int (x + y)) := rfl
theorem r_sub : b ≤ a → dSub (.int (a : Int)) (.int (b : Int)) = .ok (.int ((a - b : Nat) : Int)) := fun h => by
  show T.ok (D.int ((a : Int) - (b : Int))) = _
  rw [Int.ofNat_sub h]
theorem lg60 {x : Int} (h0 : -1152921504606846976 < x) (h : x < 1152921504606846976) : x.natAbs.log2 ≤ 60 := by
  by_cases z : x.natAbs = 0
  · rw [z]; exact Nat.le_trans (by decide : Nat.log2 0 ≤ 0) (Nat.zero_le _)
  · refine Nat.le_of_lt ((Nat.log2_lt z).mpr ?_)
    have : (2 : Nat) ^ 60 = 1152921504606846976 := by decide
    omega
theorem r_mul {x y : Int} (h1 : -1152921504606846976 < x ∧ x < 1152921504606846976) (h2 : -1152921504606846976 < y ∧ y < 1152921504606846976) : dMul (.int x) (.int y) = .ok (.int (x * y)) := by
  show tIf (mulOk x y) _ = _
  have : mulOk x y = true := by
    unfold mulOk
    have := lg60 h1.1 h1.2
    have := lg60 h2.1 h2.2
    exact nblt.mpr (by omega)
  rw [this]; rfl
theorem r_div {x y : Int} (h : 0 < y ∧ y < 1152921504606846976) : dDiv (.int x) (.int y) = .ok (.int (x / y)) := by
  show tIf (ilt 0 y && Nat.blt y.natAbs.log2 9000) _ = _
  have := lg60 (x := y) (by omega) h.2
  rw [ilt_iff.mpr h.1, nblt.mpr (by omega)]; rfl
theorem r_mod {x y : Int} (h : 0 < y) : dMod (.int x) (.int y) = .ok (.int (x % y)) := by
  show tIf (ilt 0 y) _ = _
  rw [ilt_iff.mpr h]; rfl
theorem r_neg {x : Int} : dNeg (.int x) = .ok (.int (-x)) := rfl
theorem r_lt {x y : Int} : dLt (.int x) (.int y) = .ok (.bl (decide (x < y))) := by show T.ok (D.bl (ilt x y)) = _; rw [ilt_eq]
theorem r_le {x y : Int} : dLe (.int x) (.int y) = .ok (.bl (decide (x ≤ y))) := by show T.ok (D.bl (ile x y)) = _; rw [ile_eq]
theorem r_gt {x y : Int} : dGt (.int x) (.int y) = .ok (.bl (decide (y < x))) := by show T.ok (D.bl (ilt y x)) = _; rw [ilt_eq]
theorem r_ge {x y : Int} : dGe (.int x) (.int y) = .ok (.bl (decide (y ≤ x))) := by show T.ok (D.bl (ile y x)) = _; rw [ile_eq]
theorem r_eq {x y : Int} : dEq (.int x) (.int y) = .ok (.bl (decide (x = y))) := by show T.ok (D.bl (ieq x y)) = _; rw [ieq_eq]
theorem r_ne {x y : Int} : dNe (.int x) (.int y) = .ok (.bl (!decide (x = y))) := by show T.ok (D.bl (!ieq x y)) = _; rw [ieq_eq]
theorem r_isB {n : Bool} {x y : Bool} : dIs n (.bl x) (.bl y) = .ok (.bl (if n then !(x == y) else x == y)) := rfl
theorem r_isN {n : Bool} {x : Int} : dIs n (.int x) .non = .ok (.bl n) := rfl
theorem r_isT {n : Bool} {x : List D} : dIs n (.tup x) .non = .ok (.bl n) := rfl
theorem r_isNN {n : Bool} : dIs n .non .non = .ok (.bl (!n)) := rfl
theorem r_len {ds : List D} : dLen (.lst ds) = .ok (.int (ds.length : Nat)) := rfl
theorem r_lenT {ds : List D} : dLen (.tup ds) = .ok (.int (ds.length : Nat)) := rfl
theorem r_tupL {ds : List D} : dTupOf (.lst ds) = .ok (.tup ds) := rfl
theorem r_tupT {ds : List D} : dTupOf (.tup ds) = .ok (.tup ds) := rfl
theorem r_lstL {ds : List D} : dLstOf (.lst ds) = .ok (.lst ds) := rfl
theorem r_lstT {ds : List D} : dLstOf (.tup ds) = .ok (.lst ds) := rfl
theorem r_revL {ds : List D} : dRev (.lst ds) = .ok (.lst ds.reverse) := rfl
theorem r_revT {ds : List D} : dRev (.tup ds) = .ok (.tup ds.reverse) := rfl
theorem r_intI {x : Int} : dInt (.int x) = .ok (.int x) := rfl
theorem r_intB {b : Bool} : dInt (.bl b) = .ok (.int (if b then 1 else 0)) := rfl
theorem r_lenOk {n : Nat} (h : n ≤ 1000000) : lenOk n = true := lenOk_of (by rw [sizeLine_eq]; omega)
theorem r_blt {n : Nat} (h : n < 1000000) : Nat.blt n sizeLine = true := nblt.mpr (by rw [sizeLine_eq]; omega)
theorem r_beq {n : Nat} : Nat.beq n n = true := Nat.beq_refl n
theorem r_addL {x y : List D} (h : x.length + y.length ≤ 1000000) : dAdd (.lst x) (.lst y) = .ok (.lst (x ++ y)) := by
  show tIf (lenOk (x.length + y.length)) _ = _
  rw [r_lenOk h]; rfl
theorem r_addT {x y : List D} (h : x.length + y.length ≤ 1000000) : dAdd (.tup x) (.tup y) = .ok (.tup (x ++ y)) := by
  show tIf (lenOk (x.length + y.length)) _ = _
  rw [r_lenOk h]; rfl
theorem r_addLL {x y : List D} (h : x.length + y.length ≤ 1000000) : dAddL (.lst x) (.lst y) = .ok (.lst (x ++ y)) := by
  show tIf (lenOk (x.length + y.length)) _ = _
  rw [r_lenOk h]; rfl
theorem rep_one (d : D) : ∀ n : Nat, DL.rep [d] n = List.replicate n d
  | 0 => rfl
  | n + 1 => by
    show d :: DL.rep [d] n = _
    rw [rep_one d n]; rfl
theorem r_rep {d : D} {n : Nat} (h : n < 1000000) : dMul (.lst [d]) (.int (n : Int)) = .ok (.lst (List.replicate n d)) := by
  show tIf (ilt (n : Int) 1000000 && ile 0 (n : Int) && lenOk (1 * (n : Int).toNat)) (T.ok (D.lst (DL.rep [d] (n : Int).toNat))) = _
  rw [ilt_iff.mpr (by omega), ile_iff.mpr (by omega), Int.toNat_natCast, r_lenOk (by omega), rep_one]; rfl
theorem r_repL {d : D} {n : Nat} (h : n < 1000000) : dMulL (.lst [d]) (.int (n : Int)) = .ok (.lst (List.replicate n d)) := r_rep h
theorem r_i62 {x : Int} (h : -1000000000 < x ∧ x < 1000000000) : i62 x = true := by
  unfold i62
  rw [Bool.and_eq_true]
  exact ⟨ilt_iff.mpr (by omega), ile_iff.mpr (by omega)⟩
theorem rgD_map (lo : Nat) : ∀ n : Nat, rgD (lo : Int) n = (List.range' lo n).map nI := by
  intro n
  induction n generalizing lo with
  | zero => rfl
  | succ n ih =>
    show D.int (lo : Int) :: rgD ((lo : Int) + 1) n = _
    rw [show ((lo : Int) + 1) = ((lo + 1 : Nat) : Int) by omega, ih (lo + 1), List.range'_succ]; rfl
theorem r_rng1 {n : Nat} (h : n < 1000000000) : rng1 [.int (n : Int)] = .ok ((List.range n).map nI) := by
  show tIf (i62 (n : Int)) (T.ok (rgD 0 (n : Int).toNat)) = _
  rw [r_i62 (by omega), Int.toNat_natCast, show (0 : Int) = ((0 : Nat) : Int) from rfl, rgD_map, List.range_eq_range']; rfl
theorem r_rng2 {a b : Nat} (h : a < 1000000000 ∧ b < 1000000000) : rng2 [.int (a : Int), .int (b : Int)] = .ok ((List.range' a (b - a)).map nI) := by
  show tIf (i62 (a : Int) && i62 (b : Int)) (T.ok (rgD (a : Int) ((b : Int) - (a : Int)).toNat)) = _
  rw [r_i62 (by omega), r_i62 (by omega), show ((b : Int) - (a : Int)).toNat = b - a by omega, rgD_map]; rfl
variable {α : Type} [Inhabited α] {enc : α → D} {l : List α}
/-- the member at a place -/
abbrev gd (l : List α) (i : Nat) : α := l.getD i default
theorem gd_get {i : Nat} (h : i < l.length) : l[i]? = some (gd l i) := by
  unfold gd
  rw [List.getD_eq_getElem?_getD, List.getElem?_eq_getElem h]; rfl
theorem r_gdR {n i : Nat} (h : i < n) : gd (List.range n) i = i := by
  unfold gd
  rw [List.getD_eq_getElem?_getD, List.getElem?_range h]; rfl
theorem r_item {i : Nat} (h : i < l.length) : dItem (.lst (l.map enc)) (.int (i : Int)) = .ok (enc (gd l i)) := by
  show atD (l.map enc) (i : Int) = _
  unfold atD
  rw [L2.atI_nat (v := enc (gd l i)) (by rw [List.getElem?_map, gd_get h]; rfl)]
theorem r_itemT {i : Nat} (h : i < l.length) : dItem (.tup (l.map enc)) (.int (i : Int)) = .ok (enc (gd l i)) := by
  show atD (l.map enc) (i : Int) = _
  unfold atD
  rw [L2.atI_nat (v := enc (gd l i)) (by rw [List.getElem?_map, gd_get h]; rfl)]
theorem ixN_last {n : Nat} (h : 0 < n) : ixN n (-1) = some (n - 1) := by
  unfold ixN
  rw [if_neg (by omega), if_pos (by omega)]
  congr 1
  omega
theorem r_last (h : 0 < l.length) : dItem (.lst (l.map enc)) (.int (-((1 : Nat) : Int))) = .ok (enc (gd l (l.length - 1))) := by
  show atD (l.map enc) (-1) = _
  unfold atD
  have : atI (l.map enc) (-1) = some (enc (gd l (l.length - 1))) := by
    unfold atI
    rw [List.length_map, ixN_last h]
    show (l.map enc)[l.length - 1]? = _
    rw [List.getElem?_map, gd_get (by omega)]; rfl
  rw [this]
theorem r_lastT (h : 0 < l.length) : dItem (.tup (l.map enc)) (.int (-((1 : Nat) : Int))) = .ok (enc (gd l (l.length - 1))) := r_last h
theorem r_ixN {n j : Nat} (hj : j < n) : ixN n (j : Int) = some j := by
  unfold ixN
  rw [if_pos (by omega), if_pos (by omega), Int.toNat_natCast]
end
/-! what a piece does: F ends, and what it ends with holds -/
def Ru (F : Ev → T Res) (ρ : Ev) (Q : Res → Prop) : Prop := ∃ r, F ρ = .ok r ∧ Q r
section
variable {F G : Ev → T Res} {ρ ρ' : Ev} {Q : Res → Prop}
theorem Ru.of {r : Res} (h : F ρ = .ok r) (q : Q r) : Ru F ρ Q := ⟨r, h, q⟩
theorem Ru.nx {ρ' : Ev} (h : F ρ = .ok (.nx ρ')) (q : Q (.nx ρ')) : Ru F ρ Q := ⟨_, h, q⟩
theorem Ru.rt {d : D} (h : F ρ = .ok (.rt d)) (q : Q (.rt d)) : Ru F ρ Q := ⟨_, h, q⟩
theorem Ru.seq (h : Ru F ρ fun r => match r with
  | .nx ρ' => Ru G ρ' Q
  | .rt d => Q (.rt d)) : Ru (fSeq F G) ρ Q := by
  obtain ⟨r, e, q⟩ := h
  cases r with
  | nx ρ' =>
    obtain ⟨r', e', q'⟩ := q
    exact ⟨r', by rw [seq_ok e, e'], q'⟩
  | rt d => exact ⟨.rt d, by show (F ρ).bind _ = _; rw [e]; rfl, q⟩
theorem Ru.seq_ok (h : F ρ = .ok (.nx ρ')) (k : Ru G ρ' Q) : Ru (fSeq F G) ρ Q := .seq (.of h k)
theorem Ru.mono {Q' : Res → Prop} (h : Ru F ρ Q) (k : ∀ r, Q r → Q' r) : Ru F ρ Q' := by
  obtain ⟨r, e, q⟩ := h
  exact ⟨r, e, k r q⟩
/-- a loop: I k holds ahead of turn k -/
theorem Ru.fold {p : Pat} {b : Ev → T Res} {I : Nat → Ev → Prop} : ∀ {ds : List D} {ρ : Ev} (k0 : Nat), I k0 ρ →
    (∀ k d ρ, ds[k]? = some d → I (k0 + k) ρ → ∃ ρ1, bindP p d ρ = .ok ρ1 ∧ Ru b ρ1 fun r => match r with
      | .nx ρ2 => I (k0 + k + 1) ρ2
      | .rt d => Q (.rt d)) →
    (∀ ρ, I (k0 + ds.length) ρ → Q (.nx ρ)) → Ru (foldB p b ds) ρ Q
  | [], ρ, k0, h0, _, he => ⟨.nx ρ, rfl, he ρ h0⟩
  | d :: ds, ρ, k0, h0, hs, he => by
    obtain ⟨ρ1, e1, r, e2, q⟩ := hs 0 d ρ rfl h0
    have e : foldB p b (d :: ds) ρ = (b ρ1).bind fun r => match r with
      | .nx ρ' => foldB p b ds ρ'
      | .rt d => .ok (.rt d) := by
      show (bindP p d ρ).bind _ = _
      rw [e1]; rfl
    cases r with
    | rt d' => exact ⟨.rt d', by rw [e, e2]; rfl, q⟩
    | nx ρ2 =>
      obtain ⟨r', e', q'⟩ := Ru.fold (I := I) (ds := ds) (ρ := ρ2) (k0 + 1) q (fun k d ρ hk hi => by
        have := hs (k + 1) d ρ hk (by rwa [Nat.add_right_comm] at hi)
        rwa [show k0 + (k + 1) = k0 + 1 + k by omega] at this) (fun ρ hi => he ρ (by rwa [List.length_cons, Nat.add_comm ds.length 1, ← Nat.add_assoc]))
      exact ⟨r', by rw [e, e2]; exact e', q'⟩
theorem Ru.for {it : Ev → T (List D)} {p : Pat} {b : Ev → T Res} {ds : List D} (I : Nat → Ev → Prop) (hi : it ρ = .ok ds) (h0 : I 0 ρ)
    (hs : ∀ k d ρ, ds[k]? = some d → I k ρ → ∃ ρ1, bindP p d ρ = .ok ρ1 ∧ Ru b ρ1 fun r => match r with
      | .nx ρ2 => I (k + 1) ρ2
      | .rt d => Q (.rt d))
    (he : ∀ ρ, I ds.length ρ → Q (.nx ρ)) : Ru (fFor it p b) ρ Q := by
  have := Ru.fold (Q := Q) (p := p) (b := b) (I := I) (ds := ds) (ρ := ρ) 0 h0 (fun k d ρ hk h => by
    have := hs k d ρ hk (by rwa [Nat.zero_add] at h)
    rwa [Nat.zero_add]) (fun ρ h => he ρ (by rwa [Nat.zero_add] at h))
  obtain ⟨r, e, q⟩ := this
  exact ⟨r, by show ((it ρ).bind _) = _; rw [hi]; exact e, q⟩
/-- a loop over the members of a list -/
theorem Ru.forL {α : Type} {enc : α → D} {l : List α} {it : Ev → T (List D)} {p : Pat} {b : Ev → T Res} (I : Nat → Ev → Prop) (hi : it ρ = .ok (l.map enc)) (h0 : I 0 ρ)
    (hs : ∀ k a ρ, l[k]? = some a → I k ρ → ∃ ρ1, bindP p (enc a) ρ = .ok ρ1 ∧ Ru b ρ1 fun r => match r with
      | .nx ρ2 => I (k + 1) ρ2
      | .rt d => Q (.rt d))
    (he : ∀ ρ, I l.length ρ → Q (.nx ρ)) : Ru (fFor it p b) ρ Q := .for I hi h0 (fun k d ρ hk h => by
    rw [List.getElem?_map] at hk
    cases e : l[k]? with
    | none => rw [e] at hk; cases hk
    | some a => rw [e] at hk; cases hk; exact hs k a ρ e h) (by rw [List.length_map]; exact he)
/-- a while loop: n turns at most -/
theorem Ru.while {c : Ev → T Bool} {b : Ev → T Res} (I : Nat → Ev → Prop) : ∀ {n : Nat} {ρ : Ev} (f : Nat), n < f → I n ρ →
    (∀ n ρ, I n ρ → (c ρ = .ok true ∧ 0 < n ∧ Ru b ρ fun r => match r with
      | .nx ρ2 => ∃ m, m < n ∧ I m ρ2
      | .rt d => Q (.rt d)) ∨ (c ρ = .ok false ∧ Q (.nx ρ))) → Ru (fWhile f c b) ρ Q := by
  intro n
  induction n using Nat.strongRecOn with
  | _ n ih =>
    intro ρ f hf h hs
    obtain ⟨f, rfl⟩ : ∃ g, f = g + 1 := ⟨f - 1, by omega⟩
    rcases hs n ρ h with ⟨hc, h0, r, e, q⟩ | ⟨hc, q⟩
    · have e1 : fWhile (f + 1) c b ρ = (b ρ).bind fun r => match r with
        | .nx ρ' => whileT c b f ρ'
        | .rt d => .ok (.rt d) := by
        show ((c ρ).bind _) = _
        rw [hc]; rfl
      cases r with
      | rt d => exact ⟨.rt d, by rw [e1, e]; rfl, q⟩
      | nx ρ2 =>
        obtain ⟨m, hm, hi⟩ := q
        obtain ⟨r', e', q'⟩ := ih m hm (ρ := ρ2) f (by omega) hi hs
        exact ⟨r', by rw [e1, e]; exact e', q'⟩
    · exact ⟨.nx ρ, by show ((c ρ).bind _) = _; rw [hc]; rfl, q⟩
/-- a def's answer -/
theorem Ru.ans {m : Nat} {B : Ev → T Res} {ds : List D} {d : D} (h : Ru B (shE m ds) fun r => outD r = .ok d) : defF m B ds = .ok d := by
  obtain ⟨r, e, q⟩ := h
  show (B (shE m ds)).bind outD = _
  rw [e]; exact q
end
/-! the same where numbers are drawn -/
section
variable {F G : Ev → T Res} {ρ ρ' : Ev} {Q : Res → Prop}
theorem Ru.wp (h : Ru F ρ Q) : WP (F ρ) Q := by
  obtain ⟨r, e, q⟩ := h
  rw [e]; exact q
theorem wpS.seq (h : WP (F ρ) fun r => match r with
  | .nx ρ' => WP (G ρ') Q
  | .rt d => Q (.rt d)) : WP (fSeq F G ρ) Q := by
  refine wp_bind (h.mono fun r q => ?_)
  cases r with
  | nx ρ' => exact q
  | rt d => exact q
theorem wpS.seq_ok (h : F ρ = .ok (.nx ρ')) (k : WP (G ρ') Q) : WP (fSeq F G ρ) Q := by
  show WP ((F ρ).bind _) Q
  rw [h]; exact k
theorem wpS.fold {p : Pat} {b : Ev → T Res} {I : Nat → Ev → Prop} : ∀ {ds : List D} {ρ : Ev} (k0 : Nat), I k0 ρ →
    (∀ k d ρ, ds[k]? = some d → I (k0 + k) ρ → ∃ ρ1, bindP p d ρ = .ok ρ1 ∧ WP (b ρ1) fun r => match r with
      | .nx ρ2 => I (k0 + k + 1) ρ2
      | .rt d => Q (.rt d)) →
    (∀ ρ, I (k0 + ds.length) ρ → Q (.nx ρ)) → WP (foldB p b ds ρ) Q
  | [], ρ, k0, h0, _, he => he ρ h0
  | d :: ds, ρ, k0, h0, hs, he => by
    obtain ⟨ρ1, e1, w⟩ := hs 0 d ρ rfl h0
    have e : foldB p b (d :: ds) ρ = (b ρ1).bind fun r => match r with
      | .nx ρ' => foldB p b ds ρ'
      | .rt d => .ok (.rt d) := by
      show (bindP p d ρ).bind _ = _
      rw [e1]; rfl
    rw [e]
    refine wp_bind (w.mono fun r q => ?_)
    cases r with
    | rt d' => exact q
    | nx ρ2 =>
      exact wpS.fold (I := I) (ds := ds) (ρ := ρ2) (k0 + 1) q (fun k d ρ hk hi => by
        have := hs (k + 1) d ρ hk (by rwa [Nat.add_right_comm] at hi)
        rwa [show k0 + (k + 1) = k0 + 1 + k by omega] at this) (fun ρ hi => he ρ (by rwa [List.length_cons, Nat.add_comm ds.length 1, ← Nat.add_assoc]))
theorem wpS.for {it : Ev → T (List D)} {p : Pat} {b : Ev → T Res} {ds : List D} (I : Nat → Ev → Prop) (hi : it ρ = .ok ds) (h0 : I 0 ρ)
    (hs : ∀ k d ρ, ds[k]? = some d → I k ρ → ∃ ρ1, bindP p d ρ = .ok ρ1 ∧ WP (b ρ1) fun r => match r with
      | .nx ρ2 => I (k + 1) ρ2
      | .rt d => Q (.rt d))
    (he : ∀ ρ, I ds.length ρ → Q (.nx ρ)) : WP (fFor it p b ρ) Q := by
  have := wpS.fold (Q := Q) (p := p) (b := b) (I := I) (ds := ds) (ρ := ρ) 0 h0 (fun k d ρ hk h => by
    have := hs k d ρ hk (by rwa [Nat.zero_add] at h)
    rwa [Nat.zero_add]) (fun ρ h => he ρ (by rwa [Nat.zero_add] at h))
  show WP ((it ρ).bind _) Q
  rw [hi]; exact this
theorem wpS.ans {m : Nat} {B : Ev → T Res} {ds : List D} {Q : D → Prop} (h : WP (B (shE m ds)) fun r => ∃ d, outD r = .ok d ∧ Q d) : WP (defF m B ds) Q := by
  refine wp_bind (h.mono fun r ⟨d, e, q⟩ => ?_)
  rw [e]; exact q
theorem wp_pick {α : Type} {n : Nat} {k : D → T α} {Q : α → Prop} (h : 0 < n ∧ n < 1000000) (w : ∀ r : Nat, r < n → WP (k (nI r)) Q) : WP ((pickF [.src, .int (n : Int)]).bind k) Q := by
  refine wp_bind ?_
  show WP (tIf (ilt (n : Int) 18446744073709551616) (match ilt (n : Int) 2 with | true => T.ok (D.int 0) | false => T.pk (n : Int) fun r => .ok (.int r))) _
  rw [ilt_iff.mpr (by omega), ilt_eq]
  by_cases q : n < 2
  · rw [decide_eq_true (by omega)]
    exact w 0 h.1
  · rw [decide_eq_false (by omega)]
    show ∀ r : Int, 0 ≤ r → (r < (n : Int) ∨ r = 0) → _
    intro r h0 h1
    have := w r.toNat (by omega)
    rw [show nI r.toNat = .int r by show D.int _ = _; rw [show ((r.toNat : Nat) : Int) = r by omega]] at this
    exact this
end
/-! sorted, max -/
def srt (l : List Nat) : List Nat := l.mergeSort fun a b => decide (a ≤ b)
theorem srt_perm (l : List Nat) : (srt l).Perm l := List.mergeSort_perm _ _
theorem srt_asc (l : List Nat) : (srt l).Pairwise (· ≤ ·) := by
  refine (List.pairwise_mergeSort (le := fun a b => decide (a ≤ b)) (fun a b c h1 h2 => ?_) (fun a b => ?_) l).imp fun h => of_decide_eq_true h
  · exact decide_eq_true (Nat.le_trans (of_decide_eq_true h1) (of_decide_eq_true h2))
  · rw [Bool.or_eq_true]
    rcases Nat.le_total a b with h | h
    · exact .inl (decide_eq_true h)
    · exact .inr (decide_eq_true h)
theorem msort_nI (l : List Nat) : msort ile (cN l) = cN (srt l) := by
  refine msort_u ?_ ((srt_perm l).map _)
  exact List.pairwise_map.mpr ((srt_asc l).imp fun h => by omega)
theorem r_sortL {l : List Nat} : dSortedQ (.lst (l.map nI)) = .ok (.lst ((srt l).map nI)) := by
  show dSorted srtS (.lst (l.map nI)) = _
  rw [← IL_cN, sorted_IL, msort_nI, IL_cN]
theorem r_sortT {l : List Nat} : dSortedQ (.tup (l.map nI)) = .ok (.lst ((srt l).map nI)) := by
  show (match intsD (l.map nI) with | some ns => T.ok (D.lst ((msort ile ns).map .int)) | none => .no) = _
  rw [← IL_cN, intsD_IL]
  show T.ok (D.lst ((msort ile (cN l)).map .int)) = _
  rw [msort_nI, ← IL_cN]
theorem max_is {d : D} {l : List Nat} (hd : partsOf d = some (l.map nI)) (h : l ≠ []) : ∃ M, dMax [d] = .ok (nI M) ∧ M ∈ l ∧ ∀ a ∈ l, a ≤ M := by
  cases l with
  | nil => exact absurd rfl h
  | cons a l =>
    have e : dMax [d] = .ok (.int (imax (a : Int) (cN l))) := by
      show (match (partsOf d).bind intsD with | some ns => (match ns with | a :: r => T.ok (D.int (imax a r)) | [] => T.no) | none => T.no) = _
      rw [hd, ← IL_cN]
      show (match intsD (IL (cN (a :: l))) with | some ns => (match ns with | a :: r => T.ok (D.int (imax a r)) | [] => T.no) | none => T.no) = _
      rw [intsD_IL]; rfl
    obtain ⟨h1, h2⟩ := imax_is (a : Int) (cN l)
    have h1 : imax (a : Int) (cN l) ∈ cN (a :: l) := h1
    obtain ⟨M, hM, e2⟩ := List.mem_map.mp h1
    refine ⟨M, by rw [e, ← e2], hM, fun b hb => ?_⟩
    have := h2 (b : Int) (List.mem_map.mpr ⟨b, hb, rfl⟩ : (b : Int) ∈ cN (a :: l))
    omega
/-! comprehensions -/
theorem mapC_en' {α : Type} {p : Pat} {t : Ev → T Bool} {e : Ev → T D} {ρ : Ev} {enc : α → D} {g : α → D} {c : α → Bool} : ∀ {l : List α}, (∀ a ∈ l, ∃ ρ1, bindP p (enc a) ρ = .ok ρ1 ∧ t ρ1 = .ok (c a) ∧ (c a = true → e ρ1 = .ok (g a))) → mapC p t e ρ (l.map enc) = .ok ((l.filter c).map g)
  | [], _ => rfl
  | a :: l, h => by
    obtain ⟨ρ1, e1, e2, e3⟩ := h a List.mem_cons_self
    have ih := mapC_en' (l := l) fun b hb => h b (List.mem_cons_of_mem _ hb)
    show ((bindP p (enc a) ρ).bind fun ρ1 => (t ρ1).bind fun b => match b with
      | true => (e ρ1).bind fun y => (mapC p t e ρ (l.map enc)).bind fun ys => T.ok (y :: ys)
      | false => mapC p t e ρ (l.map enc)) = _
    rw [e1]
    show ((t ρ1).bind _) = _
    rw [e2, List.filter_cons]
    cases hc : c a
    · exact ih
    · show ((e ρ1).bind _) = _
      rw [e3 hc]
      show ((mapC p t e ρ (l.map enc)).bind _) = _
      rw [ih]; rfl
/-- a comprehension with a test -/
theorem lcF {α : Type} {enc : α → D} {g : α → D} (c : α → Bool) {l : List α} {vs : List Nat} {it : Ev → T (List D)} {p : Pat} {t : Ev → T Bool} {e : Ev → T D} {ρ : Ev} (hi : it ρ = .ok (l.map enc)) (hl : l.length ≤ 1000000)
    (h : ∀ a ∈ l, ∃ ρ1, bindP p (enc a) (wipeE (lend ρ) vs) = .ok ρ1 ∧ t ρ1 = .ok (c a) ∧ (c a = true → e ρ1 = .ok (g a))) : fLc vs it p t e ρ = .ok (.lst ((l.filter c).map g)) := by
  show ((it ρ).bind _) = _
  rw [hi]
  show tIf (lenOk (l.map enc).length) _ = _
  rw [List.length_map, r_lenOk hl, r_tIf, mapC_en' h]; rfl
theorem lcY {α : Type} {enc : α → D} {g : α → D} {l : List α} {vs : List Nat} {it : Ev → T (List D)} {p : Pat} {e : Ev → T D} {ρ : Ev} (hi : it ρ = .ok (l.map enc)) (hl : l.length ≤ 1000000)
    (h : ∀ a ∈ l, ∃ ρ1, bindP p (enc a) (wipeE (lend ρ) vs) = .ok ρ1 ∧ e ρ1 = .ok (g a)) : fLc vs it p fYes e ρ = .ok (.lst (l.map g)) := by
  have := lcF (fun _ => true) (t := fYes) hi hl (fun a ha => by
    obtain ⟨ρ1, h1, h2⟩ := h a ha
    exact ⟨ρ1, h1, rfl, fun _ => h2⟩) (g := g)
  rwa [List.filter_eq_self.mpr fun _ _ => rfl] at this
theorem r_lenQ {ds : List D} : dLenQ (.lst ds) = .ok (.int (ds.length : Nat)) := rfl
theorem r_lenQT {ds : List D} : dLenQ (.tup ds) = .ok (.int (ds.length : Nat)) := rfl
theorem r_lstQ {ds : List D} : dLstQ (.lst ds) = .ok (.lst ds) := rfl
theorem r_lstQT {ds : List D} : dLstQ (.tup ds) = .ok (.lst ds) := rfl
theorem pls_nI (n : Nat) (l : List Nat) : pls n (l.map nI) = true := by
  rw [← IL_cN]; exact pls_IL n _
theorem deqs_nil' : ∀ l : List D, deqs l [] = l.isEmpty
  | [] => rfl
  | _ :: _ => rfl
theorem r_neNil {l : List Nat} : dNe (.lst (l.map nI)) (.lst []) = .ok (.bl (!l.isEmpty)) := by
  show tIf (pls 59 (l.map nI) && true) (T.ok (D.bl (!deqs (l.map nI) []))) = _
  rw [pls_nI, deqs_nil']
  cases l <;> rfl
theorem r_eqNil {l : List Nat} : dEq (.lst (l.map nI)) (.lst []) = .ok (.bl l.isEmpty) := by
  show tIf (pls 59 (l.map nI) && true) (T.ok (D.bl (deqs (l.map nI) []))) = _
  rw [pls_nI, deqs_nil']
  cases l <;> rfl
theorem rgS_map (lo c : Nat) : ∀ n : Nat, rgS (lo : Int) (c : Int) n = (List.range' lo n c).map nI := by
  intro n
  induction n generalizing lo with
  | zero => rfl
  | succ n ih =>
    show D.int (lo : Int) :: rgS ((lo : Int) + (c : Int)) (c : Int) n = _
    rw [show ((lo : Int) + (c : Int)) = ((lo + c : Nat) : Int) by omega, ih (lo + c), List.range'_succ]; rfl
/-! range with a step -/
def rgN (a b c : Nat) : Nat := if a < b then (b - a - 1) / c + 1 else 0
theorem r_rng3 {a b c : Nat} (h : a < 1000000 ∧ b < 1000000 ∧ 0 < c ∧ c < 1000000) : rng3 [.int (a : Int), .int (b : Int), .int (c : Int)] = .ok ((List.range' a (rgN a b c) c).map nI) := by
  obtain ⟨h1, h2, h3, h4⟩ := h
  have es : Builtin.Range.rangeSize (a : Int) (b : Int) (c : Int) = ((rgN a b c : Nat) : Int) := by
    unfold Builtin.Range.rangeSize rgN
    rw [if_pos (by omega : (c : Int) > 0)]
    by_cases q : a < b
    · rw [if_pos (by omega), if_pos q, show ((b : Int) - (a : Int) - 1) = ((b - a - 1 : Nat) : Int) by omega, ← Int.natCast_ediv, Int.natCast_add]; rfl
    · rw [if_neg (by omega), if_neg q]; rfl
  have hN : rgN a b c < 2000000 := by
    unfold rgN
    split
    · have := Nat.div_le_self (b - a - 1) c; omega
    · omega
  have ok : rg3ok (a : Int) (b : Int) (c : Int) = true := by
    unfold rg3ok Builtin.Range.small
    rw [es, ieq_eq, decide_eq_false (by omega), nblt.mpr (by omega : (c : Int).natAbs < 1073741824), ile_iff.mpr (by omega)]
    have hf : ∀ x : Int, -(10000000 : Int) < x → x < 10000000 → Builtin.Range.rangeFitsLong x = true := fun x h1 h2 => by
      simp only [Builtin.Range.rangeFitsLong, Bool.and_eq_true, decide_eq_true_eq]
      omega
    rw [hf _ (by omega) (by omega), hf _ (by omega) (by omega), hf _ (by omega) (by omega), hf _ (by omega) (by omega), if_pos (by omega : (c : Int) > 0), hf _ (by omega) (by omega)]
    simp
  show tIf (rg3ok (a : Int) (b : Int) (c : Int)) (T.ok (rgS (a : Int) (c : Int) (Builtin.Range.rangeSize (a : Int) (b : Int) (c : Int)).toNat)) = _
  rw [ok, es, Int.toNat_natCast, rgS_map]; rfl
theorem r_fRng3 {ρ : Ev} {g : Ev → T (List D)} : fRng3 g ρ = (g ρ).bind rng3 := rfl
theorem enD_zip {α : Type} {enc : α → D} : ∀ (l : List α) (k : Nat), enD (k : Int) (l.map enc) = (l.zipIdx k).map fun p => .tup [nI p.2, enc p.1]
  | [], _ => rfl
  | a :: l, k => by
    show D.tup [.int (k : Int), enc a] :: enD ((k : Int) + 1) (l.map enc) = _
    rw [show ((k : Int) + 1) = ((k + 1 : Nat) : Int) by omega, enD_zip l (k + 1), List.zipIdx_cons, List.map_cons]
theorem r_en1 {α : Type} {enc : α → D} {l : List α} : enO [.tup (l.map enc)] = .ok (l.zipIdx.map fun p => .tup [nI p.2, enc p.1]) := by
  show T.ok (enD 0 (l.map enc)) = _
  rw [show (0 : Int) = ((0 : Nat) : Int) from rfl, enD_zip]
theorem r_en1L {α : Type} {enc : α → D} {l : List α} : enO [.lst (l.map enc)] = .ok (l.zipIdx.map fun p => .tup [nI p.2, enc p.1]) := r_en1 (enc := enc) (l := l)
theorem r_en2 {α : Type} {enc : α → D} {l : List α} {k : Nat} (h : k < 1000000) : enO [.tup (l.map enc), .int (k : Int)] = .ok ((l.zipIdx k).map fun p => .tup [nI p.2, enc p.1]) := by
  show tIf (i62 (k : Int)) (T.ok (enD (k : Int) (l.map enc))) = _
  rw [r_i62 (by omega), enD_zip]; rfl
theorem r_en2L {α : Type} {enc : α → D} {l : List α} {k : Nat} (h : k < 1000000) : enO [.lst (l.map enc), .int (k : Int)] = .ok ((l.zipIdx k).map fun p => .tup [nI p.2, enc p.1]) := r_en2 (enc := enc) (l := l) h
theorem zip_at {α : Type} {l : List α} {k i : Nat} {p : α × Nat} (h : (l.zipIdx k)[i]? = some p) : l[i]? = some p.1 ∧ p.2 = k + i := by
  rw [List.getElem?_zipIdx] at h
  cases e : l[i]? with
  | none => rw [e] at h; cases h
  | some a => rw [e] at h; cases h; exact ⟨rfl, rfl⟩
theorem cut_lo (ds : List D) (a : Nat) : DL.cutD ds (some (a : Int)) none = ds.drop a := by
  unfold DL.cutD
  rw [HT.sIx_nat, HT.sIx_none]
  by_cases h : a ≤ ds.length
  · rw [Nat.min_eq_left h, List.take_of_length_le (by rw [List.length_drop]; exact Nat.le_refl _)]
  · rw [Nat.min_eq_right (by omega), List.drop_length, List.drop_eq_nil_of_le (by omega), List.take_nil]
theorem cut_hi (ds : List D) (b : Nat) : DL.cutD ds none (some (b : Int)) = ds.take b := by
  unfold DL.cutD
  rw [HT.sIx_nat, HT.sIx_none, List.drop_zero, Nat.sub_zero]
  by_cases h : b ≤ ds.length
  · rw [Nat.min_eq_left h]
  · rw [Nat.min_eq_right (by omega), List.take_of_length_le (Nat.le_refl _), List.take_of_length_le (by omega)]
theorem r_slL {ds : List D} {a : Nat} : dCut (.lst ds) (some (a : Int)) none = .ok (.lst (ds.drop a)) := by show T.ok (D.lst (DL.cutD ds _ _)) = _; rw [cut_lo]
theorem r_slT {ds : List D} {a : Nat} : dCut (.tup ds) (some (a : Int)) none = .ok (.tup (ds.drop a)) := by show T.ok (D.tup (DL.cutD ds _ _)) = _; rw [cut_lo]
theorem r_slhL {ds : List D} {a : Nat} : dCut (.lst ds) none (some (a : Int)) = .ok (.lst (ds.take a)) := by show T.ok (D.lst (DL.cutD ds _ _)) = _; rw [cut_hi]
theorem r_slhT {ds : List D} {a : Nat} : dCut (.tup ds) none (some (a : Int)) = .ok (.tup (ds.take a)) := by show T.ok (D.tup (DL.cutD ds _ _)) = _; rw [cut_hi]
theorem r_subI {x y : Int} : dSub (.int x) (.int y) = .ok (.int (x - y)) := rfl
theorem isum_cN' : ∀ l : List Nat, isum (cN l) = ((l.sum : Nat) : Int)
  | [] => rfl
  | a :: l => by
    show (a : Int) + isum (cN l) = _
    rw [isum_cN' l, List.sum_cons, Int.natCast_add]
theorem r_sum {l : List Nat} : dSum (.lst (l.map nI)) = .ok (nI l.sum) := by rw [← IL_cN, sum_IL, isum_cN']
theorem r_sumT {l : List Nat} : dSum (.tup (l.map nI)) = .ok (nI l.sum) := by rw [← IL_cN, sum_TL, isum_cN']
theorem cN_inj {a b : List Nat} : cN a = cN b ↔ a = b := ⟨fun h => by
  have := congrArg (List.map Int.toNat) h
  unfold cN at this
  rw [List.map_map, List.map_map] at this
  have e : (Int.toNat ∘ fun (n : Nat) => (n : Int)) = id := funext fun n => Int.toNat_natCast n
  rw [e, List.map_id, List.map_id] at this
  exact this, fun h => by rw [h]⟩
theorem deqs_nI (a b : List Nat) : deqs (a.map nI) (b.map nI) = decide (a = b) := by
  rw [← IL_cN, ← IL_cN, deqs_IL]
  exact decide_eq_decide.mpr cN_inj
theorem r_eqL {a b : List Nat} : dEq (.lst (a.map nI)) (.lst (b.map nI)) = .ok (.bl (decide (a = b))) := by
  show tIf (pls 59 (a.map nI) && pls 59 (b.map nI)) (T.ok (D.bl (deqs (a.map nI) (b.map nI)))) = _
  rw [pls_nI, pls_nI, deqs_nI]; rfl
theorem r_eqT {a b : List Nat} : dEq (.tup (a.map nI)) (.tup (b.map nI)) = .ok (.bl (decide (a = b))) := by
  show tIf (pls 59 (a.map nI) && pls 59 (b.map nI)) (T.ok (D.bl (deqs (a.map nI) (b.map nI)))) = _
  rw [pls_nI, pls_nI, deqs_nI]; rfl
theorem r_neL {a b : List Nat} : dNe (.lst (a.map nI)) (.lst (b.map nI)) = .ok (.bl (!decide (a = b))) := by
  show tIf (pls 59 (a.map nI) && pls 59 (b.map nI)) (T.ok (D.bl (!deqs (a.map nI) (b.map nI)))) = _
  rw [pls_nI, pls_nI, deqs_nI]; rfl
theorem r_neT {a b : List Nat} : dNe (.tup (a.map nI)) (.tup (b.map nI)) = .ok (.bl (!decide (a = b))) := by
  show tIf (pls 59 (a.map nI) && pls 59 (b.map nI)) (T.ok (D.bl (!deqs (a.map nI) (b.map nI)))) = _
  rw [pls_nI, pls_nI, deqs_nI]; rfl
def lendS : Sl → Sl
  | .own d => .lent d
  | s => s
theorem r_lend0 : lend [] = [] := rfl
theorem r_lendC {s : Sl} {r : Ev} : lend (s :: r) = lendS s :: lend r := by cases s <;> rfl
theorem r_lsO {d : D} : lendS (.own d) = .lent d := rfl
theorem r_lsS {d : D} : lendS (.sh d) = .sh d := rfl
theorem r_lsN : lendS .non = .non := rfl
theorem r_lsL {d : D} : lendS (.lent d) = .lent d := rfl
/-- member number k of a range -/
theorem rg_at {a n k x : Nat} (h : (List.range' a n)[k]? = some x) : k < n ∧ x = a + k := by
  have hk : k < n := by
    have := (List.getElem?_eq_some_iff.mp h).1
    rwa [List.length_range'] at this
  rw [List.getElem?_range' hk] at h
  cases h
  exact ⟨hk, by omega⟩
theorem rg0_at {n k x : Nat} (h : (List.range n)[k]? = some x) : k < n ∧ x = k := by
  have hk : k < n := by
    have := (List.getElem?_eq_some_iff.mp h).1
    rwa [List.length_range] at this
  rw [List.getElem?_range hk] at h
  cases h
  exact ⟨hk, rfl⟩
theorem r_nAdd {a b : Nat} : ((a : Int) + (b : Int)) = ((a + b : Nat) : Int) := (Int.natCast_add a b).symm
theorem r_nMul {a b : Nat} : ((a : Int) * (b : Int)) = ((a * b : Nat) : Int) := (Int.natCast_mul a b).symm
theorem r_nDiv {a b : Nat} : ((a : Int) / (b : Int)) = ((a / b : Nat) : Int) := (Int.natCast_ediv a b).symm
theorem r_nMod {a b : Nat} : ((a : Int) % (b : Int)) = ((a % b : Nat) : Int) := (Int.natCast_emod a b).symm
theorem r_mRev {α β : Type} {f : α → β} {l : List α} : (l.map f).reverse = l.reverse.map f := List.map_reverse.symm
theorem r_mDrop {α β : Type} {f : α → β} {l : List α} {i : Nat} : (l.map f).drop i = (l.drop i).map f := List.map_drop.symm
theorem r_mTake {α β : Type} {f : α → β} {l : List α} {i : Nat} : (l.map f).take i = (l.take i).map f := List.map_take.symm
theorem r_wipe0 {ρ : Ev} : wipeE ρ [] = ρ := rfl
theorem r_wipeS {ρ : Ev} {v : Nat} {vs : List Nat} : wipeE ρ (v :: vs) = (wipeE ρ vs).put v .non := rfl
theorem r_lenMap {α β : Type} {f : α → β} {l : List α} : (l.map f).length = l.length := List.length_map _
def lenAll := (And.intro (And.intro (And.intro @List.length_cons.{0} @List.length_nil.{0}) (And.intro @r_lenMap (And.intro @List.length_append.{0} @List.length_range))) (And.intro (And.intro @List.length_range' (And.intro @List.length_replicate.{0} @List.length_reverse.{0})) (And.intro @List.length_drop.{0} (And.intro @List.length_take.{0} @List.length_zipIdx.{0}))))
def rdAll := (And.intro (And.intro (And.intro (And.intro (And.intro (And.intro (And.intro @r_bind @r_fBin) (And.intro @r_fUn (And.intro @r_fNil @r_fCons))) (And.intro (And.intro @r_fSta @r_fV) (And.intro @r_fVb (And.intro @r_at0 @r_atS)))) (And.intro (And.intro (And.intro @r_put0 @r_putS) (And.intro @r_fCn (And.intro @r_fCb @r_fCs))) (And.intro (And.intro @r_fC0 (And.intro @r_fTup @r_fLst)) (And.intro @r_fFn (And.intro @r_on1 @r_fCall))))) (And.intro (And.intro (And.intro (And.intro @r_fTb @r_blD) (And.intro @r_fTru (And.intro @r_truB @r_fAnd))) (And.intro (And.intro @r_fOr @r_fNot) (And.intro @r_fAndV (And.intro @r_fOrV @r_fNotV)))) (And.intro (And.intro (And.intro @r_fIf @r_fSl) (And.intro @r_fNo (And.intro @r_fSo @r_inD))) (And.intro (And.intro @r_fNx (And.intro @r_fRet @r_fIfS)) (And.intro @r_fSet (And.intro @r_fSetF @r_mNil)))))) (And.intro (And.intro (And.intro (And.intro (And.intro @r_mSh @r_mOw) (And.intro @r_fParM (And.intro @r_putAll @r_putAll0))) (And.intro (And.intro @r_bv @r_bt) (And.intro @r_b0 (And.intro @r_bs @r_fAsg)))) (And.intro (And.intro (And.intro @r_fDem @r_dem) (And.intro @r_fMut (And.intro @r_mApp @r_mExt))) (And.intro (And.intro @r_fPutL (And.intro @r_fParts @r_pl)) (And.intro @r_pt (And.intro @r_fRng1 @r_fRng2))))) (And.intro (And.intro (And.intro (And.intro @r_fEn @r_fZp) (And.intro @r_tIf (And.intro @r_outR @r_add))) (And.intro (And.intro @r_sub (And.intro @r_mul @r_div)) (And.intro @r_mod (And.intro @r_neg @r_lt)))) (And.intro (And.intro (And.intro @r_le @r_gt) (And.intro @r_ge (And.intro @r_eq @r_ne))) (And.intro (And.intro @r_isB (And.intro @r_isN @r_isT)) (And.intro @r_isNN (And.intro @r_len @r_lenT))))))) (And.intro (And.intro (And.intro (And.intro (And.intro (And.intro @r_tupL @r_tupT) (And.intro @r_lstL (And.intro @r_lstT @r_revL))) (And.intro (And.intro @r_revT @r_intI) (And.intro @r_intB (And.intro @r_lenOk @r_blt)))) (And.intro (And.intro (And.intro @r_beq @r_addL) (And.intro @r_addT (And.intro @r_addLL @r_rep))) (And.intro (And.intro @r_repL (And.intro @r_rng1 @r_rng2)) (And.intro @r_fRng3 (And.intro @r_rng3 @r_slL))))) (And.intro (And.intro (And.intro (And.intro @r_slT @r_slhL) (And.intro @r_slhT (And.intro @r_mDrop @r_mTake))) (And.intro (And.intro @r_sum @r_sumT) (And.intro @r_eqL (And.intro @r_eqT @r_neL)))) (And.intro (And.intro (And.intro @r_neT @List.length_drop.{0}) (And.intro @List.length_take.{0} (And.intro @List.append_nil.{0} @r_en1))) (And.intro (And.intro @r_en1L (And.intro @r_en2 @r_en2L)) (And.intro @List.length_zipIdx.{0} (And.intro @List.length_reverse.{0} @r_gdR)))))) (And.intro (And.intro (And.intro (And.intro (And.intro @r_item @r_itemT) (And.intro @r_last (And.intro @r_lastT @r_neNil))) (And.intro (And.intro @r_eqNil @r_lenQ) (And.intro @r_lenQT (And.intro @r_lstQ @r_lstQT)))) (And.intro (And.intro (And.intro @r_ixN @r_nAdd) (And.intro @r_nMul (And.intro @r_nDiv @r_nMod))) (And.intro (And.intro @Int.ofNat_lt (And.intro @Int.ofNat_le @Int.ofNat_inj)) (And.intro @List.length_cons.{0} (And.intro @List.length_nil.{0} @r_lenMap))))) (And.intro (And.intro (And.intro (And.intro @List.length_append.{0} @List.length_range) (And.intro @List.length_range' (And.intro @List.length_replicate.{0} @r_mRev))) (And.intro (And.intro @T.bind_assoc (And.intro @r_sortL @r_sortT)) (And.intro @decide_true (And.intro @decide_false @decide_eq_true)))) (And.intro (And.intro (And.intro @decide_eq_false @Bool.not_true) (And.intro @Bool.not_false (And.intro @r_wipe0 @r_wipeS))) (And.intro (And.intro @r_lend0 (And.intro @r_lendC @r_lsO)) (And.intro @r_lsS (And.intro @r_lsN @r_lsL))))))))


end
end DL

set_option Elab.async false
set_option linter.all false
set_option maxRecDepth 100000
namespace RX
noncomputable section
open PySem PySem.Spec PyProof.Rows L2 DL
abbrev LNn (l : List Nat) : D := .lst (l.map nI)
abbrev TNn (l : List Nat) : D := .tup (l.map nI)
/-- lists of tuples -/
abbrev LsT (l : List (List Nat)) : D := .lst (l.map fun a => TNn a)
abbrev TsT (l : List (List Nat)) : D := .tup (l.map fun a => TNn a)
/-! texts of data -/
theorem short_nI {a : Nat} (h : a < 1000000000) : short (nI a) = true := by
  show Nat.blt ((a : Int)).natAbs.log2 1900 = true
  have := lg60 (x := (a : Int)) (by omega) (by omega)
  exact nblt.mpr (by omega)
theorem shorts_nI : ∀ {l : List Nat}, (∀ a ∈ l, a < 1000000000) → shorts (l.map nI) = true
  | [], _ => rfl
  | a :: l, h => by
    show (short (nI a) && shorts (l.map nI)) = true
    rw [short_nI (h a List.mem_cons_self), shorts_nI fun b hb => h b (List.mem_cons_of_mem _ hb)]; rfl
theorem bulk_nI : ∀ l : List Nat, bulkDs (l.map nI) = l.length
  | [] => rfl
  | a :: l => by
    show 0 + 1 + bulkDs (l.map nI) = _
    rw [bulk_nI l, List.length_cons]; omega
/-- good for repr: plain to a depth, short, not bulky -/
structure ROk (n b : Nat) (d : D) : Prop where
  pl : pl n d = true
  sh : short d = true
  bk : bulkD d ≤ b
theorem ROk.ok {b : Nat} {d : D} (h : ROk 60 b d) (hb : b < 20000) : rOk d = true := by
  unfold rOk
  rw [h.pl, h.sh, nblt.mpr (by have := h.bk; omega)]; rfl
theorem ROk.T {n : Nat} {l : List Nat} (h : ∀ a ∈ l, a < 1000000000) : ROk (n + 1) l.length (TNn l) := ⟨pls_nI _ _, shorts_nI h, by show bulkDs _ ≤ _; rw [bulk_nI]; exact Nat.le_refl _⟩
theorem ROk.L {n : Nat} {l : List Nat} (h : ∀ a ∈ l, a < 1000000000) : ROk (n + 1) l.length (LNn l) := ⟨pls_nI _ _, shorts_nI h, by show bulkDs _ ≤ _; rw [bulk_nI]; exact Nat.le_refl _⟩
theorem ROk.int {n : Nat} {i : Int} (h : -1000000000 < i ∧ i < 1000000000) : ROk n 0 (.int i) := ⟨by cases n <;> rfl, by
  show Nat.blt i.natAbs.log2 1900 = true
  have := lg60 (x := i) (by omega) (by omega)
  exact nblt.mpr (by omega), Nat.le_refl _⟩
theorem ROk.bl {n : Nat} {b : Bool} : ROk n 0 (.bl b) := ⟨by cases n <;> rfl, rfl, Nat.le_refl _⟩
theorem ROk.non {n : Nat} : ROk n 0 .non := ⟨by cases n <;> rfl, rfl, Nat.le_refl _⟩
/-- parts -/
inductive ROks (n : Nat) : Nat → List D → Prop
  | nil : ROks n 0 []
  | cons {a b : Nat} {d : D} {ds : List D} : ROk n a d → ROks n b ds → ROks n (a + 1 + b) (d :: ds)
theorem ROks.all {n b : Nat} {ds : List D} (h : ROks n b ds) : pls n ds = true ∧ shorts ds = true ∧ bulkDs ds ≤ b := by
  induction h with
  | nil => exact ⟨by cases n <;> rfl, rfl, Nat.le_refl _⟩
  | @cons a b d ds h1 h2 ih =>
    obtain ⟨i1, i2, i3⟩ := ih
    refine ⟨?_, ?_, ?_⟩
    · rw [pls, h1.pl, i1]; rfl
    · show (short d && shorts ds) = true
      rw [h1.sh, i2]; rfl
    · show bulkD d + 1 + bulkDs ds ≤ _
      have := h1.bk; omega
theorem ROk.tup {n b : Nat} {ds : List D} (h : ROks n b ds) : ROk (n + 1) b (.tup ds) := ⟨h.all.1, h.all.2.1, h.all.2.2⟩
theorem ROk.lst {n b : Nat} {ds : List D} (h : ROks n b ds) : ROk (n + 1) b (.lst ds) := ⟨h.all.1, h.all.2.1, h.all.2.2⟩
theorem ROks.map {α : Type} {f : α → D} {n b : Nat} : ∀ {l : List α}, (∀ a ∈ l, ROk n b (f a)) → ROks n (l.length * (b + 1)) (l.map f)
  | [], _ => by rw [List.length_nil, Nat.zero_mul]; exact .nil
  | a :: l, h => by
    have := ROks.cons (h a List.mem_cons_self) (ROks.map fun c hc => h c (List.mem_cons_of_mem _ hc) : ROks n (l.length * (b + 1)) (l.map f))
    rw [List.length_cons, Nat.succ_mul, Nat.add_comm]
    exact this
theorem r_repr {d : D} (h : rOk d = true) : dRepr d = .ok (.txt d) := by
  show tIf (rOk d) _ = _
  rw [h]; rfl
theorem r_neTxt {d : D} : dNe (.txt d) (.txt d) = .ok (.bl false) := by
  show tIf (D.beq d d) (T.ok (D.bl (!true))) = _
  rw [D.beq_self]; rfl
/-! dicts of unlike keys -/
section
variable {α : Type} [DecidableEq α] {enc : α → Kd} {f : α → D}
def ddE : List α → List α → List α
  | acc, [] => acc
  | acc, a :: l => ddE (if a ∈ acc then acc else acc ++ [a]) l
theorem ddE_nodup : ∀ (l acc : List α), (acc ++ l).Nodup → ddE acc l = acc ++ l
  | [], acc, _ => (List.append_nil acc).symm
  | a :: l, acc, h => by
    have hn : a ∉ acc := fun q => (List.nodup_append.mp h).2.2 a q a List.mem_cons_self rfl
    rw [ddE, if_neg hn, ddE_nodup l (acc ++ [a]) (by rw [List.append_assoc]; exact h), List.append_assoc]; rfl
abbrev kvE (enc : α → Kd) (f : α → D) (l : List α) : List (Kd × D) := l.map fun a => (enc a, f a)
theorem look_kvE (hq : ∀ a b, keq (enc a) (enc b) = decide (a = b)) {a : α} : ∀ l : List α, lookD (kvE enc f l) (enc a) = if a ∈ l then some (f a) else none
  | [] => rfl
  | b :: l => by
    show (match keq (enc b) (enc a) with | true => some (f b) | false => lookD (kvE enc f l) (enc a)) = _
    rw [hq, look_kvE hq l]
    by_cases h : b = a
    · subst h
      rw [decide_eq_true rfl, if_pos List.mem_cons_self]
    · rw [decide_eq_false h]
      by_cases q : a ∈ l
      · rw [if_pos q, if_pos (List.mem_cons_of_mem _ q)]
      · rw [if_neg q, if_neg fun k => (List.mem_cons.mp k).elim (fun e => h e.symm) q]
theorem setD_kvE (hq : ∀ a b, keq (enc a) (enc b) = decide (a = b)) {a : α} : ∀ l : List α, setD (kvE enc f l) (enc a) (f a) = kvE enc f l
  | [] => rfl
  | b :: l => by
    show ((enc b, match keq (enc b) (enc a) with | true => f a | false => f b) :: setD (kvE enc f l) (enc a) (f a)) = _
    rw [setD_kvE hq l, hq]
    by_cases h : b = a
    · subst h; rw [decide_eq_true rfl]; rfl
    · rw [decide_eq_false h]; rfl
theorem merge_kvE (hq : ∀ a b, keq (enc a) (enc b) = decide (a = b)) : ∀ (l acc : List α), mergeD (kvE enc f acc) (kvE enc f l) = kvE enc f (ddE acc l)
  | [], acc => rfl
  | a :: l, acc => by
    show mergeD (putD (kvE enc f acc) (enc a) (f a)) (kvE enc f l) = _
    have : putD (kvE enc f acc) (enc a) (f a) = kvE enc f (if a ∈ acc then acc else acc ++ [a]) := by
      unfold putD hasD
      rw [look_kvE hq]
      by_cases h : a ∈ acc
      · rw [if_pos h, if_pos h]
        exact setD_kvE hq acc
      · rw [if_neg h, if_neg h]
        show kvE enc f acc ++ [_] = _
        rw [kvE, kvE, List.map_append]; rfl
    rw [this, merge_kvE hq l]; rfl
end
def tkN (l : List Nat) : Kd := .t (l.map fun (a : Nat) => .inl (a : Int))
theorem keyqs_nI : ∀ a b : List Nat, keyqs (a.map fun (x : Nat) => Sum.inl (x : Int)) (b.map fun (x : Nat) => Sum.inl (x : Int)) = decide (a = b)
  | [], [] => rfl
  | [], _ :: _ => rfl
  | _ :: _, [] => rfl
  | x :: a, y :: b => by
    show (ieq (x : Int) (y : Int) && keyqs _ _) = _
    rw [keyqs_nI a b, ieq_eq]
    by_cases h : x = y
    · subst h
      rw [decide_eq_true rfl, Bool.true_and]
      exact decide_eq_decide.mpr ⟨fun h => by rw [h], fun h => (List.cons.inj h).2⟩
    · rw [decide_eq_false (by omega), Bool.false_and]
      exact (decide_eq_false fun q => h (List.cons.inj q).1).symm
theorem keq_tkN (a b : List Nat) : keq (tkN a) (tkN b) = decide (a = b) := keyqs_nI a b
theorem key2_nI : ∀ l : List Nat, key2 (l.map nI) = some (l.map fun (a : Nat) => .inl (a : Int))
  | [] => rfl
  | a :: l => by
    show (key2 (l.map nI)).map _ = _
    rw [key2_nI l]; rfl
theorem pairTs_tkN {f : List Nat → D} : ∀ l : List (List Nat), pairTs (l.map fun a => .tup [TNn a, f a]) = some (kvE tkN f l)
  | [] => rfl
  | a :: l => by
    show (match pairT (.tup [TNn a, f a]), pairTs (l.map fun a => .tup [TNn a, f a]) with | some p, some ps => some (p :: ps) | _, _ => none) = _
    rw [pairTs_tkN l]
    have : pairT (.tup [TNn a, f a]) = some (tkN a, f a) := by
      show (key2 (a.map nI)).map (fun q => (Kd.t q, f a)) = _
      rw [key2_nI]; rfl
    rw [this]; rfl
/-- how many unlike tuples -/
theorem len_dictT {f : List Nat → D} {l : List (List Nat)} : (dDictQ (.lst (l.map fun a => .tup [TNn a, f a]))).bind dLenQ = .ok (nI (ddE [] l).length) := by
  cases l with
  | nil => rfl
  | cons a l =>
    have : dDictQ (.lst ((a :: l).map fun a => .tup [TNn a, f a])) = .ok (.dct true (kvE tkN f (ddE [] (a :: l)))) := by
      show (match pairKs ((a :: l).map fun a => .tup [TNn a, f a]) with | some kvs => T.ok (D.dct false (mergeD [] kvs)) | none => (match pairTs ((a :: l).map fun a => .tup [TNn a, f a]) with | some kvs => T.ok (D.dct true (mergeD [] kvs)) | none => .no)) = _
      have h0 : pairKs ((a :: l).map fun a => .tup [TNn a, f a]) = none := rfl
      rw [h0]
      show (match pairTs ((a :: l).map fun a => .tup [TNn a, f a]) with | some kvs => T.ok (D.dct true (mergeD [] kvs)) | none => .no) = _
      rw [pairTs_tkN]
      show T.ok (D.dct true (mergeD (kvE tkN f []) (kvE tkN f (a :: l)))) = _
      rw [merge_kvE keq_tkN]
    rw [this]
    show T.ok (D.int ((kvE tkN f (ddE [] (a :: l))).length : Nat)) = _
    rw [kvE, List.length_map]
theorem seq_no {c : Ev → T Bool} {d : D} {G : Ev → T Res} {ρ : Ev} {Q : Res → Prop} (h : c ρ = .ok false) (k : WP (G ρ) Q) : WP (fSeq (fIfS c (fRet (fC d)) fNx) G ρ) Q :=
  wpS.seq_ok (by rw [r_fIfS, h]; rfl) k
/-! checks by the kernel: a computation ends with these numbers -/
def eqN : List D → List Nat → Bool
  | [], [] => true
  | .int (.ofNat k) :: r, n :: m => Nat.beq k n && eqN r m
  | _, _ => false
theorem eqN_eq : ∀ {ds : List D} {l : List Nat}, eqN ds l = true → ds = l.map nI
  | [], [], _ => rfl
  | [], _ :: _, h => nomatch h
  | .int (.ofNat k) :: r, n :: m, h => by
    have h : (Nat.beq k n && eqN r m) = true := h
    rw [Bool.and_eq_true] at h
    rw [eqN_eq h.2, Nat.eq_of_beq_eq_true h.1]; rfl
  | .int (.negSucc _) :: _, _, h => by rename_i l; cases l <;> nomatch h
  | .int (.ofNat _) :: _, [], h => nomatch h
  | .non :: _, l, h => by cases l <;> nomatch h
  | .bl _ :: _, l, h => by cases l <;> nomatch h
  | .str _ :: _, l, h => by cases l <;> nomatch h
  | .tup _ :: _, l, h => by cases l <;> nomatch h
  | .lst _ :: _, l, h => by cases l <;> nomatch h
  | .dct _ _ :: _, l, h => by cases l <;> nomatch h
  | .txt _ :: _, l, h => by cases l <;> nomatch h
  | .src :: _, l, h => by cases l <;> nomatch h
def eqNN : List D → List (List Nat) → Bool
  | [], [] => true
  | .tup a :: r, n :: m => eqN a n && eqNN r m
  | _, _ => false
theorem eqNN_eq : ∀ {ds : List D} {l : List (List Nat)}, eqNN ds l = true → ds = l.map fun a => TNn a
  | [], [], _ => rfl
  | [], _ :: _, h => nomatch h
  | .tup a :: r, n :: m, h => by
    have h : (eqN a n && eqNN r m) = true := h
    rw [Bool.and_eq_true] at h
    rw [eqNN_eq h.2, eqN_eq h.1]; rfl
  | .tup _ :: _, [], h => nomatch h
  | .int _ :: _, l, h => by cases l <;> nomatch h
  | .non :: _, l, h => by cases l <;> nomatch h
  | .bl _ :: _, l, h => by cases l <;> nomatch h
  | .str _ :: _, l, h => by cases l <;> nomatch h
  | .lst _ :: _, l, h => by cases l <;> nomatch h
  | .dct _ _ :: _, l, h => by cases l <;> nomatch h
  | .txt _ :: _, l, h => by cases l <;> nomatch h
  | .src :: _, l, h => by cases l <;> nomatch h
def isTu : T D → List Nat → Bool
  | .ok (.tup ds), l => eqN ds l
  | _, _ => false
def isLi : T D → List Nat → Bool
  | .ok (.lst ds), l => eqN ds l
  | _, _ => false
def isLL : T D → List (List Nat) → Bool
  | .ok (.lst ds), l => eqNN ds l
  | _, _ => false
def isNu : T D → Nat → Bool
  | .ok (.int (.ofNat k)), n => Nat.beq k n
  | _, _ => false
def isBo : T D → Bool → Bool
  | .ok (.bl c), b => c == b
  | _, _ => false
theorem isTu_eq {m : T D} {l : List Nat} (h : isTu m l = true) : m = .ok (TNn l) := by
  unfold isTu at h
  split at h
  · rw [eqN_eq h]
  · cases h
theorem isLi_eq {m : T D} {l : List Nat} (h : isLi m l = true) : m = .ok (LNn l) := by
  unfold isLi at h
  split at h
  · rw [eqN_eq h]
  · cases h
theorem isLL_eq {m : T D} {l : List (List Nat)} (h : isLL m l = true) : m = .ok (LsT l) := by
  unfold isLL at h
  split at h
  · rw [eqNN_eq h]
  · cases h
theorem isNu_eq {m : T D} {l : Nat} (h : isNu m l = true) : m = .ok (nI l) := by
  unfold isNu at h
  split at h
  · rw [Nat.eq_of_beq_eq_true h]; rfl
  · cases h
theorem isBo_eq {m : T D} {b : Bool} (h : isBo m b = true) : m = .ok (.bl b) := by
  unfold isBo at h
  split at h
  · rw [eq_of_beq h]
  · cases h
/-- what a computation ends with -/
def oN : List D → List Nat
  | [] => []
  | .int (.ofNat k) :: r => k :: oN r
  | _ :: r => oN r
def oNN : List D → List (List Nat)
  | [] => []
  | .tup a :: r => oN a :: oNN r
  | _ :: r => oNN r
def toN : T D → List Nat
  | .ok (.tup ds) => oN ds
  | .ok (.lst ds) => oN ds
  | _ => []
def toNN : T D → List (List Nat)
  | .ok (.tup ds) => oNN ds
  | .ok (.lst ds) => oNN ds
  | _ => []
def toB : T D → Bool
  | .ok (.bl b) => b
  | _ => false
/-- ascending -/
def ascB : List Nat → Bool
  | a :: b :: l => Nat.blt a b && ascB (b :: l)
  | _ => true
theorem ascB_lt : ∀ {l : List Nat}, ascB l = true → l.Pairwise (· < ·)
  | [], _ => .nil
  | [a], _ => List.pairwise_singleton _ a
  | a :: b :: l, h => by
    have h : (Nat.blt a b && ascB (b :: l)) = true := h
    rw [Bool.and_eq_true] at h
    have ih := ascB_lt h.2
    have hab := nblt.mp h.1
    refine List.pairwise_cons.mpr ⟨fun c hc => ?_, ih⟩
    rcases List.mem_cons.mp hc with e | hc
    · omega
    · have := (List.pairwise_cons.mp ih).1 c hc; omega
theorem nodup_code {α : Type} {f : α → Nat} {l : List α} (h : ascB (l.map f) = true) : l.Nodup := by
  have := List.pairwise_map.mp (ascB_lt h)
  exact this.imp fun {a b} q e => by subst e; omega
end
end RX

set_option Elab.async false
set_option linter.all false
set_option maxRecDepth 100000
set_option maxHeartbeats 4000000
namespace LAW_K00_WHOLE_GAPS_CORES_AND_PARTINGS
noncomputable section
open PySem PySem.Spec PyProof.Rows L2 DL
def top (i : Nat) : Stmt := PySem.Challenge.pw_restsandparts_k00_whole_gaps_cores_and_p.main.body.getD i (.Pass ⟨0, 0, 0, 0⟩)
abbrev s_column_lot : Stmt := top 2
theorem sc_column_lot : FnScope ["parting", "many", "i", "part"] ["parting"] (defScope s_column_lot) := ⟨rfl, rfl, rfl, by decide +kernel, rfl, by decide +kernel, by decide +kernel⟩
def B_column_lot  : Ev → T Res := (fSeq (fSet 1 (fFn (on1 dLenQ) (fCons (fVb 0) fNil))) (fRet (fFn (on1 dTupOf) (fCons (fUn dRev (fLc [2, 3] (fEn (fCons (fVb 0) (fCons (fC (.int 1)) fNil))) (.t [(.v 2), (.v 3)]) fYes (fBin dSub (fBin dAdd (fVb 3) (fVb 1)) (fVb 2)))) fNil))))
def F_column_lot : List D → T D := defF 3 B_column_lot
theorem has_column_lot {P : Program} {w : World} {K : PySem.W.Frag} {mg : Str → Option Value} {base : Heap} {ff : Addr} {gg : FuncData} (F : Fun K "column_lot" "column_lot" s_column_lot ff gg) (hb : L2.Binds K gg ["parting"] []) (hm : mg "column_lot" = some (.ref ff))  (m_enumerate : mg "enumerate" = none) (m_len : mg "len" = none) (m_tuple : mg "tuple" = none) : Has P w K mg base 1 "column_lot" 1 F_column_lot :=
  has_of F sc_column_lot hb hm rfl rfl fun cdv AA outer ss HH hr => by
    have nd := sc_column_lot.nd
    have hu1 := hr.u1
    have hu5 := hr.u64
    have hu4 := Nat.lt_of_succ_lt hu5
    exact (cc (sset 1 nd (dcb call_lenQ lenQ_ok rfl m_len bt_len (bc (dvb 0) bn))) (c1 (sret (sb (dct' call_tuple_of tupOf_ok rfl m_tuple bt_tuple (bc (sb (dback (fb (dlc (own := [("i", 2), ("part", 3)]) (p := (.t [(.v 2), (.v 3)])) rfl nd (ben2 rfl m_enumerate (dvb 0) (sb di)) (by rfl) (by decide +kernel) (fun _ _ _ _ _ => (gt rfl (gc (gv 2 nd) (gc (gv 3 nd) gn)))) (fun _ _ _ _ _ => ty) (fun _ _ _ _ _ => (d_op op_subD sub_ok (sb (d_op op_addD add_ok (dvb 3) (dvb 1))) (dvb 2))))))) bn))))))
abbrev s_parting_of_column : Stmt := top 3
theorem sc_parting_of_column : FnScope ["lot", "i", "x"] ["lot"] (defScope s_parting_of_column) := ⟨rfl, rfl, rfl, by decide +kernel, rfl, by decide +kernel, by decide +kernel⟩
def B_parting_of_column  : Ev → T Res := (fRet (fFn (on1 dTupOf) (fCons (fUn dRev (fLc [1, 2] (fEn (fCons (fVb 0) fNil)) (.t [(.v 1), (.v 2)]) fYes (fBin dSub (fVb 2) (fVb 1)))) fNil)))
def F_parting_of_column : List D → T D := defF 2 B_parting_of_column
theorem has_parting_of_column {P : Program} {w : World} {K : PySem.W.Frag} {mg : Str → Option Value} {base : Heap} {ff : Addr} {gg : FuncData} (F : Fun K "parting_of_column" "parting_of_column" s_parting_of_column ff gg) (hb : L2.Binds K gg ["lot"] []) (hm : mg "parting_of_column" = some (.ref ff))  (m_enumerate : mg "enumerate" = none) (m_tuple : mg "tuple" = none) : Has P w K mg base 1 "parting_of_column" 1 F_parting_of_column :=
  has_of F sc_parting_of_column hb hm rfl rfl fun cdv AA outer ss HH hr => by
    have nd := sc_parting_of_column.nd
    have hu1 := hr.u1
    have hu5 := hr.u64
    have hu4 := Nat.lt_of_succ_lt hu5
    exact (c1 (sret (sb (dct' call_tuple_of tupOf_ok rfl m_tuple bt_tuple (bc (sb (dback (fb (dlc (own := [("i", 1), ("x", 2)]) (p := (.t [(.v 1), (.v 2)])) rfl nd (ben1 rfl m_enumerate (dvb 0)) (by rfl) (by decide +kernel) (fun _ _ _ _ _ => (gt rfl (gc (gv 1 nd) (gc (gv 2 nd) gn)))) (fun _ _ _ _ _ => ty) (fun _ _ _ _ _ => (d_op op_subD sub_ok (dvb 2) (dvb 1))))))) bn)))))
abbrev s_holes_below : Stmt := top 4
theorem sc_holes_below : FnScope ["lot", "x", "y"] ["lot", "x"] (defScope s_holes_below) := ⟨rfl, rfl, rfl, by decide +kernel, rfl, by decide +kernel, by decide +kernel⟩
def B_holes_below  : Ev → T Res := (fRet (fLc [2] (fRng1 (fCons (fVb 1) fNil)) (.v 2) (fTb (fBin (dInN true) (fVb 2) (fVb 0))) (fV 2)))
def F_holes_below : List D → T D := defF 1 B_holes_below
theorem has_holes_below {P : Program} {w : World} {K : PySem.W.Frag} {mg : Str → Option Value} {base : Heap} {ff : Addr} {gg : FuncData} (F : Fun K "holes_below" "holes_below" s_holes_below ff gg) (hb : L2.Binds K gg ["lot", "x"] []) (hm : mg "holes_below" = some (.ref ff))  (m_range : mg "range" = none) : Has P w K mg base 1 "holes_below" 2 F_holes_below :=
  has_of F sc_holes_below hb hm rfl rfl fun cdv AA outer ss HH hr => by
    have nd := sc_holes_below.nd
    have hu1 := hr.u1
    have hu5 := hr.u64
    have hu4 := Nat.lt_of_succ_lt hu5
    exact (c1 (sret (fb (dlc (own := [("y", 2)]) (p := (.v 2)) rfl nd (tI_of (irng1 rfl m_range (bc (dvb 1) bn))) (by rfl) (by decide +kernel) (fun _ _ _ _ _ => (gv 2 nd)) (fun _ _ _ _ _ => (t1 (dt_cmp (op_notInA hu5) notin_ok (dvb 2) (dvb 0) (by first | rfl | exact nomark _)))) (fun _ _ _ _ _ => (dv 2))))))
abbrev s_hook_rows : Stmt := top 5
theorem sc_hook_rows : FnScope ["parting", "lot", "x", "y"] ["parting"] (defScope s_hook_rows) := ⟨rfl, rfl, rfl, by decide +kernel, rfl, by decide +kernel, by decide +kernel⟩
def B_hook_rows (G_holes_below : List D → T D) (G_column_lot : List D → T D) : Ev → T Res := (fSeq (fSet 1 (fCall 1 G_column_lot (fCons (fV 0) fNil))) (fRet (fFn (on1 dTupOf) (fCons (fLc [2] (fParts (fUn dRev (fVb 1))) (.v 2) fYes (fFn (on1 dTupOf) (fCons (fLc [3] (fParts (fCall 2 G_holes_below (fCons (fV 1) (fCons (fV 2) fNil)))) (.v 3) fYes (fBin dSub (fVb 2) (fVb 3))) fNil))) fNil))))
theorem B_hook_rows_le {G_holes_below G'_holes_below : List D → T D} {G_column_lot G'_column_lot : List D → T D} (e_holes_below : LE G_holes_below G'_holes_below) (e_column_lot : LE G_column_lot G'_column_lot) : LE (B_hook_rows G_holes_below G_column_lot) (B_hook_rows G'_holes_below G'_column_lot) := (le_fSeq (le_fSet (le_fCall e_column_lot LE.refl)) (le_fRet (le_fFn (le_fCons (le_fLc LE.refl LE.refl (le_fFn (le_fCons (le_fLc (le_fParts (le_fCall e_holes_below LE.refl)) LE.refl LE.refl) LE.refl))) LE.refl))))
def F_hook_rows : List D → T D := defF 3 (B_hook_rows F_holes_below F_column_lot)
theorem has_hook_rows {P : Program} {w : World} {K : PySem.W.Frag} {mg : Str → Option Value} {base : Heap} {ff : Addr} {gg : FuncData} (F : Fun K "hook_rows" "hook_rows" s_hook_rows ff gg) (hb : L2.Binds K gg ["parting"] []) (hm : mg "hook_rows" = some (.ref ff)) (h_holes_below : Has P w K mg base 1 "holes_below" 2 F_holes_below) (h_column_lot : Has P w K mg base 1 "column_lot" 1 F_column_lot) (m_tuple : mg "tuple" = none) : Has P w K mg base 2 "hook_rows" 1 F_hook_rows :=
  has_of F sc_hook_rows hb hm rfl rfl fun cdv AA outer ss HH hr => by
    have nd := sc_hook_rows.nd
    have hu1 := hr.u1
    have hu5 := hr.u64
    have hu4 := Nat.lt_of_succ_lt hu5
    exact (cc (sset 1 nd (dcall (h_column_lot.up (by decide)) hr rfl (ac (dv 0) an))) (c1 (sret (sb (dct' call_tuple_of tupOf_ok rfl m_tuple bt_tuple (bc (fb (dlc (own := [("x", 2)]) (p := (.v 2)) rfl nd (bseq (sb (dback (dvb 1)))) (by rfl) (by decide +kernel) (fun _ _ _ _ _ => (gv 2 nd)) (fun _ _ _ _ _ => ty) (fun _ _ _ _ _ => (dct' call_tuple_of tupOf_ok rfl m_tuple bt_tuple (bc (fb (dlc (own := [("y", 3)]) (p := (.v 3)) rfl nd (bseq (sb (dcall (h_holes_below.up (by decide)) hr rfl (ac (dv 1) (ac (dv 2) an))))) (by rfl) (by decide +kernel) (fun _ _ _ _ _ => (gv 3 nd)) (fun _ _ _ _ _ => ty) (fun _ _ _ _ _ => (d_op op_subD sub_ok (dvb 2) (dvb 3))))) bn))))) bn))))))
abbrev s_is_core_for : Stmt := top 6
theorem sc_is_core_for : FnScope ["parting", "s", "lot", "x"] ["parting", "s"] (defScope s_is_core_for) := ⟨rfl, rfl, rfl, by decide +kernel, rfl, by decide +kernel, by decide +kernel⟩
def B_is_core_for (G_column_lot : List D → T D) : Ev → T Res := (fSeq (fSet 2 (fCall 1 G_column_lot (fCons (fV 0) fNil))) (fRet (fFn (on1 dAll) (fCons (fLc [3] (fParts (fVb 2)) (.v 3) (fTb (fBin dGe (fVb 3) (fVb 1))) (fBin (dInN false) (fBin dSub (fVb 3) (fVb 1)) (fVb 2))) fNil))))
theorem B_is_core_for_le {G_column_lot G'_column_lot : List D → T D} (e_column_lot : LE G_column_lot G'_column_lot) : LE (B_is_core_for G_column_lot) (B_is_core_for G'_column_lot) := (le_fSeq (le_fSet (le_fCall e_column_lot LE.refl)) LE.refl)
def F_is_core_for : List D → T D := defF 2 (B_is_core_for F_column_lot)
theorem has_is_core_for {P : Program} {w : World} {K : PySem.W.Frag} {mg : Str → Option Value} {base : Heap} {ff : Addr} {gg : FuncData} (F : Fun K "is_core_for" "is_core_for" s_is_core_for ff gg) (hb : L2.Binds K gg ["parting", "s"] []) (hm : mg "is_core_for" = some (.ref ff)) (h_column_lot : Has P w K mg base 1 "column_lot" 1 F_column_lot) (m_all : mg "all" = none) : Has P w K mg base 2 "is_core_for" 2 F_is_core_for :=
  has_of F sc_is_core_for hb hm rfl rfl fun cdv AA outer ss HH hr => by
    have nd := sc_is_core_for.nd
    have hu1 := hr.u1
    have hu5 := hr.u64
    have hu4 := Nat.lt_of_succ_lt hu5
    exact (cc (sset 2 nd (dcall (h_column_lot.up (by decide)) hr rfl (ac (dv 0) an))) (c1 (sret (sb (dcb (cr_all rfl) all_ok rfl m_all bt_all (bc (fb (dlc (own := [("x", 3)]) (p := (.v 3)) rfl nd (bseq (dvb 2)) (by rfl) (by decide +kernel) (fun _ _ _ _ _ => (gv 3 nd)) (fun _ _ _ _ _ => (t1 (dt_cmp op_ge ge_ok (dvb 3) (dvb 1) (by first | rfl | exact nomark _)))) (fun _ _ _ _ _ => (d_cmp (op_inA hu5) in_ok (sb (d_op op_subD sub_ok (dvb 3) (dvb 1))) (dvb 2) (by first | rfl | exact nomark _))))) bn))))))
abbrev s_made_marks : Stmt := top 8
theorem sc_made_marks : FnScope ["lot", "most", "marks", "x", "a"] ["lot", "most"] (defScope s_made_marks) := ⟨rfl, rfl, rfl, by decide +kernel, rfl, by decide +kernel, by decide +kernel⟩
def B_made_marks  : Ev → T Res := (fSeq (fSetF 2 (fLst (fCons (fC (.bl true)) fNil))) (fSeq (fFor (fRng2 (fCons (fC (.int 1)) (fCons (fBin dAdd (fVb 1) (fC (.int 1))) fNil))) (.v 3) (fMut 2 mAppend (fFn (on1 dAny) (fCons (fLc [4] (fParts (fVb 0)) (.v 4) fYes (fAndV (fBin dLe (fVb 4) (fVb 3)) (fBin dItem (fVb 2) (fBin dSub (fVb 3) (fVb 4))))) fNil)))) (fRet (fVb 2))))
def F_made_marks : List D → T D := defF 3 B_made_marks
theorem has_made_marks {P : Program} {w : World} {K : PySem.W.Frag} {mg : Str → Option Value} {base : Heap} {ff : Addr} {gg : FuncData} (F : Fun K "made_marks" "made_marks" s_made_marks ff gg) (hb : L2.Binds K gg ["lot", "most"] []) (hm : mg "made_marks" = some (.ref ff))  (m_any : mg "any" = none) (m_range : mg "range" = none) : Has P w K mg base 1 "made_marks" 2 F_made_marks :=
  has_of F sc_made_marks hb hm rfl rfl fun cdv AA outer ss HH hr => by
    have nd := sc_made_marks.nd
    have hu1 := hr.u1
    have hu5 := hr.u64
    have hu4 := Nat.lt_of_succ_lt hu5
    exact (cc (ssetF 2 nd (dlst (ac dbl an))) (cc (sfor PassesOwn.never rfl (irng2 rfl m_range (bc (sb di) (bc (sb (d_op op_addD add_ok (dvb 1) (sb di))) bn))) (gv 3 nd) (c1 (sappend 2 (dcb (cr_any rfl) any_ok rfl m_any bt_any (bc (fb (dlc (own := [("a", 4)]) (p := (.v 4)) rfl nd (bseq (dvb 0)) (by rfl) (by decide +kernel) (fun _ _ _ _ _ => (gv 4 nd)) (fun _ _ _ _ _ => ty) (fun _ _ _ _ _ => (vand (sb (d_cmp op_le le_ok (dvb 4) (dvb 3) (by first | rfl | exact nomark _))) (vone (d_ix (ix_any hu1) item_ok (dvb 2) (sb (d_op op_subD sub_ok (dvb 3) (dvb 4))) (fun _ _ => rfl))))))) bn))))) (c1 (sret (dvb 2)))))
abbrev s_is_made : Stmt := top 9
theorem sc_is_made : FnScope ["lot", "x"] ["lot", "x"] (defScope s_is_made) := ⟨rfl, rfl, rfl, by decide +kernel, rfl, by decide +kernel, by decide +kernel⟩
def B_is_made (G_made_marks : List D → T D) : Ev → T Res := (fRet (fAndV (fBin dGe (fVb 1) (fC (.int 0))) (fBin dItem (fCall 2 G_made_marks (fCons (fV 0) (fCons (fV 1) fNil))) (fVb 1))))
theorem B_is_made_le {G_made_marks G'_made_marks : List D → T D} (e_made_marks : LE G_made_marks G'_made_marks) : LE (B_is_made G_made_marks) (B_is_made G'_made_marks) := (le_fRet (le_fAndV LE.refl (le_fBin (le_fCall e_made_marks LE.refl) LE.refl)))
def F_is_made : List D → T D := defF 0 (B_is_made F_made_marks)
theorem has_is_made {P : Program} {w : World} {K : PySem.W.Frag} {mg : Str → Option Value} {base : Heap} {ff : Addr} {gg : FuncData} (F : Fun K "is_made" "is_made" s_is_made ff gg) (hb : L2.Binds K gg ["lot", "x"] []) (hm : mg "is_made" = some (.ref ff)) (h_made_marks : Has P w K mg base 1 "made_marks" 2 F_made_marks)  : Has P w K mg base 2 "is_made" 2 F_is_made :=
  has_of F sc_is_made hb hm rfl rfl fun cdv AA outer ss HH hr => by
    have nd := sc_is_made.nd
    have hu1 := hr.u1
    have hu5 := hr.u64
    have hu4 := Nat.lt_of_succ_lt hu5
    exact (c1 (sret (sb (vand (sb (d_cmp op_ge ge_ok (dvb 1) (sb di) (by first | rfl | exact nomark _))) (vone (d_ix (ix_any hu1) item_ok (sb (dcall (h_made_marks.up (by decide)) hr rfl (ac (dv 0) (ac (dv 1) an)))) (dvb 1) (fun _ _ => rfl)))))))
abbrev s_marks_till_all : Stmt := top 10
theorem sc_marks_till_all : FnScope ["lot", "marks", "run", "x", "a"] ["lot"] (defScope s_marks_till_all) := ⟨rfl, rfl, rfl, by decide +kernel, rfl, by decide +kernel, by decide +kernel⟩
def B_marks_till_all  : Ev → T Res := (fSeq (fParM [1, 2] (mOw (fLst (fCons (fC (.bl true)) fNil)) (mSh (fC (.int 1)) mNil))) (fSeq (fWhile 100000 (fTb (fBin dLt (fVb 2) (fBin dItem (fVb 0) (fC (.int 0))))) (fSeq (fSet 3 (fFn (on1 dLenQ) (fCons (fVb 1) fNil))) (fSeq (fMut 1 mAppend (fFn (on1 dAny) (fCons (fLc [4] (fParts (fVb 0)) (.v 4) fYes (fAndV (fBin dLe (fVb 4) (fVb 3)) (fBin dItem (fVb 1) (fBin dSub (fVb 3) (fVb 4))))) fNil))) (fSet 2 (fIf (fTru (fBin dItem (fVb 1) (fUn dNeg (fC (.int 1))))) (fBin dAdd (fVb 2) (fC (.int 1))) (fC (.int 0))))))) (fRet (fVb 1))))
def F_marks_till_all : List D → T D := defF 4 B_marks_till_all
theorem has_marks_till_all {P : Program} {w : World} {K : PySem.W.Frag} {mg : Str → Option Value} {base : Heap} {ff : Addr} {gg : FuncData} (F : Fun K "marks_till_all" "marks_till_all" s_marks_till_all ff gg) (hb : L2.Binds K gg ["lot"] []) (hm : mg "marks_till_all" = some (.ref ff))  (m_any : mg "any" = none) (m_len : mg "len" = none) : Has P w K mg base 1 "marks_till_all" 1 F_marks_till_all :=
  has_of F sc_marks_till_all hb hm rfl rfl fun cdv AA outer ss HH hr => by
    have nd := sc_marks_till_all.nd
    have hu1 := hr.u1
    have hu5 := hr.u64
    have hu4 := Nat.lt_of_succ_lt hu5
    exact (cc (sparn rfl (mo (dlst (ac dbl an)) (ms di mn)) (nc 1 nd (nc 2 nd nn))) (cc (swhile 100000 PassesOwn.never (dt_cmp op_lt lt_ok (dvb 2) (sb (d_ix (ix_any hu1) item_ok (dvb 0) (sb di) (fun _ _ => rfl))) (by first | rfl | exact nomark _)) (cc (sset 3 nd (dcb call_lenQ lenQ_ok rfl m_len bt_len (bc (dvb 1) bn))) (cc (sappend 1 (dcb (cr_any rfl) any_ok rfl m_any bt_any (bc (fb (dlc (own := [("a", 4)]) (p := (.v 4)) rfl nd (bseq (dvb 0)) (by rfl) (by decide +kernel) (fun _ _ _ _ _ => (gv 4 nd)) (fun _ _ _ _ _ => ty) (fun _ _ _ _ _ => (vand (sb (d_cmp op_le le_ok (dvb 4) (dvb 3) (by first | rfl | exact nomark _))) (vone (d_ix (ix_any hu1) item_ok (dvb 1) (sb (d_op op_subD sub_ok (dvb 3) (dvb 4))) (fun _ _ => rfl))))))) bn))) (c1 (sset 2 nd (dif (dt (sb (d_ix (ix_any hu1) item_ok (dvb 1) (sb (d_un un_neg neg_ok (sb di))) (fun _ _ => rfl)))) (d_op op_addD add_ok (dvb 2) (sb di)) di)))))) (c1 (sret (dvb 1)))))
abbrev s_gaps_of : Stmt := top 11
theorem sc_gaps_of : FnScope ["lot", "x", "is_there"] ["lot"] (defScope s_gaps_of) := ⟨rfl, rfl, rfl, by decide +kernel, rfl, by decide +kernel, by decide +kernel⟩
def B_gaps_of (G_marks_till_all : List D → T D) : Ev → T Res := (fRet (fFn (on1 dTupOf) (fCons (fLc [1, 2] (fEn (fCons (fCall 1 G_marks_till_all (fCons (fV 0) fNil)) fNil)) (.t [(.v 1), (.v 2)]) (fNot (fTru (fVb 2))) (fV 1)) fNil)))
theorem B_gaps_of_le {G_marks_till_all G'_marks_till_all : List D → T D} (e_marks_till_all : LE G_marks_till_all G'_marks_till_all) : LE (B_gaps_of G_marks_till_all) (B_gaps_of G'_marks_till_all) := (le_fRet (le_fFn (le_fCons (le_fLc (le_fEn (le_fCons (le_fCall e_marks_till_all LE.refl) LE.refl)) LE.refl LE.refl) LE.refl)))
def F_gaps_of : List D → T D := defF 2 (B_gaps_of F_marks_till_all)
theorem has_gaps_of {P : Program} {w : World} {K : PySem.W.Frag} {mg : Str → Option Value} {base : Heap} {ff : Addr} {gg : FuncData} (F : Fun K "gaps_of" "gaps_of" s_gaps_of ff gg) (hb : L2.Binds K gg ["lot"] []) (hm : mg "gaps_of" = some (.ref ff)) (h_marks_till_all : Has P w K mg base 1 "marks_till_all" 1 F_marks_till_all) (m_enumerate : mg "enumerate" = none) (m_tuple : mg "tuple" = none) : Has P w K mg base 2 "gaps_of" 1 F_gaps_of :=
  has_of F sc_gaps_of hb hm rfl rfl fun cdv AA outer ss HH hr => by
    have nd := sc_gaps_of.nd
    have hu1 := hr.u1
    have hu5 := hr.u64
    have hu4 := Nat.lt_of_succ_lt hu5
    exact (c1 (sret (sb (dct' call_tuple_of tupOf_ok rfl m_tuple bt_tuple (bc (fb (dlc (own := [("x", 1), ("is_there", 2)]) (p := (.t [(.v 1), (.v 2)])) rfl nd (ben1 rfl m_enumerate (sb (dcall (h_marks_till_all.up (by decide)) hr rfl (ac (dv 0) an)))) (by rfl) (by decide +kernel) (fun _ _ _ _ _ => (gt rfl (gc (gv 1 nd) (gc (gv 2 nd) gn)))) (fun _ _ _ _ _ => (t1 (dn (dt (dvb 2))))) (fun _ _ _ _ _ => (dv 1)))) bn)))))
abbrev s_greatest_gap : Stmt := top 12
theorem sc_greatest_gap : FnScope ["lot", "gaps"] ["lot"] (defScope s_greatest_gap) := ⟨rfl, rfl, rfl, by decide +kernel, rfl, by decide +kernel, by decide +kernel⟩
def B_greatest_gap (G_gaps_of : List D → T D) : Ev → T Res := (fSeq (fSet 1 (fCall 1 G_gaps_of (fCons (fV 0) fNil))) (fRet (fIf (fTb (fBin dNe (fVb 1) (fTup fNil))) (fBin dItem (fVb 1) (fUn dNeg (fC (.int 1)))) (fUn dNeg (fC (.int 1))))))
theorem B_greatest_gap_le {G_gaps_of G'_gaps_of : List D → T D} (e_gaps_of : LE G_gaps_of G'_gaps_of) : LE (B_greatest_gap G_gaps_of) (B_greatest_gap G'_gaps_of) := (le_fSeq (le_fSet (le_fCall e_gaps_of LE.refl)) LE.refl)
def F_greatest_gap : List D → T D := defF 1 (B_greatest_gap F_gaps_of)
theorem has_greatest_gap {P : Program} {w : World} {K : PySem.W.Frag} {mg : Str → Option Value} {base : Heap} {ff : Addr} {gg : FuncData} (F : Fun K "greatest_gap" "greatest_gap" s_greatest_gap ff gg) (hb : L2.Binds K gg ["lot"] []) (hm : mg "greatest_gap" = some (.ref ff)) (h_gaps_of : Has P w K mg base 2 "gaps_of" 1 F_gaps_of)  : Has P w K mg base 3 "greatest_gap" 1 F_greatest_gap :=
  has_of F sc_greatest_gap hb hm rfl rfl fun cdv AA outer ss HH hr => by
    have nd := sc_greatest_gap.nd
    have hu1 := hr.u1
    have hu5 := hr.u64
    have hu4 := Nat.lt_of_succ_lt hu5
    exact (cc (sset 1 nd (dcall (h_gaps_of.up (by decide)) hr rfl (ac (dv 0) an))) (c1 (sret (sb (dif (dt_cmp (op_neA hu4) ne_ok (dvb 1) (sb (dtup an)) (by first | rfl | exact nomark _)) (d_ix (ix_any hu1) item_ok (dvb 1) (sb (d_un un_neg neg_ok (sb di))) (fun _ _ => rfl)) (d_un un_neg neg_ok (sb di)))))))
abbrev s_settled_least : Stmt := top 14
theorem sc_settled_least : FnScope ["least", "m", "lot", "grows", "r", "a", "s"] ["least", "m", "lot"] (defScope s_settled_least) := ⟨rfl, rfl, rfl, by decide +kernel, rfl, by decide +kernel, by decide +kernel⟩
def B_settled_least  : Ev → T Res := (fSeq (fSetF 0 (fFn (on1 dLstQ) (fCons (fVb 0) fNil))) (fSeq (fSet 3 (fC (.bl true))) (fSeq (fWhile 100000 (fTru (fVb 3)) (fSeq (fSet 3 (fC (.bl false))) (fFor (fRng1 (fCons (fVb 1) fNil)) (.v 4) (fFor (fParts (fV 2)) (.v 5) (fIfS (fTb (fBin (dIs true) (fBin dItem (fVb 0) (fVb 4)) (fC .non))) (fSeq (fSet 6 (fBin dMod (fBin dAdd (fVb 4) (fVb 5)) (fVb 1))) (fIfS (fOr (fTb (fBin (dIs false) (fBin dItem (fVb 0) (fVb 6)) (fC .non))) (fTb (fBin dLt (fBin dAdd (fBin dItem (fVb 0) (fVb 4)) (fVb 5)) (fBin dItem (fVb 0) (fVb 6))))) (fSeq (fPut 0 (fV 6) (fBin dAdd (fBin dItem (fVb 0) (fVb 4)) (fVb 5))) (fSet 3 (fC (.bl true)))) fNx)) fNx))))) (fRet (fVb 0)))))
def F_settled_least : List D → T D := defF 4 B_settled_least
theorem has_settled_least {P : Program} {w : World} {K : PySem.W.Frag} {mg : Str → Option Value} {base : Heap} {ff : Addr} {gg : FuncData} (F : Fun K "settled_least" "settled_least" s_settled_least ff gg) (hb : L2.Binds K gg ["least", "m", "lot"] []) (hm : mg "settled_least" = some (.ref ff))  (m_list : mg "list" = none) (m_range : mg "range" = none) : Has P w K mg base 1 "settled_least" 3 F_settled_least :=
  has_of F sc_settled_least hb hm rfl rfl fun cdv AA outer ss HH hr => by
    have nd := sc_settled_least.nd
    have hu1 := hr.u1
    have hu5 := hr.u64
    have hu4 := Nat.lt_of_succ_lt hu5
    exact (cc (ssetF 0 nd (dctF (call_lstQ rfl) lstQ_ok rfl m_list bt_list (bc (dvb 0) bn))) (cc (sset 3 nd dbl) (cc (swhile 100000 PassesOwn.never (dt (dvb 3)) (cc (sset 3 nd dbl) (c1 (sfor PassesOwn.never rfl (irng1 rfl m_range (bc (dvb 1) bn)) (gv 4 nd) (c1 (sfor PassesOwn.never rfl (iseq (dv 2)) (gv 5 nd) (c1 (sif (dt_cmp op_isnotA is_ok (sb (d_ix (ix_any hu1) item_ok (dvb 0) (dvb 4) (fun _ _ => rfl))) (sb dno) (by first | rfl | exact nomark _)) (cc (sset 6 nd (d_op op_mod mod_ok (sb (d_op op_addD add_ok (dvb 4) (dvb 5))) (dvb 1))) (c1 (sif (L2.PW.pt (wo (dt_cmp op_isA is_ok (sb (d_ix (ix_any hu1) item_ok (dvb 0) (dvb 6) (fun _ _ => rfl))) (sb dno) (by first | rfl | exact nomark _)) (wo1 (dt_cmp op_lt lt_ok (sb (d_op op_addD add_ok (sb (d_ix (ix_any hu1) item_ok (dvb 0) (dvb 4) (fun _ _ => rfl))) (dvb 5))) (sb (d_ix (ix_any hu1) item_ok (dvb 0) (dvb 6) (fun _ _ => rfl))) (by first | rfl | exact nomark _))))) (cc (sput 0 hu1 (d_op op_addD add_ok (sb (d_ix (ix_any hu1) item_ok (dvb 0) (dvb 4) (fun _ _ => rfl))) (dvb 5)) (dv 6)) (c1 (sset 3 nd dbl))) cnil))) cnil)))))))) (c1 (sret (dvb 0))))))
abbrev s_least_made : Stmt := top 15
theorem sc_least_made : FnScope ["lot", "m"] ["lot", "m"] (defScope s_least_made) := ⟨rfl, rfl, rfl, by decide +kernel, rfl, by decide +kernel, by decide +kernel⟩
def B_least_made (G_settled_least : List D → T D) : Ev → T Res := (fRet (fFn (on1 dTupOf) (fCons (fCall 3 G_settled_least (fCons (fBin dAdd (fLst (fCons (fC (.int 0)) fNil)) (fBin dMul (fLst (fCons (fC .non) fNil)) (fBin dSub (fVb 1) (fC (.int 1))))) (fCons (fV 1) (fCons (fV 0) fNil)))) fNil)))
theorem B_least_made_le {G_settled_least G'_settled_least : List D → T D} (e_settled_least : LE G_settled_least G'_settled_least) : LE (B_least_made G_settled_least) (B_least_made G'_settled_least) := (le_fRet (le_fFn (le_fCons (le_fCall e_settled_least LE.refl) LE.refl)))
def F_least_made : List D → T D := defF 0 (B_least_made F_settled_least)
theorem has_least_made {P : Program} {w : World} {K : PySem.W.Frag} {mg : Str → Option Value} {base : Heap} {ff : Addr} {gg : FuncData} (F : Fun K "least_made" "least_made" s_least_made ff gg) (hb : L2.Binds K gg ["lot", "m"] []) (hm : mg "least_made" = some (.ref ff)) (h_settled_least : Has P w K mg base 1 "settled_least" 3 F_settled_least) (m_tuple : mg "tuple" = none) : Has P w K mg base 2 "least_made" 2 F_least_made :=
  has_of F sc_least_made hb hm rfl rfl fun cdv AA outer ss HH hr => by
    have nd := sc_least_made.nd
    have hu1 := hr.u1
    have hu5 := hr.u64
    have hu4 := Nat.lt_of_succ_lt hu5
    exact (c1 (sret (sb (dct' call_tuple_of tupOf_ok rfl m_tuple bt_tuple (bc (sb (dcall (h_settled_least.up (by decide)) hr rfl (ac (d_op op_addD add_ok (fb (dlst (ac di an))) (sb (d_op op_mulD mul_ok (fb (dlst (ac dno an))) (sb (d_op op_subD sub_ok (dvb 1) (sb di)))))) (ac (dv 1) (ac (dv 0) an))))) bn)))))
abbrev s_is_alike : Stmt := top 19
theorem sc_is_alike : FnScope ["lot", "m", "least", "whole", "one", "other"] ["lot"] (defScope s_is_alike) := ⟨rfl, rfl, rfl, by decide +kernel, rfl, by decide +kernel, by decide +kernel⟩
def B_is_alike (G_greatest_gap : List D → T D) (G_least_made : List D → T D) : Ev → T Res := (fSeq (fSet 1 (fBin dItem (fVb 0) (fC (.int 0)))) (fSeq (fSet 2 (fFn (on1 dSortedQ) (fCons (fCall 2 G_least_made (fCons (fV 0) (fCons (fV 1) fNil))) fNil))) (fSeq (fSet 3 (fBin dAdd (fCall 1 G_greatest_gap (fCons (fV 0) fNil)) (fVb 1))) (fRet (fFn (on1 dAll) (fCons (fLc [4, 5] (fZs (fCons (fVb 2) (fCons (fUn dRev (fVb 2)) fNil))) (.t [(.v 4), (.v 5)]) fYes (fBin dEq (fBin dAdd (fVb 4) (fVb 5)) (fVb 3))) fNil))))))
theorem B_is_alike_le {G_greatest_gap G'_greatest_gap : List D → T D} {G_least_made G'_least_made : List D → T D} (e_greatest_gap : LE G_greatest_gap G'_greatest_gap) (e_least_made : LE G_least_made G'_least_made) : LE (B_is_alike G_greatest_gap G_least_made) (B_is_alike G'_greatest_gap G'_least_made) := (le_fSeq LE.refl (le_fSeq (le_fSet (le_fFn (le_fCons (le_fCall e_least_made LE.refl) LE.refl))) (le_fSeq (le_fSet (le_fBin (le_fCall e_greatest_gap LE.refl) LE.refl)) LE.refl)))
def F_is_alike : List D → T D := defF 5 (B_is_alike F_greatest_gap F_least_made)
theorem has_is_alike {P : Program} {w : World} {K : PySem.W.Frag} {mg : Str → Option Value} {base : Heap} {ff : Addr} {gg : FuncData} (F : Fun K "is_alike" "is_alike" s_is_alike ff gg) (hb : L2.Binds K gg ["lot"] []) (hm : mg "is_alike" = some (.ref ff)) (h_greatest_gap : Has P w K mg base 3 "greatest_gap" 1 F_greatest_gap) (h_least_made : Has P w K mg base 2 "least_made" 2 F_least_made) (m_all : mg "all" = none) (m_sorted : mg "sorted" = none) (m_zip : mg "zip" = none) : Has P w K mg base 4 "is_alike" 1 F_is_alike :=
  has_of F sc_is_alike hb hm rfl rfl fun cdv AA outer ss HH hr => by
    have nd := sc_is_alike.nd
    have hu1 := hr.u1
    have hu5 := hr.u64
    have hu4 := Nat.lt_of_succ_lt hu5
    exact (cc (sset 1 nd (d_ix (ix_any hu1) item_ok (dvb 0) (sb di) (fun _ _ => rfl))) (cc (sset 2 nd (fd (dcbF (call_sortedQ hu5 rfl) sortedQ_ok rfl m_sorted bt_sorted (bc (sb (dcall (h_least_made.up (by decide)) hr rfl (ac (dv 0) (ac (dv 1) an)))) bn)))) (cc (sset 3 nd (d_op op_addD add_ok (sb (dcall (h_greatest_gap.up (by decide)) hr rfl (ac (dv 0) an))) (dvb 1))) (c1 (sret (sb (dcb (cr_all rfl) all_ok rfl m_all bt_all (bc (fb (dlc (own := [("one", 4), ("other", 5)]) (p := (.t [(.v 4), (.v 5)])) rfl nd (bzips rfl m_zip (bc (dvb 2) (bc (sb (dback (dvb 2))) bn))) (by rfl) (by decide +kernel) (fun _ _ _ _ _ => (gt rfl (gc (gv 4 nd) (gc (gv 5 nd) gn)))) (fun _ _ _ _ _ => ty) (fun _ _ _ _ _ => (d_cmp (op_eqA hu4) eq_ok (sb (d_op op_addD add_ok (dvb 4) (dvb 5))) (dvb 3) (by first | rfl | exact nomark _))))) bn))))))))
abbrev s_two_told : Stmt := top 20
theorem sc_two_told : FnScope ["a", "b"] ["a", "b"] (defScope s_two_told) := ⟨rfl, rfl, rfl, by decide +kernel, rfl, by decide +kernel, by decide +kernel⟩
def B_two_told  : Ev → T Res := (fRet (fTup (fCons (fBin dSub (fBin dSub (fBin dMul (fVb 0) (fVb 1)) (fVb 0)) (fVb 1)) (fCons (fBin dDiv (fBin dMul (fBin dSub (fVb 0) (fC (.int 1))) (fBin dSub (fVb 1) (fC (.int 1)))) (fC (.int 2))) fNil))))
def F_two_told : List D → T D := defF 0 B_two_told
theorem has_two_told {P : Program} {w : World} {K : PySem.W.Frag} {mg : Str → Option Value} {base : Heap} {ff : Addr} {gg : FuncData} (F : Fun K "two_told" "two_told" s_two_told ff gg) (hb : L2.Binds K gg ["a", "b"] []) (hm : mg "two_told" = some (.ref ff))   : Has P w K mg base 1 "two_told" 2 F_two_told :=
  has_of F sc_two_told hb hm rfl rfl fun cdv AA outer ss HH hr => by
    have nd := sc_two_told.nd
    have hu1 := hr.u1
    have hu5 := hr.u64
    have hu4 := Nat.lt_of_succ_lt hu5
    exact (c1 (sret (sb (dtup (ac (d_op op_subD sub_ok (sb (d_op op_subD sub_ok (sb (d_op op_mulD mul_ok (dvb 0) (dvb 1))) (dvb 0))) (dvb 1)) (ac (d_op op_fdivW div_ok (sb (d_op op_mulD mul_ok (sb (d_op op_subD sub_ok (dvb 0) (sb di))) (sb (d_op op_subD sub_ok (dvb 1) (sb di))))) (sb di)) an))))))
abbrev s_two_way : Stmt := top 21
theorem sc_two_way : FnScope ["a", "b", "x", "i"] ["a", "b", "x"] (defScope s_two_way) := ⟨rfl, rfl, rfl, by decide +kernel, rfl, by decide +kernel, by decide +kernel⟩
def B_two_way  : Ev → T Res := (fSeq (fSet 3 (fC (.int 0))) (fSeq (fWhile 100000 (fTb (fBin dNe (fBin dMod (fBin dSub (fVb 2) (fBin dMul (fVb 0) (fVb 3))) (fVb 1)) (fC (.int 0)))) (fSet 3 (fBin dAdd (fVb 3) (fC (.int 1))))) (fRet (fTup (fCons (fV 3) (fCons (fBin dDiv (fBin dSub (fVb 2) (fBin dMul (fVb 0) (fVb 3))) (fVb 1)) fNil))))))
def F_two_way : List D → T D := defF 1 B_two_way
theorem has_two_way {P : Program} {w : World} {K : PySem.W.Frag} {mg : Str → Option Value} {base : Heap} {ff : Addr} {gg : FuncData} (F : Fun K "two_way" "two_way" s_two_way ff gg) (hb : L2.Binds K gg ["a", "b", "x"] []) (hm : mg "two_way" = some (.ref ff))   : Has P w K mg base 1 "two_way" 3 F_two_way :=
  has_of F sc_two_way hb hm rfl rfl fun cdv AA outer ss HH hr => by
    have nd := sc_two_way.nd
    have hu1 := hr.u1
    have hu5 := hr.u64
    have hu4 := Nat.lt_of_succ_lt hu5
    exact (cc (sset 3 nd di) (cc (swhile 100000 PassesOwn.never (dt_cmp (op_neA hu4) ne_ok (sb (d_op op_mod mod_ok (sb (d_op op_subD sub_ok (dvb 2) (sb (d_op op_mulD mul_ok (dvb 0) (dvb 3))))) (dvb 1))) (sb di) (by first | rfl | exact nomark _)) (c1 (sset 3 nd (d_op op_addD add_ok (dvb 3) (sb di))))) (c1 (sret (sb (dtup (ac (dv 3) (ac (d_op op_fdivW div_ok (sb (d_op op_subD sub_ok (dvb 2) (sb (d_op op_mulD mul_ok (dvb 0) (dvb 3))))) (dvb 1)) an))))))))
abbrev s_two_gaps : Stmt := top 22
theorem sc_two_gaps : FnScope ["a", "b", "x"] ["a", "b"] (defScope s_two_gaps) := ⟨rfl, rfl, rfl, by decide +kernel, rfl, by decide +kernel, by decide +kernel⟩
def B_two_gaps (G_two_way : List D → T D) (G_two_told : List D → T D) : Ev → T Res := (fRet (fFn (on1 dTupOf) (fCons (fLc [2] (fRng2 (fCons (fC (.int 1)) (fCons (fBin dAdd (fBin dItem (fCall 2 G_two_told (fCons (fV 0) (fCons (fV 1) fNil))) (fC (.int 0))) (fC (.int 1))) fNil))) (.v 2) (fTb (fBin dLt (fBin dItem (fCall 3 G_two_way (fCons (fV 0) (fCons (fV 1) (fCons (fV 2) fNil)))) (fC (.int 1))) (fC (.int 0)))) (fV 2)) fNil)))
theorem B_two_gaps_le {G_two_way G'_two_way : List D → T D} {G_two_told G'_two_told : List D → T D} (e_two_way : LE G_two_way G'_two_way) (e_two_told : LE G_two_told G'_two_told) : LE (B_two_gaps G_two_way G_two_told) (B_two_gaps G'_two_way G'_two_told) := (le_fRet (le_fFn (le_fCons (le_fLc (le_fRng2 (le_fCons LE.refl (le_fCons (le_fBin (le_fBin (le_fCall e_two_told LE.refl) LE.refl) LE.refl) LE.refl))) (le_fTb (le_fBin (le_fBin (le_fCall e_two_way LE.refl) LE.refl) LE.refl)) LE.refl) LE.refl)))
def F_two_gaps : List D → T D := defF 1 (B_two_gaps F_two_way F_two_told)
theorem has_two_gaps {P : Program} {w : World} {K : PySem.W.Frag} {mg : Str → Option Value} {base : Heap} {ff : Addr} {gg : FuncData} (F : Fun K "two_gaps" "two_gaps" s_two_gaps ff gg) (hb : L2.Binds K gg ["a", "b"] []) (hm : mg "two_gaps" = some (.ref ff)) (h_two_way : Has P w K mg base 1 "two_way" 3 F_two_way) (h_two_told : Has P w K mg base 1 "two_told" 2 F_two_told) (m_range : mg "range" = none) (m_tuple : mg "tuple" = none) : Has P w K mg base 2 "two_gaps" 2 F_two_gaps :=
  has_of F sc_two_gaps hb hm rfl rfl fun cdv AA outer ss HH hr => by
    have nd := sc_two_gaps.nd
    have hu1 := hr.u1
    have hu5 := hr.u64
    have hu4 := Nat.lt_of_succ_lt hu5
    exact (c1 (sret (sb (dct' call_tuple_of tupOf_ok rfl m_tuple bt_tuple (bc (fb (dlc (own := [("x", 2)]) (p := (.v 2)) rfl nd (tI_of (irng2 rfl m_range (bc (sb di) (bc (sb (d_op op_addD add_ok (sb (d_ix (ix_any hu1) item_ok (sb (dcall (h_two_told.up (by decide)) hr rfl (ac (dv 0) (ac (dv 1) an)))) (sb di) (fun _ _ => rfl))) (sb di))) bn)))) (by rfl) (by decide +kernel) (fun _ _ _ _ _ => (gv 2 nd)) (fun _ _ _ _ _ => (t1 (dt_cmp op_lt lt_ok (sb (d_ix (ix_any hu1) item_ok (sb (dcall (h_two_way.up (by decide)) hr rfl (ac (dv 0) (ac (dv 1) (ac (dv 2) an))))) (sb di) (fun _ _ => rfl))) (sb di) (by first | rfl | exact nomark _)))) (fun _ _ _ _ _ => (dv 2)))) bn)))))
abbrev s_lots_of : Stmt := top 24
theorem sc_lots_of : FnScope ["n", "k", "found", "i"] ["n", "k"] (defScope s_lots_of) := ⟨rfl, rfl, rfl, by decide +kernel, rfl, by decide +kernel, by decide +kernel⟩
def B_lots_of  : Ev → T Res := (fSeq (fSet 2 (fC (.int 1))) (fSeq (fFor (fRng1 (fCons (fVb 1) fNil)) (.v 3) (fSet 2 (fBin dDiv (fBin dMul (fVb 2) (fBin dSub (fVb 0) (fVb 3))) (fBin dAdd (fVb 3) (fC (.int 1)))))) (fRet (fVb 2))))
def F_lots_of : List D → T D := defF 2 B_lots_of
theorem has_lots_of {P : Program} {w : World} {K : PySem.W.Frag} {mg : Str → Option Value} {base : Heap} {ff : Addr} {gg : FuncData} (F : Fun K "lots_of" "lots_of" s_lots_of ff gg) (hb : L2.Binds K gg ["n", "k"] []) (hm : mg "lots_of" = some (.ref ff))  (m_range : mg "range" = none) : Has P w K mg base 1 "lots_of" 2 F_lots_of :=
  has_of F sc_lots_of hb hm rfl rfl fun cdv AA outer ss HH hr => by
    have nd := sc_lots_of.nd
    have hu1 := hr.u1
    have hu5 := hr.u64
    have hu4 := Nat.lt_of_succ_lt hu5
    exact (cc (sset 2 nd di) (cc (sfor PassesOwn.never rfl (irng1 rfl m_range (bc (dvb 1) bn)) (gv 3 nd) (c1 (sset 2 nd (d_op op_fdivW div_ok (sb (d_op op_mulD mul_ok (dvb 2) (sb (d_op op_subD sub_ok (dvb 0) (dvb 3))))) (sb (d_op op_addD add_ok (dvb 3) (sb di))))))) (c1 (sret (dvb 2)))))
abbrev s_core_count : Stmt := top 26
theorem sc_core_count : FnScope ["s", "t"] ["s", "t"] (defScope s_core_count) := ⟨rfl, rfl, rfl, by decide +kernel, rfl, by decide +kernel, by decide +kernel⟩
def B_core_count (G_lots_of : List D → T D) : Ev → T Res := (fRet (fBin dDiv (fCall 2 G_lots_of (fCons (fBin dAdd (fVb 0) (fVb 1)) (fCons (fV 0) fNil))) (fBin dAdd (fVb 0) (fVb 1))))
theorem B_core_count_le {G_lots_of G'_lots_of : List D → T D} (e_lots_of : LE G_lots_of G'_lots_of) : LE (B_core_count G_lots_of) (B_core_count G'_lots_of) := (le_fRet (le_fBin (le_fCall e_lots_of LE.refl) LE.refl))
def F_core_count : List D → T D := defF 0 (B_core_count F_lots_of)
theorem has_core_count {P : Program} {w : World} {K : PySem.W.Frag} {mg : Str → Option Value} {base : Heap} {ff : Addr} {gg : FuncData} (F : Fun K "core_count" "core_count" s_core_count ff gg) (hb : L2.Binds K gg ["s", "t"] []) (hm : mg "core_count" = some (.ref ff)) (h_lots_of : Has P w K mg base 1 "lots_of" 2 F_lots_of)  : Has P w K mg base 2 "core_count" 2 F_core_count :=
  has_of F sc_core_count hb hm rfl rfl fun cdv AA outer ss HH hr => by
    have nd := sc_core_count.nd
    have hu1 := hr.u1
    have hu5 := hr.u64
    have hu4 := Nat.lt_of_succ_lt hu5
    exact (c1 (sret (sb (d_op op_fdivW div_ok (sb (dcall (h_lots_of.up (by decide)) hr rfl (ac (d_op op_addD add_ok (dvb 0) (dvb 1)) (ac (dv 0) an)))) (sb (d_op op_addD add_ok (dvb 0) (dvb 1)))))))
abbrev s_made_numbers : Stmt := top 27
theorem sc_made_numbers : FnScope ["s", "t", "most", "found", "x", "y"] ["s", "t", "most"] (defScope s_made_numbers) := ⟨rfl, rfl, rfl, by decide +kernel, rfl, by decide +kernel, by decide +kernel⟩
def B_made_numbers  : Ev → T Res := (fSeq (fSetF 3 (fDn false)) (fSeq (fFor (fRng3 (fCons (fC (.int 0)) (fCons (fVb 2) (fCons (fVb 0) fNil)))) (.v 4) (fMut 3 mUpdate (fDcm [5] (fRng3 (fCons (fVb 4) (fCons (fVb 2) (fCons (fVb 1) fNil)))) (.v 5) fYes (fV 5) (fC (.bl true))))) (fRet (fVb 3))))
def F_made_numbers : List D → T D := defF 3 B_made_numbers
theorem has_made_numbers {P : Program} {w : World} {K : PySem.W.Frag} {mg : Str → Option Value} {base : Heap} {ff : Addr} {gg : FuncData} (F : Fun K "made_numbers" "made_numbers" s_made_numbers ff gg) (hb : L2.Binds K gg ["s", "t", "most"] []) (hm : mg "made_numbers" = some (.ref ff))  (m_range : mg "range" = none) : Has P w K mg base 1 "made_numbers" 3 F_made_numbers :=
  has_of F sc_made_numbers hb hm rfl rfl fun cdv AA outer ss HH hr => by
    have nd := sc_made_numbers.nd
    have hu1 := hr.u1
    have hu5 := hr.u64
    have hu4 := Nat.lt_of_succ_lt hu5
    exact (cc (ssetF 3 nd dnewK) (cc (sfor PassesOwn.never rfl (irng3 rfl m_range (bc (sb di) (bc (dvb 2) (bc (dvb 0) bn)))) (gv 4 nd) (c1 (supdate 3 (fd (ddcm (own := [("y", 5)]) (p := (.v 5)) rfl nd (tI_of (irng3 rfl m_range (bc (dvb 4) (bc (dvb 2) (bc (dvb 1) bn))))) (by rfl) (by decide +kernel) (fun _ _ _ _ _ => (gv 5 nd)) (fun _ _ _ _ _ => ty) (fun _ _ _ _ _ => (dv 5)) (fun _ _ _ _ _ => dbl)))))) (c1 (sret (dvb 3)))))
abbrev s_greatest_core : Stmt := top 28
theorem sc_greatest_core : FnScope ["s", "t", "made", "x"] ["s", "t"] (defScope s_greatest_core) := ⟨rfl, rfl, rfl, by decide +kernel, rfl, by decide +kernel, by decide +kernel⟩
def B_greatest_core (G_parting_of_column : List D → T D) (G_made_numbers : List D → T D) : Ev → T Res := (fSeq (fSet 2 (fCall 3 G_made_numbers (fCons (fV 0) (fCons (fV 1) (fCons (fBin dMul (fVb 0) (fVb 1)) fNil))))) (fRet (fCall 1 G_parting_of_column (fCons (fFn (on1 dTupOf) (fCons (fLc [3] (fRng1 (fCons (fBin dMul (fVb 0) (fVb 1)) fNil)) (.v 3) (fTb (fBin (dInN true) (fVb 3) (fVb 2))) (fV 3)) fNil)) fNil))))
theorem B_greatest_core_le {G_parting_of_column G'_parting_of_column : List D → T D} {G_made_numbers G'_made_numbers : List D → T D} (e_parting_of_column : LE G_parting_of_column G'_parting_of_column) (e_made_numbers : LE G_made_numbers G'_made_numbers) : LE (B_greatest_core G_parting_of_column G_made_numbers) (B_greatest_core G'_parting_of_column G'_made_numbers) := (le_fSeq (le_fSet (le_fCall e_made_numbers LE.refl)) (le_fRet (le_fCall e_parting_of_column LE.refl)))
def F_greatest_core : List D → T D := defF 2 (B_greatest_core F_parting_of_column F_made_numbers)
theorem has_greatest_core {P : Program} {w : World} {K : PySem.W.Frag} {mg : Str → Option Value} {base : Heap} {ff : Addr} {gg : FuncData} (F : Fun K "greatest_core" "greatest_core" s_greatest_core ff gg) (hb : L2.Binds K gg ["s", "t"] []) (hm : mg "greatest_core" = some (.ref ff)) (h_parting_of_column : Has P w K mg base 1 "parting_of_column" 1 F_parting_of_column) (h_made_numbers : Has P w K mg base 1 "made_numbers" 3 F_made_numbers) (m_range : mg "range" = none) (m_tuple : mg "tuple" = none) : Has P w K mg base 2 "greatest_core" 2 F_greatest_core :=
  has_of F sc_greatest_core hb hm rfl rfl fun cdv AA outer ss HH hr => by
    have nd := sc_greatest_core.nd
    have hu1 := hr.u1
    have hu5 := hr.u64
    have hu4 := Nat.lt_of_succ_lt hu5
    exact (cc (sset 2 nd (dcall (h_made_numbers.up (by decide)) hr rfl (ac (dv 0) (ac (dv 1) (ac (d_op op_mulD mul_ok (dvb 0) (dvb 1)) an))))) (c1 (sret (sb (dcall (h_parting_of_column.up (by decide)) hr rfl (ac (dct' call_tuple_of tupOf_ok rfl m_tuple bt_tuple (bc (fb (dlc (own := [("x", 3)]) (p := (.v 3)) rfl nd (tI_of (irng1 rfl m_range (bc (sb (d_op op_mulD mul_ok (dvb 0) (dvb 1))) bn))) (by rfl) (by decide +kernel) (fun _ _ _ _ _ => (gv 3 nd)) (fun _ _ _ _ _ => (t1 (dt_cmp (op_notInA hu5) notin_ok (dvb 3) (dvb 2) (by first | rfl | exact nomark _)))) (fun _ _ _ _ _ => (dv 3)))) bn)) an))))))
abbrev s_partings_row : Stmt := top 30
theorem sc_partings_row : FnScope ["lot", "n", "row", "a", "total"] ["lot", "n"] (defScope s_partings_row) := ⟨rfl, rfl, rfl, by decide +kernel, rfl, by decide +kernel, by decide +kernel⟩
def B_partings_row  : Ev → T Res := (fSeq (fSetF 2 (fBin dAddL (fLst (fCons (fC (.int 1)) fNil)) (fBin dMul (fLst (fCons (fC (.int 0)) fNil)) (fVb 1)))) (fSeq (fFor (fParts (fV 0)) (.v 3) (fFor (fRng2 (fCons (fVb 3) (fCons (fBin dAdd (fVb 1) (fC (.int 1))) fNil))) (.v 4) (fPut 2 (fV 4) (fBin dAdd (fBin dItem (fVb 2) (fVb 4)) (fBin dItem (fVb 2) (fBin dSub (fVb 4) (fVb 3))))))) (fRet (fFn (on1 dTupOf) (fCons (fVb 2) fNil)))))
def F_partings_row : List D → T D := defF 3 B_partings_row
theorem has_partings_row {P : Program} {w : World} {K : PySem.W.Frag} {mg : Str → Option Value} {base : Heap} {ff : Addr} {gg : FuncData} (F : Fun K "partings_row" "partings_row" s_partings_row ff gg) (hb : L2.Binds K gg ["lot", "n"] []) (hm : mg "partings_row" = some (.ref ff))  (m_range : mg "range" = none) (m_tuple : mg "tuple" = none) : Has P w K mg base 1 "partings_row" 2 F_partings_row :=
  has_of F sc_partings_row hb hm rfl rfl fun cdv AA outer ss HH hr => by
    have nd := sc_partings_row.nd
    have hu1 := hr.u1
    have hu5 := hr.u64
    have hu4 := Nat.lt_of_succ_lt hu5
    exact (cc (ssetF 2 nd (d_opF op_cat addL_ok (fb (dlst (ac di an))) (sb (d_op op_mulD mul_ok (fb (dlst (ac di an))) (dvb 1))))) (cc (sfor PassesOwn.never rfl (iseq (dv 0)) (gv 3 nd) (c1 (sfor PassesOwn.never rfl (irng2 rfl m_range (bc (dvb 3) (bc (sb (d_op op_addD add_ok (dvb 1) (sb di))) bn))) (gv 4 nd) (c1 (sput 2 hu1 (d_op op_addD add_ok (sb (d_ix (ix_any hu1) item_ok (dvb 2) (dvb 4) (fun _ _ => rfl))) (sb (d_ix (ix_any hu1) item_ok (dvb 2) (sb (d_op op_subD sub_ok (dvb 4) (dvb 3))) (fun _ _ => rfl)))) (dv 4)))))) (c1 (sret (sb (dct' call_tuple_of tupOf_ok rfl m_tuple bt_tuple (bc (dvb 2) bn)))))))
abbrev s_many_partings : Stmt := top 31
theorem sc_many_partings : FnScope ["lot", "n"] ["lot", "n"] (defScope s_many_partings) := ⟨rfl, rfl, rfl, by decide +kernel, rfl, by decide +kernel, by decide +kernel⟩
def B_many_partings (G_partings_row : List D → T D) : Ev → T Res := (fRet (fIf (fTb (fBin dGe (fVb 1) (fC (.int 0)))) (fBin dItem (fCall 2 G_partings_row (fCons (fV 0) (fCons (fV 1) fNil))) (fVb 1)) (fC (.int 0))))
theorem B_many_partings_le {G_partings_row G'_partings_row : List D → T D} (e_partings_row : LE G_partings_row G'_partings_row) : LE (B_many_partings G_partings_row) (B_many_partings G'_partings_row) := (le_fRet (le_fIf LE.refl (le_fBin (le_fCall e_partings_row LE.refl) LE.refl) LE.refl))
def F_many_partings : List D → T D := defF 0 (B_many_partings F_partings_row)
theorem has_many_partings {P : Program} {w : World} {K : PySem.W.Frag} {mg : Str → Option Value} {base : Heap} {ff : Addr} {gg : FuncData} (F : Fun K "many_partings" "many_partings" s_many_partings ff gg) (hb : L2.Binds K gg ["lot", "n"] []) (hm : mg "many_partings" = some (.ref ff)) (h_partings_row : Has P w K mg base 1 "partings_row" 2 F_partings_row)  : Has P w K mg base 2 "many_partings" 2 F_many_partings :=
  has_of F sc_many_partings hb hm rfl rfl fun cdv AA outer ss HH hr => by
    have nd := sc_many_partings.nd
    have hu1 := hr.u1
    have hu5 := hr.u64
    have hu4 := Nat.lt_of_succ_lt hu5
    exact (c1 (sret (sb (dif (dt_cmp op_ge ge_ok (dvb 1) (sb di) (by first | rfl | exact nomark _)) (d_ix (ix_any hu1) item_ok (sb (dcall (h_partings_row.up (by decide)) hr rfl (ac (dv 0) (ac (dv 1) an)))) (dvb 1) (fun _ _ => rfl)) di))))
abbrev s_stepped_once : Stmt := top 39
theorem sc_stepped_once : FnScope ["found", "a", "b", "late", "start", "here", "lap", "there"] ["found", "a", "b"] (defScope s_stepped_once) := ⟨rfl, rfl, rfl, by decide +kernel, rfl, by decide +kernel, by decide +kernel⟩
def B_stepped_once  : Ev → T Res := (fSeq (fSetF 3 (fFn (on1 dLstQ) (fCons (fVb 0) fNil))) (fSeq (fFor (fRng1 (fCons (fFn dGcd (fCons (fVb 1) (fCons (fVb 2) fNil))) fNil)) (.v 4) (fSeq (fSet 5 (fV 4)) (fFor (fRng1 (fCons (fBin dDiv (fBin dMul (fC (.int 2)) (fVb 1)) (fFn dGcd (fCons (fVb 1) (fCons (fVb 2) fNil)))) fNil)) (.v 6) (fSeq (fSet 7 (fBin dMod (fBin dAdd (fVb 5) (fVb 2)) (fVb 1))) (fSeq (fIfS (fAnd (fTb (fBin (dIs true) (fBin dItem (fVb 3) (fVb 5)) (fC .non))) (fOr (fTb (fBin (dIs false) (fBin dItem (fVb 3) (fVb 7)) (fC .non))) (fTb (fBin dLt (fBin dAdd (fBin dItem (fVb 3) (fVb 5)) (fVb 2)) (fBin dItem (fVb 3) (fVb 7)))))) (fPut 3 (fV 7) (fBin dAdd (fBin dItem (fVb 3) (fVb 5)) (fVb 2))) fNx) (fSet 5 (fV 7))))))) (fRet (fVb 3))))
def F_stepped_once : List D → T D := defF 5 B_stepped_once
theorem has_stepped_once {P : Program} {w : World} {K : PySem.W.Frag} {mg : Str → Option Value} {base : Heap} {ff : Addr} {gg : FuncData} (F : Fun K "stepped_once" "stepped_once" s_stepped_once ff gg) (hb : L2.Binds K gg ["found", "a", "b"] []) (hm : mg "stepped_once" = some (.ref ff))  (m_gcd : mg "gcd" = some (.builtin "math.gcd")) (m_list : mg "list" = none) (m_range : mg "range" = none) : Has P w K mg base 1 "stepped_once" 3 F_stepped_once :=
  has_of F sc_stepped_once hb hm rfl rfl fun cdv AA outer ss HH hr => by
    have nd := sc_stepped_once.nd
    have hu1 := hr.u1
    have hu5 := hr.u64
    have hu4 := Nat.lt_of_succ_lt hu5
    exact (cc (ssetF 3 nd (dctF (call_lstQ rfl) lstQ_ok rfl m_list bt_list (bc (dvb 0) bn))) (cc (sfor PassesOwn.never rfl (irng1 rfl m_range (bc (sb (dcbG cr_gcd gcd_ok rfl m_gcd (bc (dvb 1) (bc (dvb 2) bn)))) bn)) (gv 4 nd) (cc (sset 5 nd (dv 4)) (c1 (sfor PassesOwn.never rfl (irng1 rfl m_range (bc (sb (d_op op_fdivW div_ok (sb (d_op op_mulD mul_ok (sb di) (dvb 1))) (sb (dcbG cr_gcd gcd_ok rfl m_gcd (bc (dvb 1) (bc (dvb 2) bn)))))) bn)) (gv 6 nd) (cc (sset 7 nd (d_op op_mod mod_ok (sb (d_op op_addD add_ok (dvb 5) (dvb 2))) (dvb 1))) (cc (sif (L2.PW.pt (wa (dt_cmp op_isnotA is_ok (sb (d_ix (ix_any hu1) item_ok (dvb 3) (dvb 5) (fun _ _ => rfl))) (sb dno) (by first | rfl | exact nomark _)) (wa1 (L2.PW.pt (wo (dt_cmp op_isA is_ok (sb (d_ix (ix_any hu1) item_ok (dvb 3) (dvb 7) (fun _ _ => rfl))) (sb dno) (by first | rfl | exact nomark _)) (wo1 (dt_cmp op_lt lt_ok (sb (d_op op_addD add_ok (sb (d_ix (ix_any hu1) item_ok (dvb 3) (dvb 5) (fun _ _ => rfl))) (dvb 2))) (sb (d_ix (ix_any hu1) item_ok (dvb 3) (dvb 7) (fun _ _ => rfl))) (by first | rfl | exact nomark _)))))))) (c1 (sput 3 hu1 (d_op op_addD add_ok (sb (d_ix (ix_any hu1) item_ok (dvb 3) (dvb 5) (fun _ _ => rfl))) (dvb 2)) (dv 7))) cnil) (c1 (sset 5 nd (dv 7))))))))) (c1 (sret (dvb 3)))))
abbrev s_least_by_rests : Stmt := top 40
theorem sc_least_by_rests : FnScope ["lot", "a", "found", "b"] ["lot", "a"] (defScope s_least_by_rests) := ⟨rfl, rfl, rfl, by decide +kernel, rfl, by decide +kernel, by decide +kernel⟩
def B_least_by_rests (G_stepped_once : List D → T D) : Ev → T Res := (fSeq (fSet 2 (fBin dAdd (fLst (fCons (fC (.int 0)) fNil)) (fBin dMul (fLst (fCons (fC .non) fNil)) (fBin dSub (fVb 1) (fC (.int 1)))))) (fSeq (fFor (fParts (fV 0)) (.v 3) (fIfS (fTb (fBin dNe (fVb 3) (fVb 1))) (fSet 2 (fCall 3 G_stepped_once (fCons (fV 2) (fCons (fV 1) (fCons (fV 3) fNil))))) fNx)) (fRet (fFn (on1 dTupOf) (fCons (fVb 2) fNil)))))
theorem B_least_by_rests_le {G_stepped_once G'_stepped_once : List D → T D} (e_stepped_once : LE G_stepped_once G'_stepped_once) : LE (B_least_by_rests G_stepped_once) (B_least_by_rests G'_stepped_once) := (le_fSeq LE.refl (le_fSeq (le_fFor LE.refl (le_fIfS LE.refl (le_fSet (le_fCall e_stepped_once LE.refl)) LE.refl)) LE.refl))
def F_least_by_rests : List D → T D := defF 2 (B_least_by_rests F_stepped_once)
theorem has_least_by_rests {P : Program} {w : World} {K : PySem.W.Frag} {mg : Str → Option Value} {base : Heap} {ff : Addr} {gg : FuncData} (F : Fun K "least_by_rests" "least_by_rests" s_least_by_rests ff gg) (hb : L2.Binds K gg ["lot", "a"] []) (hm : mg "least_by_rests" = some (.ref ff)) (h_stepped_once : Has P w K mg base 1 "stepped_once" 3 F_stepped_once) (m_tuple : mg "tuple" = none) : Has P w K mg base 2 "least_by_rests" 2 F_least_by_rests :=
  has_of F sc_least_by_rests hb hm rfl rfl fun cdv AA outer ss HH hr => by
    have nd := sc_least_by_rests.nd
    have hu1 := hr.u1
    have hu5 := hr.u64
    have hu4 := Nat.lt_of_succ_lt hu5
    exact (cc (sset 2 nd (d_op op_addD add_ok (fb (dlst (ac di an))) (sb (d_op op_mulD mul_ok (fb (dlst (ac dno an))) (sb (d_op op_subD sub_ok (dvb 1) (sb di))))))) (cc (sfor PassesOwn.never rfl (iseq (dv 0)) (gv 3 nd) (c1 (sif (dt_cmp (op_neA hu4) ne_ok (dvb 3) (dvb 1) (by first | rfl | exact nomark _)) (c1 (sset 2 nd (dcall (h_stepped_once.up (by decide)) hr rfl (ac (dv 2) (ac (dv 1) (ac (dv 3) an)))))) cnil))) (c1 (sret (sb (dct' call_tuple_of tupOf_ok rfl m_tuple bt_tuple (bc (dvb 2) bn)))))))
abbrev s_lot_divisor : Stmt := top 37
theorem sc_lot_divisor : FnScope ["lot", "found", "a"] ["lot"] (defScope s_lot_divisor) := ⟨rfl, rfl, rfl, by decide +kernel, rfl, by decide +kernel, by decide +kernel⟩
def B_lot_divisor  : Ev → T Res := (fSeq (fSet 1 (fC (.int 0))) (fSeq (fFor (fParts (fV 0)) (.v 2) (fSet 1 (fFn dGcd (fCons (fVb 1) (fCons (fVb 2) fNil))))) (fRet (fVb 1))))
def F_lot_divisor : List D → T D := defF 2 B_lot_divisor
theorem has_lot_divisor {P : Program} {w : World} {K : PySem.W.Frag} {mg : Str → Option Value} {base : Heap} {ff : Addr} {gg : FuncData} (F : Fun K "lot_divisor" "lot_divisor" s_lot_divisor ff gg) (hb : L2.Binds K gg ["lot"] []) (hm : mg "lot_divisor" = some (.ref ff))  (m_gcd : mg "gcd" = some (.builtin "math.gcd")) : Has P w K mg base 1 "lot_divisor" 1 F_lot_divisor :=
  has_of F sc_lot_divisor hb hm rfl rfl fun cdv AA outer ss HH hr => by
    have nd := sc_lot_divisor.nd
    have hu1 := hr.u1
    have hu5 := hr.u64
    have hu4 := Nat.lt_of_succ_lt hu5
    exact (cc (sset 1 nd di) (cc (sfor PassesOwn.never rfl (iseq (dv 0)) (gv 2 nd) (c1 (sset 1 nd (dcbG cr_gcd gcd_ok rfl m_gcd (bc (dvb 1) (bc (dvb 2) bn)))))) (c1 (sret (dvb 1)))))
abbrev s_check_whole_lot : Stmt := top 41
theorem sc_check_whole_lot : FnScope ["lot"] ["lot"] (defScope s_check_whole_lot) := ⟨rfl, rfl, rfl, by decide +kernel, rfl, by decide +kernel, by decide +kernel⟩
def B_check_whole_lot (G_lot_divisor : List D → T D) : Ev → T Res := (fIfS (fTb (fBin dNe (fCall 1 G_lot_divisor (fCons (fV 0) fNil)) (fC (.int 1)))) fFail fNx)
theorem B_check_whole_lot_le {G_lot_divisor G'_lot_divisor : List D → T D} (e_lot_divisor : LE G_lot_divisor G'_lot_divisor) : LE (B_check_whole_lot G_lot_divisor) (B_check_whole_lot G'_lot_divisor) := (le_fIfS (le_fTb (le_fBin (le_fCall e_lot_divisor LE.refl) LE.refl)) LE.refl LE.refl)
def F_check_whole_lot : List D → T D := defF 0 (B_check_whole_lot F_lot_divisor)
theorem has_check_whole_lot {P : Program} {w : World} {K : PySem.W.Frag} {mg : Str → Option Value} {base : Heap} {ff : Addr} {gg : FuncData} (F : Fun K "check_whole_lot" "check_whole_lot" s_check_whole_lot ff gg) (hb : L2.Binds K gg ["lot"] []) (hm : mg "check_whole_lot" = some (.ref ff)) (h_lot_divisor : Has P w K mg base 1 "lot_divisor" 1 F_lot_divisor)  : Has P w K mg base 2 "check_whole_lot" 1 F_check_whole_lot :=
  has_of F sc_check_whole_lot hb hm rfl rfl fun cdv AA outer ss HH hr => by
    have nd := sc_check_whole_lot.nd
    have hu1 := hr.u1
    have hu5 := hr.u64
    have hu4 := Nat.lt_of_succ_lt hu5
    exact (c1 (sif (dt_cmp (op_neA hu4) ne_ok (sb (dcall (h_lot_divisor.up (by decide)) hr rfl (ac (dv 0) an))) (sb di) (by first | rfl | exact nomark _)) (c1 sraise) cnil))
abbrev s_greatest_without : Stmt := top 42
theorem sc_greatest_without : FnScope ["lot"] ["lot"] (defScope s_greatest_without) := ⟨rfl, rfl, rfl, by decide +kernel, rfl, by decide +kernel, by decide +kernel⟩
def B_greatest_without (G_least_by_rests : List D → T D) (G_check_whole_lot : List D → T D) : Ev → T Res := (fSeq (fDrop (fCall 1 G_check_whole_lot (fCons (fV 0) fNil))) (fRet (fBin dSub (fFn dMax (fCons (fCall 2 G_least_by_rests (fCons (fV 0) (fCons (fBin dItem (fVb 0) (fC (.int 0))) fNil))) fNil)) (fBin dItem (fVb 0) (fC (.int 0))))))
theorem B_greatest_without_le {G_least_by_rests G'_least_by_rests : List D → T D} {G_check_whole_lot G'_check_whole_lot : List D → T D} (e_least_by_rests : LE G_least_by_rests G'_least_by_rests) (e_check_whole_lot : LE G_check_whole_lot G'_check_whole_lot) : LE (B_greatest_without G_least_by_rests G_check_whole_lot) (B_greatest_without G'_least_by_rests G'_check_whole_lot) := (le_fSeq (le_fDrop (le_fCall e_check_whole_lot LE.refl)) (le_fRet (le_fBin (le_fFn (le_fCons (le_fCall e_least_by_rests LE.refl) LE.refl)) LE.refl)))
def F_greatest_without : List D → T D := defF 0 (B_greatest_without F_least_by_rests F_check_whole_lot)
theorem has_greatest_without {P : Program} {w : World} {K : PySem.W.Frag} {mg : Str → Option Value} {base : Heap} {ff : Addr} {gg : FuncData} (F : Fun K "greatest_without" "greatest_without" s_greatest_without ff gg) (hb : L2.Binds K gg ["lot"] []) (hm : mg "greatest_without" = some (.ref ff)) (h_least_by_rests : Has P w K mg base 2 "least_by_rests" 2 F_least_by_rests) (h_check_whole_lot : Has P w K mg base 2 "check_whole_lot" 1 F_check_whole_lot) (m_max : mg "max" = none) : Has P w K mg base 3 "greatest_without" 1 F_greatest_without :=
  has_of F sc_greatest_without hb hm rfl rfl fun cdv AA outer ss HH hr => by
    have nd := sc_greatest_without.nd
    have hu1 := hr.u1
    have hu5 := hr.u64
    have hu4 := Nat.lt_of_succ_lt hu5
    exact (cc (sexpr (sb (dcall (h_check_whole_lot.up (by decide)) hr rfl (ac (dv 0) an)))) (c1 (sret (sb (d_op op_subD sub_ok (sb (dcb (call_maxA rfl hu1) max_ok rfl m_max bt_max (bc (sb (dcall (h_least_by_rests.up (by decide)) hr rfl (ac (dv 0) (ac (d_ix (ix_any hu1) item_ok (dvb 0) (sb di) (fun _ _ => rfl)) an)))) bn))) (sb (d_ix (ix_any hu1) item_ok (dvb 0) (sb di) (fun _ _ => rfl))))))))
abbrev s_check_apart : Stmt := top 44
theorem sc_check_apart : FnScope ["a", "b"] ["a", "b"] (defScope s_check_apart) := ⟨rfl, rfl, rfl, by decide +kernel, rfl, by decide +kernel, by decide +kernel⟩
def B_check_apart  : Ev → T Res := (fIfS (fTb (fBin dGt (fFn dGcd (fCons (fVb 0) (fCons (fVb 1) fNil))) (fC (.int 1)))) fFail fNx)
def F_check_apart : List D → T D := defF 0 B_check_apart
theorem has_check_apart {P : Program} {w : World} {K : PySem.W.Frag} {mg : Str → Option Value} {base : Heap} {ff : Addr} {gg : FuncData} (F : Fun K "check_apart" "check_apart" s_check_apart ff gg) (hb : L2.Binds K gg ["a", "b"] []) (hm : mg "check_apart" = some (.ref ff))  (m_gcd : mg "gcd" = some (.builtin "math.gcd")) : Has P w K mg base 1 "check_apart" 2 F_check_apart :=
  has_of F sc_check_apart hb hm rfl rfl fun cdv AA outer ss HH hr => by
    have nd := sc_check_apart.nd
    have hu1 := hr.u1
    have hu5 := hr.u64
    have hu4 := Nat.lt_of_succ_lt hu5
    exact (c1 (sif (dt_cmp op_gt gt_ok (sb (dcbG cr_gcd gcd_ok rfl m_gcd (bc (dvb 0) (bc (dvb 1) bn)))) (sb di) (by first | rfl | exact nomark _)) (c1 sraise) cnil))
abbrev s_inverse_rest : Stmt := top 45
theorem sc_inverse_rest : FnScope ["a", "m", "times", "one", "x", "other", "y"] ["a", "m"] (defScope s_inverse_rest) := ⟨rfl, rfl, rfl, by decide +kernel, rfl, by decide +kernel, by decide +kernel⟩
def B_inverse_rest (G_check_apart : List D → T D) : Ev → T Res := (fSeq (fDrop (fCall 2 G_check_apart (fCons (fV 0) (fCons (fV 1) fNil)))) (fSeq (fAsg (fTup (fCons (fTup (fCons (fBin dMod (fVb 0) (fVb 1)) (fCons (fBin dMod (fC (.int 1)) (fVb 1)) fNil))) (fCons (fTup (fCons (fV 1) (fCons (fC (.int 0)) fNil))) fNil))) (.t [(.t [(.v 3), (.v 4)]), (.t [(.v 5), (.v 6)])])) (fSeq (fWhile 100000 (fTb (fBin dGt (fVb 3) (fC (.int 0)))) (fSeq (fSet 2 (fBin dDiv (fVb 5) (fVb 3))) (fAsg (fTup (fCons (fTup (fCons (fV 3) (fCons (fV 4) fNil))) (fCons (fTup (fCons (fBin dSub (fVb 5) (fBin dMul (fVb 2) (fVb 3))) (fCons (fBin dSub (fVb 6) (fBin dMul (fVb 2) (fVb 4))) fNil))) fNil))) (.t [(.t [(.v 5), (.v 6)]), (.t [(.v 3), (.v 4)])])))) (fRet (fBin dMod (fVb 6) (fVb 1))))))
theorem B_inverse_rest_le {G_check_apart G'_check_apart : List D → T D} (e_check_apart : LE G_check_apart G'_check_apart) : LE (B_inverse_rest G_check_apart) (B_inverse_rest G'_check_apart) := (le_fSeq (le_fDrop (le_fCall e_check_apart LE.refl)) LE.refl)
def F_inverse_rest : List D → T D := defF 5 (B_inverse_rest F_check_apart)
theorem has_inverse_rest {P : Program} {w : World} {K : PySem.W.Frag} {mg : Str → Option Value} {base : Heap} {ff : Addr} {gg : FuncData} (F : Fun K "inverse_rest" "inverse_rest" s_inverse_rest ff gg) (hb : L2.Binds K gg ["a", "m"] []) (hm : mg "inverse_rest" = some (.ref ff)) (h_check_apart : Has P w K mg base 1 "check_apart" 2 F_check_apart)  : Has P w K mg base 2 "inverse_rest" 2 F_inverse_rest :=
  has_of F sc_inverse_rest hb hm rfl rfl fun cdv AA outer ss HH hr => by
    have nd := sc_inverse_rest.nd
    have hu1 := hr.u1
    have hu5 := hr.u64
    have hu4 := Nat.lt_of_succ_lt hu5
    exact (cc (sexpr (sb (dcall (h_check_apart.up (by decide)) hr rfl (ac (dv 0) (ac (dv 1) an))))) (cc (sasg (dtup (ac (dtup (ac (d_op op_mod mod_ok (dvb 0) (dvb 1)) (ac (d_op op_mod mod_ok (sb di) (dvb 1)) an))) (ac (dtup (ac (dv 1) (ac di an))) an))) (gt rfl (gc (gt rfl (gc (gv 3 nd) (gc (gv 4 nd) gn))) (gc (gt rfl (gc (gv 5 nd) (gc (gv 6 nd) gn))) gn)))) (cc (swhile 100000 PassesOwn.never (dt_cmp op_gt gt_ok (dvb 3) (sb di) (by first | rfl | exact nomark _)) (cc (sset 2 nd (d_op op_fdivW div_ok (dvb 5) (dvb 3))) (c1 (sasg (dtup (ac (dtup (ac (dv 3) (ac (dv 4) an))) (ac (dtup (ac (d_op op_subD sub_ok (dvb 5) (sb (d_op op_mulD mul_ok (dvb 2) (dvb 3)))) (ac (d_op op_subD sub_ok (dvb 6) (sb (d_op op_mulD mul_ok (dvb 2) (dvb 4)))) an))) an))) (gt rfl (gc (gt rfl (gc (gv 5 nd) (gc (gv 6 nd) gn))) (gc (gt rfl (gc (gv 3 nd) (gc (gv 4 nd) gn))) gn))))))) (c1 (sret (sb (d_op op_mod mod_ok (dvb 6) (dvb 1))))))))
abbrev s_two_places : Stmt := top 46
theorem sc_two_places : FnScope ["a", "b", "n"] ["a", "b", "n"] (defScope s_two_places) := ⟨rfl, rfl, rfl, by decide +kernel, rfl, by decide +kernel, by decide +kernel⟩
def B_two_places (G_inverse_rest : List D → T D) (G_check_apart : List D → T D) : Ev → T Res := (fSeq (fDrop (fCall 2 G_check_apart (fCons (fV 0) (fCons (fV 1) fNil)))) (fRet (fTup (fCons (fBin dMod (fBin dMul (fVb 2) (fCall 2 G_inverse_rest (fCons (fV 0) (fCons (fV 1) fNil)))) (fVb 1)) (fCons (fBin dMod (fBin dMul (fVb 2) (fCall 2 G_inverse_rest (fCons (fV 1) (fCons (fV 0) fNil)))) (fVb 0)) fNil)))))
theorem B_two_places_le {G_inverse_rest G'_inverse_rest : List D → T D} {G_check_apart G'_check_apart : List D → T D} (e_inverse_rest : LE G_inverse_rest G'_inverse_rest) (e_check_apart : LE G_check_apart G'_check_apart) : LE (B_two_places G_inverse_rest G_check_apart) (B_two_places G'_inverse_rest G'_check_apart) := (le_fSeq (le_fDrop (le_fCall e_check_apart LE.refl)) (le_fRet (le_fTup (le_fCons (le_fBin (le_fBin LE.refl (le_fCall e_inverse_rest LE.refl)) LE.refl) (le_fCons (le_fBin (le_fBin LE.refl (le_fCall e_inverse_rest LE.refl)) LE.refl) LE.refl)))))
def F_two_places : List D → T D := defF 0 (B_two_places F_inverse_rest F_check_apart)
theorem has_two_places {P : Program} {w : World} {K : PySem.W.Frag} {mg : Str → Option Value} {base : Heap} {ff : Addr} {gg : FuncData} (F : Fun K "two_places" "two_places" s_two_places ff gg) (hb : L2.Binds K gg ["a", "b", "n"] []) (hm : mg "two_places" = some (.ref ff)) (h_inverse_rest : Has P w K mg base 2 "inverse_rest" 2 F_inverse_rest) (h_check_apart : Has P w K mg base 1 "check_apart" 2 F_check_apart)  : Has P w K mg base 3 "two_places" 3 F_two_places :=
  has_of F sc_two_places hb hm rfl rfl fun cdv AA outer ss HH hr => by
    have nd := sc_two_places.nd
    have hu1 := hr.u1
    have hu5 := hr.u64
    have hu4 := Nat.lt_of_succ_lt hu5
    exact (cc (sexpr (sb (dcall (h_check_apart.up (by decide)) hr rfl (ac (dv 0) (ac (dv 1) an))))) (c1 (sret (sb (dtup (ac (d_op op_mod mod_ok (sb (d_op op_mulD mul_ok (dvb 2) (sb (dcall (h_inverse_rest.up (by decide)) hr rfl (ac (dv 0) (ac (dv 1) an)))))) (dvb 1)) (ac (d_op op_mod mod_ok (sb (d_op op_mulD mul_ok (dvb 2) (sb (dcall (h_inverse_rest.up (by decide)) hr rfl (ac (dv 1) (ac (dv 0) an)))))) (dvb 0)) an)))))))
abbrev s_two_partings : Stmt := top 47
theorem sc_two_partings : FnScope ["a", "b", "n", "x", "y"] ["a", "b", "n"] (defScope s_two_partings) := ⟨rfl, rfl, rfl, by decide +kernel, rfl, by decide +kernel, by decide +kernel⟩
def B_two_partings (G_two_places : List D → T D) : Ev → T Res := (fSeq (fAsg (fCall 3 G_two_places (fCons (fV 0) (fCons (fV 1) (fCons (fV 2) fNil)))) (.t [(.v 3), (.v 4)])) (fRet (fBin dAdd (fBin dDiv (fBin dSub (fBin dSub (fVb 2) (fBin dMul (fVb 0) (fVb 3))) (fBin dMul (fVb 1) (fVb 4))) (fBin dMul (fVb 0) (fVb 1))) (fC (.int 1)))))
theorem B_two_partings_le {G_two_places G'_two_places : List D → T D} (e_two_places : LE G_two_places G'_two_places) : LE (B_two_partings G_two_places) (B_two_partings G'_two_places) := (le_fSeq (le_fAsg (le_fCall e_two_places LE.refl)) LE.refl)
def F_two_partings : List D → T D := defF 2 (B_two_partings F_two_places)
theorem has_two_partings {P : Program} {w : World} {K : PySem.W.Frag} {mg : Str → Option Value} {base : Heap} {ff : Addr} {gg : FuncData} (F : Fun K "two_partings" "two_partings" s_two_partings ff gg) (hb : L2.Binds K gg ["a", "b", "n"] []) (hm : mg "two_partings" = some (.ref ff)) (h_two_places : Has P w K mg base 3 "two_places" 3 F_two_places)  : Has P w K mg base 4 "two_partings" 3 F_two_partings :=
  has_of F sc_two_partings hb hm rfl rfl fun cdv AA outer ss HH hr => by
    have nd := sc_two_partings.nd
    have hu1 := hr.u1
    have hu5 := hr.u64
    have hu4 := Nat.lt_of_succ_lt hu5
    exact (cc (sasg (dcall (h_two_places.up (by decide)) hr rfl (ac (dv 0) (ac (dv 1) (ac (dv 2) an)))) (gt rfl (gc (gv 3 nd) (gc (gv 4 nd) gn)))) (c1 (sret (sb (d_op op_addD add_ok (sb (d_op op_fdivW div_ok (sb (d_op op_subD sub_ok (sb (d_op op_subD sub_ok (dvb 2) (sb (d_op op_mulD mul_ok (dvb 0) (dvb 3))))) (sb (d_op op_mulD mul_ok (dvb 1) (dvb 4))))) (sb (d_op op_mulD mul_ok (dvb 0) (dvb 1))))) (sb di))))))
abbrev s_two_greatest : Stmt := top 48
theorem sc_two_greatest : FnScope ["a", "b"] ["a", "b"] (defScope s_two_greatest) := ⟨rfl, rfl, rfl, by decide +kernel, rfl, by decide +kernel, by decide +kernel⟩
def B_two_greatest (G_check_apart : List D → T D) : Ev → T Res := (fSeq (fDrop (fCall 2 G_check_apart (fCons (fV 0) (fCons (fV 1) fNil)))) (fRet (fBin dSub (fBin dSub (fBin dMul (fVb 0) (fVb 1)) (fVb 0)) (fVb 1))))
theorem B_two_greatest_le {G_check_apart G'_check_apart : List D → T D} (e_check_apart : LE G_check_apart G'_check_apart) : LE (B_two_greatest G_check_apart) (B_two_greatest G'_check_apart) := (le_fSeq (le_fDrop (le_fCall e_check_apart LE.refl)) LE.refl)
def F_two_greatest : List D → T D := defF 0 (B_two_greatest F_check_apart)
theorem has_two_greatest {P : Program} {w : World} {K : PySem.W.Frag} {mg : Str → Option Value} {base : Heap} {ff : Addr} {gg : FuncData} (F : Fun K "two_greatest" "two_greatest" s_two_greatest ff gg) (hb : L2.Binds K gg ["a", "b"] []) (hm : mg "two_greatest" = some (.ref ff)) (h_check_apart : Has P w K mg base 1 "check_apart" 2 F_check_apart)  : Has P w K mg base 2 "two_greatest" 2 F_two_greatest :=
  has_of F sc_two_greatest hb hm rfl rfl fun cdv AA outer ss HH hr => by
    have nd := sc_two_greatest.nd
    have hu1 := hr.u1
    have hu5 := hr.u64
    have hu4 := Nat.lt_of_succ_lt hu5
    exact (cc (sexpr (sb (dcall (h_check_apart.up (by decide)) hr rfl (ac (dv 0) (ac (dv 1) an))))) (c1 (sret (sb (d_op op_subD sub_ok (sb (d_op op_subD sub_ok (sb (d_op op_mulD mul_ok (dvb 0) (dvb 1))) (dvb 0))) (dvb 1))))))
abbrev s_without_others : Stmt := top 16
theorem sc_without_others : FnScope ["numbers", "marks", "x", "found", "most", "y"] ["numbers"] (defScope s_without_others) := ⟨rfl, rfl, rfl, by decide +kernel, rfl, by decide +kernel, by decide +kernel⟩
def B_without_others  : Ev → T Res := (fSeq (fParM [3, 4] (mOw (fLst fNil) (mSh (fFn dMax (fCons (fVb 0) fNil)) mNil))) (fSeq (fSetF 1 (fBin dAddL (fLst (fCons (fC (.bl true)) fNil)) (fBin dMul (fLst (fCons (fC (.bl false)) fNil)) (fVb 4)))) (fSeq (fFor (fParts (fFn (on1 dSortedQ) (fCons (fVb 0) fNil))) (.v 2) (fIfS (fNot (fTru (fBin dItem (fVb 1) (fVb 2)))) (fSeq (fMut 3 mAppend (fV 2)) (fFor (fRng2 (fCons (fVb 2) (fCons (fBin dAdd (fVb 4) (fC (.int 1))) fNil))) (.v 5) (fPut 1 (fV 5) (fOrV (fBin dItem (fVb 1) (fVb 5)) (fBin dItem (fVb 1) (fBin dSub (fVb 5) (fVb 2))))))) fNx)) (fRet (fFn (on1 dTupOf) (fCons (fVb 3) fNil))))))
def F_without_others : List D → T D := defF 5 B_without_others
theorem has_without_others {P : Program} {w : World} {K : PySem.W.Frag} {mg : Str → Option Value} {base : Heap} {ff : Addr} {gg : FuncData} (F : Fun K "without_others" "without_others" s_without_others ff gg) (hb : L2.Binds K gg ["numbers"] []) (hm : mg "without_others" = some (.ref ff))  (m_max : mg "max" = none) (m_range : mg "range" = none) (m_sorted : mg "sorted" = none) (m_tuple : mg "tuple" = none) : Has P w K mg base 1 "without_others" 1 F_without_others :=
  has_of F sc_without_others hb hm rfl rfl fun cdv AA outer ss HH hr => by
    have nd := sc_without_others.nd
    have hu1 := hr.u1
    have hu5 := hr.u64
    have hu4 := Nat.lt_of_succ_lt hu5
    exact (cc (spar2 3 4 rfl nd (mo (dlst an) (ms (dcb (call_maxA rfl hu1) max_ok rfl m_max bt_max (bc (dvb 0) bn)) mn))) (cc (ssetF 1 nd (d_opF op_cat addL_ok (fb (dlst (ac dbl an))) (sb (d_op op_mulD mul_ok (fb (dlst (ac dbl an))) (dvb 4))))) (cc (sfor PassesOwn.never rfl (iseq (fd (dcbF (call_sortedQ hu5 rfl) sortedQ_ok rfl m_sorted bt_sorted (bc (dvb 0) bn)))) (gv 2 nd) (c1 (sif (dn (dt (sb (d_ix (ix_any hu1) item_ok (dvb 1) (dvb 2) (fun _ _ => rfl))))) (cc (sappend 3 (dv 2)) (c1 (sfor PassesOwn.never rfl (irng2 rfl m_range (bc (dvb 2) (bc (sb (d_op op_addD add_ok (dvb 4) (sb di))) bn))) (gv 5 nd) (c1 (sput 1 hu1 (vor (sb (d_ix (ix_any hu1) item_ok (dvb 1) (dvb 5) (fun _ _ => rfl))) (vone (d_ix (ix_any hu1) item_ok (dvb 1) (sb (d_op op_subD sub_ok (dvb 5) (dvb 2))) (fun _ _ => rfl)))) (dv 5)))))) cnil))) (c1 (sret (sb (dct' call_tuple_of tupOf_ok rfl m_tuple bt_tuple (bc (dvb 3) bn))))))))
abbrev s_makers_of : Stmt := top 17
theorem sc_makers_of : FnScope ["lot"] ["lot"] (defScope s_makers_of) := ⟨rfl, rfl, rfl, by decide +kernel, rfl, by decide +kernel, by decide +kernel⟩
def B_makers_of (G_without_others : List D → T D) : Ev → T Res := (fRet (fCall 1 G_without_others (fCons (fV 0) fNil)))
theorem B_makers_of_le {G_without_others G'_without_others : List D → T D} (e_without_others : LE G_without_others G'_without_others) : LE (B_makers_of G_without_others) (B_makers_of G'_without_others) := (le_fRet (le_fCall e_without_others LE.refl))
def F_makers_of : List D → T D := defF 0 (B_makers_of F_without_others)
theorem has_makers_of {P : Program} {w : World} {K : PySem.W.Frag} {mg : Str → Option Value} {base : Heap} {ff : Addr} {gg : FuncData} (F : Fun K "makers_of" "makers_of" s_makers_of ff gg) (hb : L2.Binds K gg ["lot"] []) (hm : mg "makers_of" = some (.ref ff)) (h_without_others : Has P w K mg base 1 "without_others" 1 F_without_others)  : Has P w K mg base 2 "makers_of" 1 F_makers_of :=
  has_of F sc_makers_of hb hm rfl rfl fun cdv AA outer ss HH hr => by
    have nd := sc_makers_of.nd
    have hu1 := hr.u1
    have hu5 := hr.u64
    have hu4 := Nat.lt_of_succ_lt hu5
    exact (c1 (sret (sb (dcall (h_without_others.up (by decide)) hr rfl (ac (dv 0) an)))))
abbrev s_lot_without : Stmt := top 50
theorem sc_lot_without : FnScope ["lot", "x", "most", "marks", "y"] ["lot", "x"] (defScope s_lot_without) := ⟨rfl, rfl, rfl, by decide +kernel, rfl, by decide +kernel, by decide +kernel⟩
def B_lot_without (G_without_others : List D → T D) (G_made_marks : List D → T D) : Ev → T Res := (fSeq (fSet 2 (fBin dAdd (fBin dAdd (fBin dMul (fC (.int 2)) (fVb 1)) (fC (.int 1))) (fBin dItem (fVb 0) (fC (.int 0))))) (fSeq (fSetF 3 (fCallO 2 G_made_marks (fCons (fV 0) (fCons (fV 2) fNil)))) (fSeq (fPut 3 (fV 1) (fC (.bl false))) (fRet (fCall 1 G_without_others (fCons (fLc [4] (fRng2 (fCons (fC (.int 1)) (fCons (fBin dAdd (fVb 2) (fC (.int 1))) fNil))) (.v 4) (fTru (fBin dItem (fVb 3) (fVb 4))) (fV 4)) fNil))))))
theorem B_lot_without_le {G_without_others G'_without_others : List D → T D} {G_made_marks G'_made_marks : List D → T D} (e_without_others : LE G_without_others G'_without_others) (e_made_marks : LE G_made_marks G'_made_marks) : LE (B_lot_without G_without_others G_made_marks) (B_lot_without G'_without_others G'_made_marks) := (le_fSeq LE.refl (le_fSeq (le_fSetF (le_fCallO e_made_marks LE.refl)) (le_fSeq LE.refl (le_fRet (le_fCall e_without_others LE.refl)))))
def F_lot_without : List D → T D := defF 3 (B_lot_without F_without_others F_made_marks)
theorem has_lot_without {P : Program} {w : World} {K : PySem.W.Frag} {mg : Str → Option Value} {base : Heap} {ff : Addr} {gg : FuncData} (F : Fun K "lot_without" "lot_without" s_lot_without ff gg) (hb : L2.Binds K gg ["lot", "x"] []) (hm : mg "lot_without" = some (.ref ff)) (h_without_others : Has P w K mg base 1 "without_others" 1 F_without_others) (h_made_marks : Has P w K mg base 1 "made_marks" 2 F_made_marks) (m_range : mg "range" = none) : Has P w K mg base 2 "lot_without" 2 F_lot_without :=
  has_of F sc_lot_without hb hm rfl rfl fun cdv AA outer ss HH hr => by
    have nd := sc_lot_without.nd
    have hu1 := hr.u1
    have hu5 := hr.u64
    have hu4 := Nat.lt_of_succ_lt hu5
    exact (cc (sset 2 nd (d_op op_addD add_ok (sb (d_op op_addD add_ok (sb (d_op op_mulD mul_ok (sb di) (dvb 1))) (sb di))) (sb (d_ix (ix_any hu1) item_ok (dvb 0) (sb di) (fun _ _ => rfl))))) (cc (ssetF 3 nd (dcallO (h_made_marks.up (by decide)) hr rfl (ac (dv 0) (ac (dv 2) an)))) (cc (sput 3 hu1 dbl (dv 1)) (c1 (sret (sb (dcall (h_without_others.up (by decide)) hr rfl (ac (fd (dlc (own := [("y", 4)]) (p := (.v 4)) rfl nd (tI_of (irng2 rfl m_range (bc (sb di) (bc (sb (d_op op_addD add_ok (dvb 2) (sb di))) bn)))) (by rfl) (by decide +kernel) (fun _ _ _ _ _ => (gv 4 nd)) (fun _ _ _ _ _ => (t1 (dt (sb (d_ix (ix_any hu1) item_ok (dvb 3) (dvb 4) (fun _ _ => rfl)))))) (fun _ _ _ _ _ => (dv 4)))) an))))))))
abbrev s_lots_below : Stmt := top 51
theorem sc_lots_below : FnScope ["lot", "gap", "x"] ["lot"] (defScope s_lots_below) := ⟨rfl, rfl, rfl, by decide +kernel, rfl, by decide +kernel, by decide +kernel⟩
def B_lots_below (G_lot_without : List D → T D) (G_makers_of : List D → T D) (G_greatest_gap : List D → T D) : Ev → T Res := (fSeq (fSet 1 (fCall 1 G_greatest_gap (fCons (fV 0) fNil))) (fRet (fFn (on1 dTupOf) (fCons (fFn (on1 dSortedQ) (fCons (fLc [2] (fParts (fCall 1 G_makers_of (fCons (fV 0) fNil))) (.v 2) (fTb (fBin dGt (fVb 2) (fVb 1))) (fCall 2 G_lot_without (fCons (fV 0) (fCons (fV 2) fNil)))) fNil)) fNil))))
theorem B_lots_below_le {G_lot_without G'_lot_without : List D → T D} {G_makers_of G'_makers_of : List D → T D} {G_greatest_gap G'_greatest_gap : List D → T D} (e_lot_without : LE G_lot_without G'_lot_without) (e_makers_of : LE G_makers_of G'_makers_of) (e_greatest_gap : LE G_greatest_gap G'_greatest_gap) : LE (B_lots_below G_lot_without G_makers_of G_greatest_gap) (B_lots_below G'_lot_without G'_makers_of G'_greatest_gap) := (le_fSeq (le_fSet (le_fCall e_greatest_gap LE.refl)) (le_fRet (le_fFn (le_fCons (le_fFn (le_fCons (le_fLc (le_fParts (le_fCall e_makers_of LE.refl)) LE.refl (le_fCall e_lot_without LE.refl)) LE.refl)) LE.refl))))
def F_lots_below : List D → T D := defF 2 (B_lots_below F_lot_without F_makers_of F_greatest_gap)
theorem has_lots_below {P : Program} {w : World} {K : PySem.W.Frag} {mg : Str → Option Value} {base : Heap} {ff : Addr} {gg : FuncData} (F : Fun K "lots_below" "lots_below" s_lots_below ff gg) (hb : L2.Binds K gg ["lot"] []) (hm : mg "lots_below" = some (.ref ff)) (h_lot_without : Has P w K mg base 2 "lot_without" 2 F_lot_without) (h_makers_of : Has P w K mg base 2 "makers_of" 1 F_makers_of) (h_greatest_gap : Has P w K mg base 3 "greatest_gap" 1 F_greatest_gap) (m_sorted : mg "sorted" = none) (m_tuple : mg "tuple" = none) : Has P w K mg base 4 "lots_below" 1 F_lots_below :=
  has_of F sc_lots_below hb hm rfl rfl fun cdv AA outer ss HH hr => by
    have nd := sc_lots_below.nd
    have hu1 := hr.u1
    have hu5 := hr.u64
    have hu4 := Nat.lt_of_succ_lt hu5
    exact (cc (sset 1 nd (dcall (h_greatest_gap.up (by decide)) hr rfl (ac (dv 0) an))) (c1 (sret (sb (dct' call_tuple_of tupOf_ok rfl m_tuple bt_tuple (bc (fb (dcbF (call_sortedQ hu5 rfl) sortedQ_ok rfl m_sorted bt_sorted (bc (fb (dlc (own := [("x", 2)]) (p := (.v 2)) rfl nd (bseq (sb (dcall (h_makers_of.up (by decide)) hr rfl (ac (dv 0) an)))) (by rfl) (by decide +kernel) (fun _ _ _ _ _ => (gv 2 nd)) (fun _ _ _ _ _ => (t1 (dt_cmp op_gt gt_ok (dvb 2) (dvb 1) (by first | rfl | exact nomark _)))) (fun _ _ _ _ _ => (dcall (h_lot_without.up (by decide)) hr rfl (ac (dv 0) (ac (dv 2) an)))))) bn))) bn))))))
abbrev s_lots_with_gaps : Stmt := top 52
theorem sc_lots_with_gaps : FnScope ["g", "lots", "lap", "late", "lot"] ["g"] (defScope s_lots_with_gaps) := ⟨rfl, rfl, rfl, by decide +kernel, rfl, by decide +kernel, by decide +kernel⟩
def B_lots_with_gaps (G_lots_below : List D → T D) : Ev → T Res := (fSeq (fSet 1 (fLst (fCons (fTup (fCons (fC (.int 1)) fNil)) fNil))) (fSeq (fFor (fRng1 (fCons (fVb 0) fNil)) (.v 2) (fSeq (fSetF 3 (fLst fNil)) (fSeq (fFor (fParts (fV 1)) (.v 4) (fMut 3 mExtT (fCall 1 G_lots_below (fCons (fV 4) fNil)))) (fSet 1 (fFn (on1 dLstQ) (fCons (fVb 3) fNil)))))) (fRet (fFn (on1 dTupOf) (fCons (fFn (on1 dSortedQ) (fCons (fVb 1) fNil)) fNil)))))
theorem B_lots_with_gaps_le {G_lots_below G'_lots_below : List D → T D} (e_lots_below : LE G_lots_below G'_lots_below) : LE (B_lots_with_gaps G_lots_below) (B_lots_with_gaps G'_lots_below) := (le_fSeq LE.refl (le_fSeq (le_fFor LE.refl (le_fSeq LE.refl (le_fSeq (le_fFor LE.refl (le_fMut (le_fCall e_lots_below LE.refl))) LE.refl))) LE.refl))
def F_lots_with_gaps : List D → T D := defF 4 (B_lots_with_gaps F_lots_below)
theorem has_lots_with_gaps {P : Program} {w : World} {K : PySem.W.Frag} {mg : Str → Option Value} {base : Heap} {ff : Addr} {gg : FuncData} (F : Fun K "lots_with_gaps" "lots_with_gaps" s_lots_with_gaps ff gg) (hb : L2.Binds K gg ["g"] []) (hm : mg "lots_with_gaps" = some (.ref ff)) (h_lots_below : Has P w K mg base 4 "lots_below" 1 F_lots_below) (m_list : mg "list" = none) (m_range : mg "range" = none) (m_sorted : mg "sorted" = none) (m_tuple : mg "tuple" = none) : Has P w K mg base 5 "lots_with_gaps" 1 F_lots_with_gaps :=
  has_of F sc_lots_with_gaps hb hm rfl rfl fun cdv AA outer ss HH hr => by
    have nd := sc_lots_with_gaps.nd
    have hu1 := hr.u1
    have hu5 := hr.u64
    have hu4 := Nat.lt_of_succ_lt hu5
    exact (cc (sset 1 nd (fd (dlst (ac (dtup (ac di an)) an)))) (cc (sfor PassesOwn.never rfl (irng1 rfl m_range (bc (dvb 0) bn)) (gv 2 nd) (cc (ssetF 3 nd (dlst an)) (cc (sfor PassesOwn.never rfl (iseq (dv 1)) (gv 4 nd) (c1 (sextT 3 (sb (dcall (h_lots_below.up (by decide)) hr rfl (ac (dv 4) an)))))) (c1 (sset 1 nd (fd (dctF (call_lstQ rfl) lstQ_ok rfl m_list bt_list (bc (dvb 3) bn)))))))) (c1 (sret (sb (dct' call_tuple_of tupOf_ok rfl m_tuple bt_tuple (bc (fb (dcbF (call_sortedQ hu5 rfl) sortedQ_ok rfl m_sorted bt_sorted (bc (dvb 1) bn))) bn)))))))
abbrev s__law_open_cells : Stmt := top 54
theorem sc__law_open_cells : FnScope ["script", "stirred", "cell", "cells"] ["script"] (defScope s__law_open_cells) := ⟨rfl, rfl, rfl, by decide +kernel, rfl, by decide +kernel, by decide +kernel⟩
theorem has__law_open_cells {P : Program} {w : World} {K : PySem.W.Frag} {mg : Str → Option Value} {base : Heap} {ff : Addr} {gg : FuncData} (F : Fun K "_law_open_cells" "_law_open_cells" s__law_open_cells ff gg) (hb : L2.Binds K gg ["script"] []) (hm : mg "_law_open_cells" = some (.ref ff)) (m_int : mg "int" = none) (m_abs : mg "abs" = none) : Opens P w K mg base 1 "_law_open_cells" :=
  open_of (k := 0) (t := tO1 K) F sc__law_open_cells hb hm rfl (fun cdv AA outer ss HH hr => by
    have nd := sc__law_open_cells.nd
    exact (pss_cons (ps_set (i := 1) nd rfl (by first | exact Or.inl rfl | exact Or.inr (Or.inl rfl) | exact Or.inr rfl) pe_int) (pss_cons (ps_for PassesOwn.never rfl (pi_list (pe_var (i := 0) rfl (by first | exact Or.inl rfl | exact Or.inr (Or.inl rfl) | exact Or.inr rfl))) (pg_name (i := 2) nd rfl (by first | exact Or.inl rfl | exact Or.inr (Or.inl rfl) | exact Or.inr rfl)) (pss_one (ps_set (i := 1) nd rfl (by first | exact Or.inl rfl | exact Or.inr (Or.inl rfl) | exact Or.inr rfl) (pe_op op_mod (pe_callTy call_int1 rfl m_int bt_int (pa_cons (pe_op op_add (pe_op op_add (pe_op op_mul (pe_var (i := 1) rfl (by first | exact Or.inl rfl | exact Or.inr (Or.inl rfl) | exact Or.inr rfl)) pe_int) (pe_op op_mul (pe_var (i := 2) rfl (by first | exact Or.inl rfl | exact Or.inr (Or.inl rfl) | exact Or.inr rfl)) pe_int)) pe_int) pa_nil)) pe_int)))) (pss_cons (ps_setLc (i := 3) rfl nd rfl rfl (sw_true rfl rfl rfl (by decide +kernel)) (pi_list (pe_var (i := 0) rfl (by first | exact Or.inl rfl | exact Or.inr (Or.inl rfl) | exact Or.inr rfl))) (blkOk_by (own := [("cell", 2)]) (by rfl)) (fun _ _ _ _ _ => pg_name (i := 2) nd rfl (by first | exact Or.inl rfl | exact Or.inr (Or.inl rfl) | exact Or.inr rfl) (hf := by first | exact .inl rfl | exact .inr rfl)) (fun _ _ _ _ _ => pts_nil) (fun _ _ _ _ _ => pe_callB call_abs rfl m_abs bt_abs (pa_cons (pe_var (i := 2) rfl (by first | exact Or.inl rfl | exact Or.inr (Or.inl rfl) | exact Or.inr rfl)) pa_nil))) (pss_one (ps_ret (pe_disp (pps_cons pe_str (pe_revL (pe_var (i := 3) rfl (by first | exact Or.inl rfl | exact Or.inr (Or.inl rfl) | exact Or.inr rfl))) (pps_cons pe_str pe_int (pps_cons pe_str (pe_var (i := 1) rfl (by first | exact Or.inl rfl | exact Or.inr (Or.inl rfl) | exact Or.inr rfl)) (pps_cons pe_str pe_int pps_nil)))) rfl rfl (fun q => nomatch q) (by decide)))))))) fun vs H Q h => open1_run h
abbrev s__law_pick : Stmt := top 55
theorem sc__law_pick : FnScope ["source", "most", "cells", "others", "lap", "stirred"] ["source", "most"] (defScope s__law_pick) := ⟨rfl, rfl, rfl, by decide +kernel, rfl, by decide +kernel, by decide +kernel⟩
abbrev F__law_pick : List D → T D := pickF
theorem has__law_pick {P : Program} {w : World} {K : PySem.W.Frag} {mg : Str → Option Value} {base : Heap} {ff : Addr} {gg : FuncData} (F : Fun K "_law_pick" "_law_pick" s__law_pick ff gg) (hb : L2.Binds K gg ["source", "most"] []) (hm : mg "_law_pick" = some (.ref ff)) (m_len : mg "len" = none) (m_int : mg "int" = none) : Has P w K mg base 1 "_law_pick" 2 pickF :=
  pick_of (k := 0) (t := tP1 K) F sc__law_pick hb hm rfl (fun cdv AA outer ss HH hr => by
    have nd := sc__law_pick.nd
    have hu1 := hr.u1
    exact (pss_cons (ps_if (pt_cmp (pc_lt (pe_var (i := 1) rfl (Or.inl rfl)) pe_int)) (pss_one (ps_ret pe_int)) pss_nil) (pss_cons (ps_set (i := 2) nd rfl (Or.inl rfl) (pe_dget hu1 (pe_var (i := 0) rfl (Or.inl rfl)) pe_str (fun _ _ => rfl)))
    (pss_cons (ps_while PassesOwn.never (L2.PW.pt (pw_and (pt_cmp (pc_lt (pe_dget hu1 (pe_var (i := 0) rfl (Or.inl rfl)) pe_str (fun _ _ => rfl)) pe_int)) (pw_and1 (pt_cmp (pc_gt (pe_callB call_len_seq rfl m_len bt_len (pa_cons (pe_var (i := 2) rfl (Or.inl rfl)) pa_nil)) pe_int))))) (pss_one (ps_asg (pe_bm0 PySem.F.plainAttrs_list PySem.F.slot_list_pop PySem.F.type_list_pop mt_pop (pe_var (i := 2) rfl (Or.inl rfl))) (pg_sub (pe_var (i := 0) rfl (Or.inl rfl)) pe_str (set_dict hu1)))))
    (pss_cons (ps_set (i := 3) nd rfl (Or.inl rfl) (pe_dget hu1 (pe_var (i := 0) rfl (Or.inl rfl)) pe_str (fun _ _ => rfl)))
    (pss_cons (ps_if (pt_cmp (pc_gt (pe_var (i := 3) rfl (Or.inl rfl)) pe_int)) (pss_cons (ps_asg (pe_op op_fdivW (pe_var (i := 3) rfl (Or.inl rfl)) (pe_var (i := 1) rfl (Or.inl rfl))) (pg_sub (pe_var (i := 0) rfl (Or.inl rfl)) pe_str (set_dict hu1))) (pss_one (ps_ret (pe_op op_mod (pe_callTy call_int1 rfl m_int bt_int (pa_cons (pe_var (i := 3) rfl (Or.inl rfl)) pa_nil)) (pe_var (i := 1) rfl (Or.inl rfl)))))) pss_nil)
    (pss_cons (ps_asg (pe_op op_add (pe_dget hu1 (pe_var (i := 0) rfl (Or.inl rfl)) pe_str (fun _ _ => rfl)) pe_int) (pg_sub (pe_var (i := 0) rfl (Or.inl rfl)) pe_str (set_dict hu1)))
    (pss_cons (ps_set (i := 4) nd rfl (Or.inl rfl) (pe_dget hu1 (pe_var (i := 0) rfl (Or.inl rfl)) pe_str (fun _ _ => rfl)))
    (pss_cons (ps_set (i := 5) nd rfl (Or.inl rfl) (pe_op op_mod (pe_callTy call_int1 rfl m_int bt_int (pa_cons (pe_op op_add (pe_dget hu1 (pe_var (i := 0) rfl (Or.inl rfl)) pe_str (fun _ _ => rfl)) (pe_op op_mul (pe_var (i := 4) rfl (Or.inl rfl)) pe_int)) pa_nil)) pe_int))
    (pss_cons (ps_set (i := 5) nd rfl (Or.inl rfl) (pe_op op_mod (pe_callTy call_int1 rfl m_int bt_int (pa_cons (pe_op op_add (pe_op op_mul (pe_var (i := 5) rfl (Or.inl rfl)) (pe_var (i := 5) rfl (Or.inl rfl))) (pe_op op_mul (pe_var (i := 4) rfl (Or.inl rfl)) pe_int)) pa_nil)) pe_int))
    (pss_one (ps_ret (pe_op op_mod (pe_callTy call_int1 rfl m_int bt_int (pa_cons (pe_op op_fdivW (pe_var (i := 5) rfl (Or.inl rfl)) pe_int) pa_nil)) (pe_var (i := 1) rfl (Or.inl rfl))))))))))))))) fun vs H Q h => pick1_run h
abbrev s__law_divisor : Stmt := top 56
theorem sc__law_divisor : FnScope ["a", "b"] ["a", "b"] (defScope s__law_divisor) := ⟨rfl, rfl, rfl, by decide +kernel, rfl, by decide +kernel, by decide +kernel⟩
def B__law_divisor  : Ev → T Res := (fSeq (fWhile 100000 (fTb (fBin dNe (fVb 1) (fC (.int 0)))) (fParM [0, 1] (mSh (fV 1) (mSh (fBin dMod (fVb 0) (fVb 1)) mNil)))) (fRet (fVb 0)))
def F__law_divisor : List D → T D := defF 0 B__law_divisor
theorem has__law_divisor {P : Program} {w : World} {K : PySem.W.Frag} {mg : Str → Option Value} {base : Heap} {ff : Addr} {gg : FuncData} (F : Fun K "_law_divisor" "_law_divisor" s__law_divisor ff gg) (hb : L2.Binds K gg ["a", "b"] []) (hm : mg "_law_divisor" = some (.ref ff))   : Has P w K mg base 1 "_law_divisor" 2 F__law_divisor :=
  has_of F sc__law_divisor hb hm rfl rfl fun cdv AA outer ss HH hr => by
    have nd := sc__law_divisor.nd
    have hu1 := hr.u1
    have hu5 := hr.u64
    have hu4 := Nat.lt_of_succ_lt hu5
    exact (cc (swhile 100000 PassesOwn.never (dt_cmp (op_neA hu4) ne_ok (dvb 1) (sb di) (by first | rfl | exact nomark _)) (c1 (spar2 0 1 rfl nd (ms (dv 1) (ms (d_op op_mod mod_ok (dvb 0) (dvb 1)) mn))))) (c1 (sret (dvb 0))))
abbrev s__law_made : Stmt := top 57
theorem sc__law_made : FnScope ["lot", "most", "made", "x", "a"] ["lot", "most"] (defScope s__law_made) := ⟨rfl, rfl, rfl, by decide +kernel, rfl, by decide +kernel, by decide +kernel⟩
def B__law_made  : Ev → T Res := (fSeq (fSetF 2 (fLc [3] (fRng1 (fCons (fBin dAdd (fVb 1) (fC (.int 1))) fNil)) (.v 3) fYes (fBin dEq (fVb 3) (fC (.int 0))))) (fSeq (fFor (fRng1 (fCons (fBin dAdd (fVb 1) (fC (.int 1))) fNil)) (.v 3) (fPut 2 (fV 3) (fOrV (fBin dItem (fVb 2) (fVb 3)) (fFn (on1 dAny) (fCons (fLc [4] (fParts (fVb 0)) (.v 4) fYes (fAndV (fBin dGe (fVb 3) (fVb 4)) (fBin dItem (fVb 2) (fBin dSub (fVb 3) (fVb 4))))) fNil))))) (fRet (fVb 2))))
def F__law_made : List D → T D := defF 3 B__law_made
theorem has__law_made {P : Program} {w : World} {K : PySem.W.Frag} {mg : Str → Option Value} {base : Heap} {ff : Addr} {gg : FuncData} (F : Fun K "_law_made" "_law_made" s__law_made ff gg) (hb : L2.Binds K gg ["lot", "most"] []) (hm : mg "_law_made" = some (.ref ff))  (m_any : mg "any" = none) (m_range : mg "range" = none) : Has P w K mg base 1 "_law_made" 2 F__law_made :=
  has_of F sc__law_made hb hm rfl rfl fun cdv AA outer ss HH hr => by
    have nd := sc__law_made.nd
    have hu1 := hr.u1
    have hu5 := hr.u64
    have hu4 := Nat.lt_of_succ_lt hu5
    exact (cc (ssetF 2 nd (dlc (own := [("x", 3)]) (p := (.v 3)) rfl nd (tI_of (irng1 rfl m_range (bc (sb (d_op op_addD add_ok (dvb 1) (sb di))) bn))) (by rfl) (by decide +kernel) (fun _ _ _ _ _ => (gv 3 nd)) (fun _ _ _ _ _ => ty) (fun _ _ _ _ _ => (d_cmp (op_eqA hu4) eq_ok (dvb 3) (sb di) (by first | rfl | exact nomark _))))) (cc (sfor PassesOwn.never rfl (irng1 rfl m_range (bc (sb (d_op op_addD add_ok (dvb 1) (sb di))) bn)) (gv 3 nd) (c1 (sput 2 hu1 (vor (sb (d_ix (ix_any hu1) item_ok (dvb 2) (dvb 3) (fun _ _ => rfl))) (vone (dcb (cr_any rfl) any_ok rfl m_any bt_any (bc (fb (dlc (own := [("a", 4)]) (p := (.v 4)) rfl nd (bseq (dvb 0)) (by rfl) (by decide +kernel) (fun _ _ _ _ _ => (gv 4 nd)) (fun _ _ _ _ _ => ty) (fun _ _ _ _ _ => (vand (sb (d_cmp op_ge ge_ok (dvb 3) (dvb 4) (by first | rfl | exact nomark _))) (vone (d_ix (ix_any hu1) item_ok (dvb 2) (sb (d_op op_subD sub_ok (dvb 3) (dvb 4))) (fun _ _ => rfl))))))) bn)))) (dv 3)))) (c1 (sret (dvb 2)))))
abbrev s_law : Stmt := top 58
theorem sc_law : FnScope ["script", "source", "most", "made", "gaps", "told", "row", "core", "ways", "k", "hooks", "line", "lots", "lot", "holes", "late", "x", "a", "b", "h"] ["script"] (defScope s_law) := ⟨rfl, rfl, rfl, by decide +kernel, rfl, by decide +kernel, by decide +kernel⟩
def B_law (G_is_core_for : List D → T D) (G_is_made : List D → T D) (G__law_pick : List D → T D) (G_parting_of_column : List D → T D) (G_gaps_of : List D → T D) (G_lots_with_gaps : List D → T D) (G_hook_rows : List D → T D) (G_core_count : List D → T D) (G_column_lot : List D → T D) (G_greatest_core : List D → T D) (G_least_made : List D → T D) (G_least_by_rests : List D → T D) (G_two_partings : List D → T D) (G_many_partings : List D → T D) (G_partings_row : List D → T D) (G_two_told : List D → T D) (G_greatest_gap : List D → T D) (G_two_greatest : List D → T D) (G_greatest_without : List D → T D) (G_is_alike : List D → T D) (G_two_gaps : List D → T D) (G__law_made : List D → T D) (G__law_divisor : List D → T D) : Ev → T Res := (fSeq (fParM [17, 18] (mSh (fBin dAdd (fC (.int 2)) (fCall 2 G__law_pick (fCons (fV 1) (fCons (fC (.int 7)) fNil)))) (mSh (fBin dAdd (fC (.int 3)) (fCall 2 G__law_pick (fCons (fV 1) (fCons (fC (.int 7)) fNil)))) mNil))) (fSeq (fParM [17, 18] (mSh (fFn dMin (fCons (fVb 17) (fCons (fVb 18) fNil))) (mSh (fFn dMax (fCons (fVb 17) (fCons (fVb 18) fNil))) mNil))) (fSeq (fIfS (fTb (fBin dGt (fCall 2 G__law_divisor (fCons (fV 17) (fCons (fV 18) fNil))) (fC (.int 1)))) (fParM [17, 18] (mSh (fBin dSub (fVb 18) (fC (.int 1))) (mSh (fV 18) mNil))) fNx) (fSeq (fSet 2 (fBin dMul (fVb 17) (fVb 18))) (fSeq (fSet 3 (fCall 2 G__law_made (fCons (fTup (fCons (fV 17) (fCons (fV 18) fNil))) (fCons (fV 2) fNil)))) (fSeq (fSet 4 (fFn (on1 dTupOf) (fCons (fLc [16] (fRng2 (fCons (fC (.int 1)) (fCons (fBin dAdd (fVb 2) (fC (.int 1))) fNil))) (.v 16) (fNot (fTru (fBin dItem (fVb 3) (fVb 16)))) (fV 16)) fNil))) (fSeq (fIfS (fOr (fTb (fBin dNe (fFn (on1 dRepr) (fCons (fCall 1 G_gaps_of (fCons (fTup (fCons (fV 17) (fCons (fV 18) fNil))) fNil)) fNil)) (fFn (on1 dRepr) (fCons (fVb 4) fNil)))) (fOr (fTb (fBin dNe (fFn (on1 dRepr) (fCons (fCall 2 G_two_gaps (fCons (fV 17) (fCons (fV 18) fNil))) fNil)) (fFn (on1 dRepr) (fCons (fVb 4) fNil)))) (fTb (fBin (dIs true) (fCall 1 G_is_alike (fCons (fTup (fCons (fV 17) (fCons (fV 18) fNil))) fNil)) (fC (.bl true)))))) (fRet (fC (.bl false))) fNx) (fSeq (fSet 5 (fLst (fCons (fCall 1 G_greatest_gap (fCons (fTup (fCons (fV 17) (fCons (fV 18) fNil))) fNil)) (fCons (fCall 2 G_two_greatest (fCons (fV 17) (fCons (fV 18) fNil))) (fCons (fCall 1 G_greatest_without (fCons (fTup (fCons (fV 17) (fCons (fV 18) fNil))) fNil)) (fCons (fBin dItem (fCall 2 G_two_told (fCons (fV 17) (fCons (fV 18) fNil))) (fC (.int 0))) fNil)))))) (fSeq (fIfS (fOr (fTb (fBin dNe (fVb 5) (fBin dMul (fLst (fCons (fBin dSub (fBin dSub (fBin dMul (fVb 17) (fVb 18)) (fVb 17)) (fVb 18)) fNil)) (fC (.int 4))))) (fTb (fBin dNe (fBin dItem (fCall 2 G_two_told (fCons (fV 17) (fCons (fV 18) fNil))) (fC (.int 1))) (fFn (on1 dLenQ) (fCons (fVb 4) fNil))))) (fRet (fC (.bl false))) fNx) (fSeq (fSet 6 (fCall 2 G_partings_row (fCons (fTup (fCons (fV 17) (fCons (fV 18) fNil))) (fCons (fV 2) fNil)))) (fSeq (fIfS (fOr (fTb (fBin dNe (fFn (on1 dTupOf) (fCons (fLc [16] (fRng2 (fCons (fC (.int 1)) (fCons (fBin dAdd (fVb 2) (fC (.int 1))) fNil))) (.v 16) (fTb (fBin dEq (fBin dItem (fVb 6) (fVb 16)) (fC (.int 0)))) (fV 16)) fNil)) (fVb 4))) (fTb (fBin dNe (fCall 2 G_many_partings (fCons (fTup (fCons (fV 17) (fCons (fV 18) fNil))) (fCons (fV 2) fNil))) (fC (.int 2))))) (fRet (fC (.bl false))) fNx) (fSeq (fIfS (fTru (fFn (on1 dAny) (fCons (fLc [16] (fRng1 (fCons (fBin dAdd (fVb 2) (fC (.int 1))) fNil)) (.v 16) fYes (fBin dNe (fCall 3 G_two_partings (fCons (fV 17) (fCons (fV 18) (fCons (fV 16) fNil)))) (fBin dItem (fVb 6) (fVb 16)))) fNil))) (fRet (fC (.bl false))) fNx) (fSeq (fIfS (fTb (fBin dNe (fFn (on1 dRepr) (fCons (fCall 2 G_least_made (fCons (fTup (fCons (fV 17) (fCons (fV 18) fNil))) (fCons (fV 17) fNil))) fNil)) (fFn (on1 dRepr) (fCons (fCall 2 G_least_by_rests (fCons (fTup (fCons (fV 17) (fCons (fV 18) fNil))) (fCons (fV 17) fNil))) fNil)))) (fRet (fC (.bl false))) fNx) (fSeq (fSet 7 (fCall 1 G_parting_of_column (fCons (fV 4) fNil))) (fSeq (fIfS (fAnd (fTb (fBin dLt (fVb 18) (fC (.int 10)))) (fOr (fTb (fBin dNe (fFn (on1 dRepr) (fCons (fCall 2 G_greatest_core (fCons (fV 17) (fCons (fV 18) fNil))) fNil)) (fFn (on1 dRepr) (fCons (fVb 7) fNil)))) (fTb (fBin dNe (fFn (on1 dRepr) (fCons (fCall 1 G_column_lot (fCons (fV 7) fNil)) fNil)) (fFn (on1 dRepr) (fCons (fVb 4) fNil)))))) (fRet (fC (.bl false))) fNx) (fSeq (fSet 8 (fC (.int 1))) (fSeq (fFor (fRng2 (fCons (fC (.int 1)) (fCons (fVb 17) fNil))) (.v 9) (fSet 8 (fBin dDiv (fBin dMul (fVb 8) (fBin dAdd (fVb 18) (fVb 9))) (fVb 9)))) (fSeq (fIfS (fTb (fBin dNe (fBin dMul (fCall 2 G_core_count (fCons (fV 17) (fCons (fV 18) fNil))) (fVb 17)) (fVb 8))) (fRet (fC (.bl false))) fNx) (fSeq (fSet 10 (fLst fNil)) (fSeq (fFor (fParts (fCall 1 G_hook_rows (fCons (fV 7) fNil))) (.v 11) (fSet 10 (fBin dAdd (fVb 10) (fFn (on1 dLstQ) (fCons (fVb 11) fNil))))) (fSeq (fIfS (fOr (fTru (fFn (on1 dAny) (fCons (fLc [19] (fParts (fVb 10)) (.v 19) (fTb (fBin dLe (fVb 19) (fVb 2))) (fBin dItem (fVb 3) (fVb 19))) fNil))) (fOr (fNot (fTru (fCall 2 G_is_core_for (fCons (fV 7) (fCons (fV 17) fNil))))) (fNot (fTru (fCall 2 G_is_core_for (fCons (fV 7) (fCons (fV 18) fNil))))))) (fRet (fC (.bl false))) fNx) (fSeq (fSet 12 (fCall 1 G_lots_with_gaps (fCons (fBin dAdd (fC (.int 1)) (fCall 2 G__law_pick (fCons (fV 1) (fCons (fC (.int 4)) fNil)))) fNil))) (fSeq (fSet 13 (fBin dItem (fVb 12) (fCall 2 G__law_pick (fCons (fV 1) (fCons (fFn (on1 dLenQ) (fCons (fVb 12) fNil)) fNil))))) (fSeq (fSet 14 (fCall 1 G_gaps_of (fCons (fV 13) fNil))) (fSeq (fSet 15 (fCall 1 G_parting_of_column (fCons (fV 14) fNil))) (fSeq (fSet 16 (fBin dAdd (fC (.int 1)) (fCall 2 G__law_pick (fCons (fV 1) (fCons (fC (.int 12)) fNil))))) (fRet (fOrV (fNotV (fCall 2 G_is_made (fCons (fV 13) (fCons (fV 16) fNil)))) (fCall 2 G_is_core_for (fCons (fV 15) (fCons (fV 16) fNil)))))))))))))))))))))))))))))))
theorem B_law_le {G_is_core_for G'_is_core_for : List D → T D} {G_is_made G'_is_made : List D → T D} {G__law_pick G'__law_pick : List D → T D} {G_parting_of_column G'_parting_of_column : List D → T D} {G_gaps_of G'_gaps_of : List D → T D} {G_lots_with_gaps G'_lots_with_gaps : List D → T D} {G_hook_rows G'_hook_rows : List D → T D} {G_core_count G'_core_count : List D → T D} {G_column_lot G'_column_lot : List D → T D} {G_greatest_core G'_greatest_core : List D → T D} {G_least_made G'_least_made : List D → T D} {G_least_by_rests G'_least_by_rests : List D → T D} {G_two_partings G'_two_partings : List D → T D} {G_many_partings G'_many_partings : List D → T D} {G_partings_row G'_partings_row : List D → T D} {G_two_told G'_two_told : List D → T D} {G_greatest_gap G'_greatest_gap : List D → T D} {G_two_greatest G'_two_greatest : List D → T D} {G_greatest_without G'_greatest_without : List D → T D} {G_is_alike G'_is_alike : List D → T D} {G_two_gaps G'_two_gaps : List D → T D} {G__law_made G'__law_made : List D → T D} {G__law_divisor G'__law_divisor : List D → T D} (e_is_core_for : LE G_is_core_for G'_is_core_for) (e_is_made : LE G_is_made G'_is_made) (e__law_pick : LE G__law_pick G'__law_pick) (e_parting_of_column : LE G_parting_of_column G'_parting_of_column) (e_gaps_of : LE G_gaps_of G'_gaps_of) (e_lots_with_gaps : LE G_lots_with_gaps G'_lots_with_gaps) (e_hook_rows : LE G_hook_rows G'_hook_rows) (e_core_count : LE G_core_count G'_core_count) (e_column_lot : LE G_column_lot G'_column_lot) (e_greatest_core : LE G_greatest_core G'_greatest_core) (e_least_made : LE G_least_made G'_least_made) (e_least_by_rests : LE G_least_by_rests G'_least_by_rests) (e_two_partings : LE G_two_partings G'_two_partings) (e_many_partings : LE G_many_partings G'_many_partings) (e_partings_row : LE G_partings_row G'_partings_row) (e_two_told : LE G_two_told G'_two_told) (e_greatest_gap : LE G_greatest_gap G'_greatest_gap) (e_two_greatest : LE G_two_greatest G'_two_greatest) (e_greatest_without : LE G_greatest_without G'_greatest_without) (e_is_alike : LE G_is_alike G'_is_alike) (e_two_gaps : LE G_two_gaps G'_two_gaps) (e__law_made : LE G__law_made G'__law_made) (e__law_divisor : LE G__law_divisor G'__law_divisor) : LE (B_law G_is_core_for G_is_made G__law_pick G_parting_of_column G_gaps_of G_lots_with_gaps G_hook_rows G_core_count G_column_lot G_greatest_core G_least_made G_least_by_rests G_two_partings G_many_partings G_partings_row G_two_told G_greatest_gap G_two_greatest G_greatest_without G_is_alike G_two_gaps G__law_made G__law_divisor) (B_law G'_is_core_for G'_is_made G'__law_pick G'_parting_of_column G'_gaps_of G'_lots_with_gaps G'_hook_rows G'_core_count G'_column_lot G'_greatest_core G'_least_made G'_least_by_rests G'_two_partings G'_many_partings G'_partings_row G'_two_told G'_greatest_gap G'_two_greatest G'_greatest_without G'_is_alike G'_two_gaps G'__law_made G'__law_divisor) := (le_fSeq (le_fParM (le_mSh (le_fBin LE.refl (le_fCall e__law_pick LE.refl)) (le_mSh (le_fBin LE.refl (le_fCall e__law_pick LE.refl)) LE.refl))) (le_fSeq LE.refl (le_fSeq (le_fIfS (le_fTb (le_fBin (le_fCall e__law_divisor LE.refl) LE.refl)) LE.refl LE.refl) (le_fSeq LE.refl (le_fSeq (le_fSet (le_fCall e__law_made LE.refl)) (le_fSeq LE.refl (le_fSeq (le_fIfS (le_fOr (le_fTb (le_fBin (le_fFn (le_fCons (le_fCall e_gaps_of LE.refl) LE.refl)) LE.refl)) (le_fOr (le_fTb (le_fBin (le_fFn (le_fCons (le_fCall e_two_gaps LE.refl) LE.refl)) LE.refl)) (le_fTb (le_fBin (le_fCall e_is_alike LE.refl) LE.refl)))) LE.refl LE.refl) (le_fSeq (le_fSet (le_fLst (le_fCons (le_fCall e_greatest_gap LE.refl) (le_fCons (le_fCall e_two_greatest LE.refl) (le_fCons (le_fCall e_greatest_without LE.refl) (le_fCons (le_fBin (le_fCall e_two_told LE.refl) LE.refl) LE.refl)))))) (le_fSeq (le_fIfS (le_fOr LE.refl (le_fTb (le_fBin (le_fBin (le_fCall e_two_told LE.refl) LE.refl) LE.refl))) LE.refl LE.refl) (le_fSeq (le_fSet (le_fCall e_partings_row LE.refl)) (le_fSeq (le_fIfS (le_fOr LE.refl (le_fTb (le_fBin (le_fCall e_many_partings LE.refl) LE.refl))) LE.refl LE.refl) (le_fSeq (le_fIfS (le_fTru (le_fFn (le_fCons (le_fLc LE.refl LE.refl (le_fBin (le_fCall e_two_partings LE.refl) LE.refl)) LE.refl))) LE.refl LE.refl) (le_fSeq (le_fIfS (le_fTb (le_fBin (le_fFn (le_fCons (le_fCall e_least_made LE.refl) LE.refl)) (le_fFn (le_fCons (le_fCall e_least_by_rests LE.refl) LE.refl)))) LE.refl LE.refl) (le_fSeq (le_fSet (le_fCall e_parting_of_column LE.refl)) (le_fSeq (le_fIfS (le_fAnd LE.refl (le_fOr (le_fTb (le_fBin (le_fFn (le_fCons (le_fCall e_greatest_core LE.refl) LE.refl)) LE.refl)) (le_fTb (le_fBin (le_fFn (le_fCons (le_fCall e_column_lot LE.refl) LE.refl)) LE.refl)))) LE.refl LE.refl) (le_fSeq LE.refl (le_fSeq LE.refl (le_fSeq (le_fIfS (le_fTb (le_fBin (le_fBin (le_fCall e_core_count LE.refl) LE.refl) LE.refl)) LE.refl LE.refl) (le_fSeq LE.refl (le_fSeq (le_fFor (le_fParts (le_fCall e_hook_rows LE.refl)) LE.refl) (le_fSeq (le_fIfS (le_fOr LE.refl (le_fOr (le_fNot (le_fTru (le_fCall e_is_core_for LE.refl))) (le_fNot (le_fTru (le_fCall e_is_core_for LE.refl))))) LE.refl LE.refl) (le_fSeq (le_fSet (le_fCall e_lots_with_gaps (le_fCons (le_fBin LE.refl (le_fCall e__law_pick LE.refl)) LE.refl))) (le_fSeq (le_fSet (le_fBin LE.refl (le_fCall e__law_pick LE.refl))) (le_fSeq (le_fSet (le_fCall e_gaps_of LE.refl)) (le_fSeq (le_fSet (le_fCall e_parting_of_column LE.refl)) (le_fSeq (le_fSet (le_fBin LE.refl (le_fCall e__law_pick LE.refl))) (le_fRet (le_fOrV (le_fNotV (le_fCall e_is_made LE.refl)) (le_fCall e_is_core_for LE.refl)))))))))))))))))))))))))))))
theorem has_law {P : Program} {w : World} {K : PySem.W.Frag} {mg : Str → Option Value} {base : Heap} {ff : Addr} {gg : FuncData} (ok : LawOk 20 1 (B_law F_is_core_for F_is_made F__law_pick F_parting_of_column F_gaps_of F_lots_with_gaps F_hook_rows F_core_count F_column_lot F_greatest_core F_least_made F_least_by_rests F_two_partings F_many_partings F_partings_row F_two_told F_greatest_gap F_two_greatest F_greatest_without F_is_alike F_two_gaps F__law_made F__law_divisor)) (F : Fun K "law" "law" s_law ff gg) (h__law_open_cells : Opens P w K mg base 1 "_law_open_cells") (h_is_core_for : Has P w K mg base 2 "is_core_for" 2 F_is_core_for) (h_is_made : Has P w K mg base 2 "is_made" 2 F_is_made) (h__law_pick : Has P w K mg base 1 "_law_pick" 2 F__law_pick) (h_parting_of_column : Has P w K mg base 1 "parting_of_column" 1 F_parting_of_column) (h_gaps_of : Has P w K mg base 2 "gaps_of" 1 F_gaps_of) (h_lots_with_gaps : Has P w K mg base 5 "lots_with_gaps" 1 F_lots_with_gaps) (h_hook_rows : Has P w K mg base 2 "hook_rows" 1 F_hook_rows) (h_core_count : Has P w K mg base 2 "core_count" 2 F_core_count) (h_column_lot : Has P w K mg base 1 "column_lot" 1 F_column_lot) (h_greatest_core : Has P w K mg base 2 "greatest_core" 2 F_greatest_core) (h_least_made : Has P w K mg base 2 "least_made" 2 F_least_made) (h_least_by_rests : Has P w K mg base 2 "least_by_rests" 2 F_least_by_rests) (h_two_partings : Has P w K mg base 4 "two_partings" 3 F_two_partings) (h_many_partings : Has P w K mg base 2 "many_partings" 2 F_many_partings) (h_partings_row : Has P w K mg base 1 "partings_row" 2 F_partings_row) (h_two_told : Has P w K mg base 1 "two_told" 2 F_two_told) (h_greatest_gap : Has P w K mg base 3 "greatest_gap" 1 F_greatest_gap) (h_two_greatest : Has P w K mg base 2 "two_greatest" 2 F_two_greatest) (h_greatest_without : Has P w K mg base 3 "greatest_without" 1 F_greatest_without) (h_is_alike : Has P w K mg base 4 "is_alike" 1 F_is_alike) (h_two_gaps : Has P w K mg base 2 "two_gaps" 2 F_two_gaps) (h__law_made : Has P w K mg base 1 "_law_made" 2 F__law_made) (h__law_divisor : Has P w K mg base 1 "_law_divisor" 2 F__law_divisor) (m_any : mg "any" = none) (m_len : mg "len" = none) (m_list : mg "list" = none) (m_max : mg "max" = none) (m_min : mg "min" = none) (m_range : mg "range" = none) (m_repr : mg "repr" = none) (m_tuple : mg "tuple" = none) : FnG P w K mg base 6 ff gg ["script"] (spLaw K) :=
  law_of (i := 1) F sc_law rfl rfl (by decide) ok fun cdv AA outer ss HH hr => by
    have nd := sc_law.nd
    have hu1 := hr.u1
    have hu5 := hr.u64
    have hu4 := Nat.lt_of_succ_lt hu5
    exact claw 1 (h__law_open_cells.up (by decide)) hr nd rfl (cc (sparn rfl (ms (d_op op_addD add_ok (sb di) (sb (dcall (h__law_pick.up (by decide)) hr rfl (ac (dv 1) (ac di an))))) (ms (d_op op_addD add_ok (sb di) (sb (dcall (h__law_pick.up (by decide)) hr rfl (ac (dv 1) (ac di an))))) mn)) (nc 17 nd (nc 18 nd nn))) (cc (sparn rfl (ms (dcb (call_minA rfl hu1) min_ok rfl m_min bt_min (bc (dvb 17) (bc (dvb 18) bn))) (ms (dcb (call_maxA rfl hu1) max_ok rfl m_max bt_max (bc (dvb 17) (bc (dvb 18) bn))) mn)) (nc 17 nd (nc 18 nd nn))) (cc (sif (dt_cmp op_gt gt_ok (sb (dcall (h__law_divisor.up (by decide)) hr rfl (ac (dv 17) (ac (dv 18) an)))) (sb di) (by first | rfl | exact nomark _)) (c1 (sparn rfl (ms (d_op op_subD sub_ok (dvb 18) (sb di)) (ms (dv 18) mn)) (nc 17 nd (nc 18 nd nn)))) cnil) (cc (sset 2 nd (d_op op_mulD mul_ok (dvb 17) (dvb 18))) (cc (sset 3 nd (dcall (h__law_made.up (by decide)) hr rfl (ac (dtup (ac (dv 17) (ac (dv 18) an))) (ac (dv 2) an)))) (cc (sset 4 nd (dct' call_tuple_of tupOf_ok rfl m_tuple bt_tuple (bc (fb (dlc (own := [("x", 16)]) (p := (.v 16)) rfl nd (tI_of (irng2 rfl m_range (bc (sb di) (bc (sb (d_op op_addD add_ok (dvb 2) (sb di))) bn)))) (by rfl) (by decide +kernel) (fun _ _ _ _ _ => (gv 16 nd)) (fun _ _ _ _ _ => (t1 (dn (dt (sb (d_ix (ix_any hu1) item_ok (dvb 3) (dvb 16) (fun _ _ => rfl))))))) (fun _ _ _ _ _ => (dv 16)))) bn))) (cc (sif (L2.PW.pt (wo (dt_cmp (op_neA hu4) ne_ok (sb (dcb (call_reprD hr.gd hu4) repr_ok rfl m_repr bt_repr (bc (sb (dcall (h_gaps_of.up (by decide)) hr rfl (ac (dtup (ac (dv 17) (ac (dv 18) an))) an))) bn))) (sb (dcb (call_reprD hr.gd hu4) repr_ok rfl m_repr bt_repr (bc (dvb 4) bn))) (by first | rfl | exact nomark _)) (wo (dt_cmp (op_neA hu4) ne_ok (sb (dcb (call_reprD hr.gd hu4) repr_ok rfl m_repr bt_repr (bc (sb (dcall (h_two_gaps.up (by decide)) hr rfl (ac (dv 17) (ac (dv 18) an)))) bn))) (sb (dcb (call_reprD hr.gd hu4) repr_ok rfl m_repr bt_repr (bc (dvb 4) bn))) (by first | rfl | exact nomark _)) (wo1 (dt_cmp op_isnotA is_ok (sb (dcall (h_is_alike.up (by decide)) hr rfl (ac (dtup (ac (dv 17) (ac (dv 18) an))) an))) (sb dbl) (by first | rfl | exact nomark _)))))) (c1 (sret (sb dbl))) cnil) (cc (sset 5 nd (fd (dlst (ac (dcall (h_greatest_gap.up (by decide)) hr rfl (ac (dtup (ac (dv 17) (ac (dv 18) an))) an)) (ac (dcall (h_two_greatest.up (by decide)) hr rfl (ac (dv 17) (ac (dv 18) an))) (ac (dcall (h_greatest_without.up (by decide)) hr rfl (ac (dtup (ac (dv 17) (ac (dv 18) an))) an)) (ac (d_ix (ix_any hu1) item_ok (sb (dcall (h_two_told.up (by decide)) hr rfl (ac (dv 17) (ac (dv 18) an)))) (sb di) (fun _ _ => rfl)) an))))))) (cc (sif (L2.PW.pt (wo (dt_cmp (op_neA hu4) ne_ok (dvb 5) (sb (d_op op_mulD mul_ok (fb (dlst (ac (d_op op_subD sub_ok (sb (d_op op_subD sub_ok (sb (d_op op_mulD mul_ok (dvb 17) (dvb 18))) (dvb 17))) (dvb 18)) an))) (sb di))) (by first | rfl | exact nomark _)) (wo1 (dt_cmp (op_neA hu4) ne_ok (sb (d_ix (ix_any hu1) item_ok (sb (dcall (h_two_told.up (by decide)) hr rfl (ac (dv 17) (ac (dv 18) an)))) (sb di) (fun _ _ => rfl))) (sb (dcb call_lenQ lenQ_ok rfl m_len bt_len (bc (dvb 4) bn))) (by first | rfl | exact nomark _))))) (c1 (sret (sb dbl))) cnil) (cc (sset 6 nd (dcall (h_partings_row.up (by decide)) hr rfl (ac (dtup (ac (dv 17) (ac (dv 18) an))) (ac (dv 2) an)))) (cc (sif (L2.PW.pt (wo (dt_cmp (op_neA hu4) ne_ok (sb (dct' call_tuple_of tupOf_ok rfl m_tuple bt_tuple (bc (fb (dlc (own := [("x", 16)]) (p := (.v 16)) rfl nd (tI_of (irng2 rfl m_range (bc (sb di) (bc (sb (d_op op_addD add_ok (dvb 2) (sb di))) bn)))) (by rfl) (by decide +kernel) (fun _ _ _ _ _ => (gv 16 nd)) (fun _ _ _ _ _ => (t1 (dt_cmp (op_eqA hu4) eq_ok (sb (d_ix (ix_any hu1) item_ok (dvb 6) (dvb 16) (fun _ _ => rfl))) (sb di) (by first | rfl | exact nomark _)))) (fun _ _ _ _ _ => (dv 16)))) bn))) (dvb 4) (by first | rfl | exact nomark _)) (wo1 (dt_cmp (op_neA hu4) ne_ok (sb (dcall (h_many_partings.up (by decide)) hr rfl (ac (dtup (ac (dv 17) (ac (dv 18) an))) (ac (dv 2) an)))) (sb di) (by first | rfl | exact nomark _))))) (c1 (sret (sb dbl))) cnil) (cc (sif (dt (sb (dcb (cr_any rfl) any_ok rfl m_any bt_any (bc (fb (dlc (own := [("x", 16)]) (p := (.v 16)) rfl nd (tI_of (irng1 rfl m_range (bc (sb (d_op op_addD add_ok (dvb 2) (sb di))) bn))) (by rfl) (by decide +kernel) (fun _ _ _ _ _ => (gv 16 nd)) (fun _ _ _ _ _ => ty) (fun _ _ _ _ _ => (d_cmp (op_neA hu4) ne_ok (sb (dcall (h_two_partings.up (by decide)) hr rfl (ac (dv 17) (ac (dv 18) (ac (dv 16) an))))) (sb (d_ix (ix_any hu1) item_ok (dvb 6) (dvb 16) (fun _ _ => rfl))) (by first | rfl | exact nomark _))))) bn)))) (c1 (sret (sb dbl))) cnil) (cc (sif (dt_cmp (op_neA hu4) ne_ok (sb (dcb (call_reprD hr.gd hu4) repr_ok rfl m_repr bt_repr (bc (sb (dcall (h_least_made.up (by decide)) hr rfl (ac (dtup (ac (dv 17) (ac (dv 18) an))) (ac (dv 17) an)))) bn))) (sb (dcb (call_reprD hr.gd hu4) repr_ok rfl m_repr bt_repr (bc (sb (dcall (h_least_by_rests.up (by decide)) hr rfl (ac (dtup (ac (dv 17) (ac (dv 18) an))) (ac (dv 17) an)))) bn))) (by first | rfl | exact nomark _)) (c1 (sret (sb dbl))) cnil) (cc (sset 7 nd (dcall (h_parting_of_column.up (by decide)) hr rfl (ac (dv 4) an))) (cc (sif (L2.PW.pt (wa (dt_cmp op_lt lt_ok (dvb 18) (sb di) (by first | rfl | exact nomark _)) (wa1 (L2.PW.pt (wo (dt_cmp (op_neA hu4) ne_ok (sb (dcb (call_reprD hr.gd hu4) repr_ok rfl m_repr bt_repr (bc (sb (dcall (h_greatest_core.up (by decide)) hr rfl (ac (dv 17) (ac (dv 18) an)))) bn))) (sb (dcb (call_reprD hr.gd hu4) repr_ok rfl m_repr bt_repr (bc (dvb 7) bn))) (by first | rfl | exact nomark _)) (wo1 (dt_cmp (op_neA hu4) ne_ok (sb (dcb (call_reprD hr.gd hu4) repr_ok rfl m_repr bt_repr (bc (sb (dcall (h_column_lot.up (by decide)) hr rfl (ac (dv 7) an))) bn))) (sb (dcb (call_reprD hr.gd hu4) repr_ok rfl m_repr bt_repr (bc (dvb 4) bn))) (by first | rfl | exact nomark _)))))))) (c1 (sret (sb dbl))) cnil) (cc (sset 8 nd di) (cc (sfor PassesOwn.never rfl (irng2 rfl m_range (bc (sb di) (bc (dvb 17) bn))) (gv 9 nd) (c1 (sset 8 nd (d_op op_fdivW div_ok (sb (d_op op_mulD mul_ok (dvb 8) (sb (d_op op_addD add_ok (dvb 18) (dvb 9))))) (dvb 9))))) (cc (sif (dt_cmp (op_neA hu4) ne_ok (sb (d_op op_mulD mul_ok (sb (dcall (h_core_count.up (by decide)) hr rfl (ac (dv 17) (ac (dv 18) an)))) (dvb 17))) (dvb 8) (by first | rfl | exact nomark _)) (c1 (sret (sb dbl))) cnil) (cc (sset 10 nd (fd (dlst an))) (cc (sfor PassesOwn.never rfl (iseq (dcall (h_hook_rows.up (by decide)) hr rfl (ac (dv 7) an))) (gv 11 nd) (c1 (sset 10 nd (d_op op_addD add_ok (dvb 10) (fb (dctF (call_lstQ rfl) lstQ_ok rfl m_list bt_list (bc (dvb 11) bn))))))) (cc (sif (L2.PW.pt (wo (dt (sb (dcb (cr_any rfl) any_ok rfl m_any bt_any (bc (fb (dlc (own := [("h", 19)]) (p := (.v 19)) rfl nd (bseq (dvb 10)) (by rfl) (by decide +kernel) (fun _ _ _ _ _ => (gv 19 nd)) (fun _ _ _ _ _ => (t1 (dt_cmp op_le le_ok (dvb 19) (dvb 2) (by first | rfl | exact nomark _)))) (fun _ _ _ _ _ => (d_ix (ix_any hu1) item_ok (dvb 3) (dvb 19) (fun _ _ => rfl))))) bn)))) (wo (dn (dt (sb (dcall (h_is_core_for.up (by decide)) hr rfl (ac (dv 7) (ac (dv 17) an)))))) (wo1 (dn (dt (sb (dcall (h_is_core_for.up (by decide)) hr rfl (ac (dv 7) (ac (dv 18) an)))))))))) (c1 (sret (sb dbl))) cnil) (cc (sset 12 nd (dcall (h_lots_with_gaps.up (by decide)) hr rfl (ac (d_op op_addD add_ok (sb di) (sb (dcall (h__law_pick.up (by decide)) hr rfl (ac (dv 1) (ac di an))))) an))) (cc (sset 13 nd (d_ix (ix_any hu1) item_ok (dvb 12) (sb (dcall (h__law_pick.up (by decide)) hr rfl (ac (dv 1) (ac (dcb call_lenQ lenQ_ok rfl m_len bt_len (bc (dvb 12) bn)) an)))) (fun _ _ => rfl))) (cc (sset 14 nd (dcall (h_gaps_of.up (by decide)) hr rfl (ac (dv 13) an))) (cc (sset 15 nd (dcall (h_parting_of_column.up (by decide)) hr rfl (ac (dv 14) an))) (cc (sset 16 nd (d_op op_addD add_ok (sb di) (sb (dcall (h__law_pick.up (by decide)) hr rfl (ac (dv 1) (ac di an)))))) (c1 (sret (sb (vor (sb (vnot (sb (dcall (h_is_made.up (by decide)) hr rfl (ac (dv 13) (ac (dv 16) an)))))) (vone (dcall (h_is_core_for.up (by decide)) hr rfl (ac (dv 15) (ac (dv 16) an))))))))))))))))))))))))))))))))))
/-- the top -/
theorem all_mk (ok : LawOk 20 1 (B_law F_is_core_for F_is_made F__law_pick F_parting_of_column F_gaps_of F_lots_with_gaps F_hook_rows F_core_count F_column_lot F_greatest_core F_least_made F_least_by_rests F_two_partings F_many_partings F_partings_row F_two_told F_greatest_gap F_two_greatest F_greatest_without F_is_alike F_two_gaps F__law_made F__law_divisor)) {l : PySem.W.OpenLaw} {w : World} {K : PySem.W.Frag} {h : Heap} {mg : Str → Option Value} {fa f0 f1 f2 f3 f4 f5 f6 f7 f8 f9 f10 f11 f12 f13 f14 f15 f16 f17 f18 f19 f20 f21 f22 f23 f24 f25 f26 f27 f28 f29 f30 f31 f32 f33 f34 f35 f36 f37 f38 f39 f40 f41 : Addr} (X : K.In h) (G : h.Ns mainGlobals mg) (hfa : mg "law" = some (.ref fa))
  {oc0 kV0 dc0 pm0 cd0 ct0 : Value} {od0 an0 : Option Addr} {sl0 : Array (Option Value)} (a0 : PySem.W.nsIn K mainGlobals "column_lot" = some (some (.ref f0))) (l0 : K.lookup f0 = some ⟨oc0, od0, .func (PySem.W.fnOf "column_lot" "column_lot" (defArgs s_column_lot) (defBody s_column_lot) (defScope s_column_lot) .none kV0 dc0 pm0 an0 cd0 ct0), sl0⟩) (c0 : PySem.W.codeIn K cd0 "column_lot" = true) (k0 : PySem.W.keepIn K (.ref f0) = true)
  {oc1 kV1 dc1 pm1 cd1 ct1 : Value} {od1 an1 : Option Addr} {sl1 : Array (Option Value)} (a1 : PySem.W.nsIn K mainGlobals "parting_of_column" = some (some (.ref f1))) (l1 : K.lookup f1 = some ⟨oc1, od1, .func (PySem.W.fnOf "parting_of_column" "parting_of_column" (defArgs s_parting_of_column) (defBody s_parting_of_column) (defScope s_parting_of_column) .none kV1 dc1 pm1 an1 cd1 ct1), sl1⟩) (c1 : PySem.W.codeIn K cd1 "parting_of_column" = true) (k1 : PySem.W.keepIn K (.ref f1) = true)
  {oc2 kV2 dc2 pm2 cd2 ct2 : Value} {od2 an2 : Option Addr} {sl2 : Array (Option Value)} (a2 : PySem.W.nsIn K mainGlobals "holes_below" = some (some (.ref f2))) (l2 : K.lookup f2 = some ⟨oc2, od2, .func (PySem.W.fnOf "holes_below" "holes_below" (defArgs s_holes_below) (defBody s_holes_below) (defScope s_holes_below) .none kV2 dc2 pm2 an2 cd2 ct2), sl2⟩) (c2 : PySem.W.codeIn K cd2 "holes_below" = true) (k2 : PySem.W.keepIn K (.ref f2) = true)
  {oc3 kV3 dc3 pm3 cd3 ct3 : Value} {od3 an3 : Option Addr} {sl3 : Array (Option Value)} (a3 : PySem.W.nsIn K mainGlobals "hook_rows" = some (some (.ref f3))) (l3 : K.lookup f3 = some ⟨oc3, od3, .func (PySem.W.fnOf "hook_rows" "hook_rows" (defArgs s_hook_rows) (defBody s_hook_rows) (defScope s_hook_rows) .none kV3 dc3 pm3 an3 cd3 ct3), sl3⟩) (c3 : PySem.W.codeIn K cd3 "hook_rows" = true) (k3 : PySem.W.keepIn K (.ref f3) = true)
  {oc4 kV4 dc4 pm4 cd4 ct4 : Value} {od4 an4 : Option Addr} {sl4 : Array (Option Value)} (a4 : PySem.W.nsIn K mainGlobals "is_core_for" = some (some (.ref f4))) (l4 : K.lookup f4 = some ⟨oc4, od4, .func (PySem.W.fnOf "is_core_for" "is_core_for" (defArgs s_is_core_for) (defBody s_is_core_for) (defScope s_is_core_for) .none kV4 dc4 pm4 an4 cd4 ct4), sl4⟩) (c4 : PySem.W.codeIn K cd4 "is_core_for" = true) (k4 : PySem.W.keepIn K (.ref f4) = true)
  {oc5 kV5 dc5 pm5 cd5 ct5 : Value} {od5 an5 : Option Addr} {sl5 : Array (Option Value)} (a5 : PySem.W.nsIn K mainGlobals "made_marks" = some (some (.ref f5))) (l5 : K.lookup f5 = some ⟨oc5, od5, .func (PySem.W.fnOf "made_marks" "made_marks" (defArgs s_made_marks) (defBody s_made_marks) (defScope s_made_marks) .none kV5 dc5 pm5 an5 cd5 ct5), sl5⟩) (c5 : PySem.W.codeIn K cd5 "made_marks" = true) (k5 : PySem.W.keepIn K (.ref f5) = true)
  {oc6 kV6 dc6 pm6 cd6 ct6 : Value} {od6 an6 : Option Addr} {sl6 : Array (Option Value)} (a6 : PySem.W.nsIn K mainGlobals "is_made" = some (some (.ref f6))) (l6 : K.lookup f6 = some ⟨oc6, od6, .func (PySem.W.fnOf "is_made" "is_made" (defArgs s_is_made) (defBody s_is_made) (defScope s_is_made) .none kV6 dc6 pm6 an6 cd6 ct6), sl6⟩) (c6 : PySem.W.codeIn K cd6 "is_made" = true) (k6 : PySem.W.keepIn K (.ref f6) = true)
  {oc7 kV7 dc7 pm7 cd7 ct7 : Value} {od7 an7 : Option Addr} {sl7 : Array (Option Value)} (a7 : PySem.W.nsIn K mainGlobals "marks_till_all" = some (some (.ref f7))) (l7 : K.lookup f7 = some ⟨oc7, od7, .func (PySem.W.fnOf "marks_till_all" "marks_till_all" (defArgs s_marks_till_all) (defBody s_marks_till_all) (defScope s_marks_till_all) .none kV7 dc7 pm7 an7 cd7 ct7), sl7⟩) (c7 : PySem.W.codeIn K cd7 "marks_till_all" = true) (k7 : PySem.W.keepIn K (.ref f7) = true)
  {oc8 kV8 dc8 pm8 cd8 ct8 : Value} {od8 an8 : Option Addr} {sl8 : Array (Option Value)} (a8 : PySem.W.nsIn K mainGlobals "gaps_of" = some (some (.ref f8))) (l8 : K.lookup f8 = some ⟨oc8, od8, .func (PySem.W.fnOf "gaps_of" "gaps_of" (defArgs s_gaps_of) (defBody s_gaps_of) (defScope s_gaps_of) .none kV8 dc8 pm8 an8 cd8 ct8), sl8⟩) (c8 : PySem.W.codeIn K cd8 "gaps_of" = true) (k8 : PySem.W.keepIn K (.ref f8) = true)
  {oc9 kV9 dc9 pm9 cd9 ct9 : Value} {od9 an9 : Option Addr} {sl9 : Array (Option Value)} (a9 : PySem.W.nsIn K mainGlobals "greatest_gap" = some (some (.ref f9))) (l9 : K.lookup f9 = some ⟨oc9, od9, .func (PySem.W.fnOf "greatest_gap" "greatest_gap" (defArgs s_greatest_gap) (defBody s_greatest_gap) (defScope s_greatest_gap) .none kV9 dc9 pm9 an9 cd9 ct9), sl9⟩) (c9 : PySem.W.codeIn K cd9 "greatest_gap" = true) (k9 : PySem.W.keepIn K (.ref f9) = true)
  {oc10 kV10 dc10 pm10 cd10 ct10 : Value} {od10 an10 : Option Addr} {sl10 : Array (Option Value)} (a10 : PySem.W.nsIn K mainGlobals "settled_least" = some (some (.ref f10))) (l10 : K.lookup f10 = some ⟨oc10, od10, .func (PySem.W.fnOf "settled_least" "settled_least" (defArgs s_settled_least) (defBody s_settled_least) (defScope s_settled_least) .none kV10 dc10 pm10 an10 cd10 ct10), sl10⟩) (c10 : PySem.W.codeIn K cd10 "settled_least" = true) (k10 : PySem.W.keepIn K (.ref f10) = true)
  {oc11 kV11 dc11 pm11 cd11 ct11 : Value} {od11 an11 : Option Addr} {sl11 : Array (Option Value)} (a11 : PySem.W.nsIn K mainGlobals "least_made" = some (some (.ref f11))) (l11 : K.lookup f11 = some ⟨oc11, od11, .func (PySem.W.fnOf "least_made" "least_made" (defArgs s_least_made) (defBody s_least_made) (defScope s_least_made) .none kV11 dc11 pm11 an11 cd11 ct11), sl11⟩) (c11 : PySem.W.codeIn K cd11 "least_made" = true) (k11 : PySem.W.keepIn K (.ref f11) = true)
  {oc12 kV12 dc12 pm12 cd12 ct12 : Value} {od12 an12 : Option Addr} {sl12 : Array (Option Value)} (a12 : PySem.W.nsIn K mainGlobals "is_alike" = some (some (.ref f12))) (l12 : K.lookup f12 = some ⟨oc12, od12, .func (PySem.W.fnOf "is_alike" "is_alike" (defArgs s_is_alike) (defBody s_is_alike) (defScope s_is_alike) .none kV12 dc12 pm12 an12 cd12 ct12), sl12⟩) (c12 : PySem.W.codeIn K cd12 "is_alike" = true) (k12 : PySem.W.keepIn K (.ref f12) = true)
  {oc13 kV13 dc13 pm13 cd13 ct13 : Value} {od13 an13 : Option Addr} {sl13 : Array (Option Value)} (a13 : PySem.W.nsIn K mainGlobals "two_told" = some (some (.ref f13))) (l13 : K.lookup f13 = some ⟨oc13, od13, .func (PySem.W.fnOf "two_told" "two_told" (defArgs s_two_told) (defBody s_two_told) (defScope s_two_told) .none kV13 dc13 pm13 an13 cd13 ct13), sl13⟩) (c13 : PySem.W.codeIn K cd13 "two_told" = true) (k13 : PySem.W.keepIn K (.ref f13) = true)
  {oc14 kV14 dc14 pm14 cd14 ct14 : Value} {od14 an14 : Option Addr} {sl14 : Array (Option Value)} (a14 : PySem.W.nsIn K mainGlobals "two_way" = some (some (.ref f14))) (l14 : K.lookup f14 = some ⟨oc14, od14, .func (PySem.W.fnOf "two_way" "two_way" (defArgs s_two_way) (defBody s_two_way) (defScope s_two_way) .none kV14 dc14 pm14 an14 cd14 ct14), sl14⟩) (c14 : PySem.W.codeIn K cd14 "two_way" = true) (k14 : PySem.W.keepIn K (.ref f14) = true)
  {oc15 kV15 dc15 pm15 cd15 ct15 : Value} {od15 an15 : Option Addr} {sl15 : Array (Option Value)} (a15 : PySem.W.nsIn K mainGlobals "two_gaps" = some (some (.ref f15))) (l15 : K.lookup f15 = some ⟨oc15, od15, .func (PySem.W.fnOf "two_gaps" "two_gaps" (defArgs s_two_gaps) (defBody s_two_gaps) (defScope s_two_gaps) .none kV15 dc15 pm15 an15 cd15 ct15), sl15⟩) (c15 : PySem.W.codeIn K cd15 "two_gaps" = true) (k15 : PySem.W.keepIn K (.ref f15) = true)
  {oc16 kV16 dc16 pm16 cd16 ct16 : Value} {od16 an16 : Option Addr} {sl16 : Array (Option Value)} (a16 : PySem.W.nsIn K mainGlobals "lots_of" = some (some (.ref f16))) (l16 : K.lookup f16 = some ⟨oc16, od16, .func (PySem.W.fnOf "lots_of" "lots_of" (defArgs s_lots_of) (defBody s_lots_of) (defScope s_lots_of) .none kV16 dc16 pm16 an16 cd16 ct16), sl16⟩) (c16 : PySem.W.codeIn K cd16 "lots_of" = true) (k16 : PySem.W.keepIn K (.ref f16) = true)
  {oc17 kV17 dc17 pm17 cd17 ct17 : Value} {od17 an17 : Option Addr} {sl17 : Array (Option Value)} (a17 : PySem.W.nsIn K mainGlobals "core_count" = some (some (.ref f17))) (l17 : K.lookup f17 = some ⟨oc17, od17, .func (PySem.W.fnOf "core_count" "core_count" (defArgs s_core_count) (defBody s_core_count) (defScope s_core_count) .none kV17 dc17 pm17 an17 cd17 ct17), sl17⟩) (c17 : PySem.W.codeIn K cd17 "core_count" = true) (k17 : PySem.W.keepIn K (.ref f17) = true)
  {oc18 kV18 dc18 pm18 cd18 ct18 : Value} {od18 an18 : Option Addr} {sl18 : Array (Option Value)} (a18 : PySem.W.nsIn K mainGlobals "made_numbers" = some (some (.ref f18))) (l18 : K.lookup f18 = some ⟨oc18, od18, .func (PySem.W.fnOf "made_numbers" "made_numbers" (defArgs s_made_numbers) (defBody s_made_numbers) (defScope s_made_numbers) .none kV18 dc18 pm18 an18 cd18 ct18), sl18⟩) (c18 : PySem.W.codeIn K cd18 "made_numbers" = true) (k18 : PySem.W.keepIn K (.ref f18) = true)
  {oc19 kV19 dc19 pm19 cd19 ct19 : Value} {od19 an19 : Option Addr} {sl19 : Array (Option Value)} (a19 : PySem.W.nsIn K mainGlobals "greatest_core" = some (some (.ref f19))) (l19 : K.lookup f19 = some ⟨oc19, od19, .func (PySem.W.fnOf "greatest_core" "greatest_core" (defArgs s_greatest_core) (defBody s_greatest_core) (defScope s_greatest_core) .none kV19 dc19 pm19 an19 cd19 ct19), sl19⟩) (c19 : PySem.W.codeIn K cd19 "greatest_core" = true) (k19 : PySem.W.keepIn K (.ref f19) = true)
  {oc20 kV20 dc20 pm20 cd20 ct20 : Value} {od20 an20 : Option Addr} {sl20 : Array (Option Value)} (a20 : PySem.W.nsIn K mainGlobals "partings_row" = some (some (.ref f20))) (l20 : K.lookup f20 = some ⟨oc20, od20, .func (PySem.W.fnOf "partings_row" "partings_row" (defArgs s_partings_row) (defBody s_partings_row) (defScope s_partings_row) .none kV20 dc20 pm20 an20 cd20 ct20), sl20⟩) (c20 : PySem.W.codeIn K cd20 "partings_row" = true) (k20 : PySem.W.keepIn K (.ref f20) = true)
  {oc21 kV21 dc21 pm21 cd21 ct21 : Value} {od21 an21 : Option Addr} {sl21 : Array (Option Value)} (a21 : PySem.W.nsIn K mainGlobals "many_partings" = some (some (.ref f21))) (l21 : K.lookup f21 = some ⟨oc21, od21, .func (PySem.W.fnOf "many_partings" "many_partings" (defArgs s_many_partings) (defBody s_many_partings) (defScope s_many_partings) .none kV21 dc21 pm21 an21 cd21 ct21), sl21⟩) (c21 : PySem.W.codeIn K cd21 "many_partings" = true) (k21 : PySem.W.keepIn K (.ref f21) = true)
  {oc22 kV22 dc22 pm22 cd22 ct22 : Value} {od22 an22 : Option Addr} {sl22 : Array (Option Value)} (a22 : PySem.W.nsIn K mainGlobals "stepped_once" = some (some (.ref f22))) (l22 : K.lookup f22 = some ⟨oc22, od22, .func (PySem.W.fnOf "stepped_once" "stepped_once" (defArgs s_stepped_once) (defBody s_stepped_once) (defScope s_stepped_once) .none kV22 dc22 pm22 an22 cd22 ct22), sl22⟩) (c22 : PySem.W.codeIn K cd22 "stepped_once" = true) (k22 : PySem.W.keepIn K (.ref f22) = true)
  {oc23 kV23 dc23 pm23 cd23 ct23 : Value} {od23 an23 : Option Addr} {sl23 : Array (Option Value)} (a23 : PySem.W.nsIn K mainGlobals "least_by_rests" = some (some (.ref f23))) (l23 : K.lookup f23 = some ⟨oc23, od23, .func (PySem.W.fnOf "least_by_rests" "least_by_rests" (defArgs s_least_by_rests) (defBody s_least_by_rests) (defScope s_least_by_rests) .none kV23 dc23 pm23 an23 cd23 ct23), sl23⟩) (c23 : PySem.W.codeIn K cd23 "least_by_rests" = true) (k23 : PySem.W.keepIn K (.ref f23) = true)
  {oc24 kV24 dc24 pm24 cd24 ct24 : Value} {od24 an24 : Option Addr} {sl24 : Array (Option Value)} (a24 : PySem.W.nsIn K mainGlobals "lot_divisor" = some (some (.ref f24))) (l24 : K.lookup f24 = some ⟨oc24, od24, .func (PySem.W.fnOf "lot_divisor" "lot_divisor" (defArgs s_lot_divisor) (defBody s_lot_divisor) (defScope s_lot_divisor) .none kV24 dc24 pm24 an24 cd24 ct24), sl24⟩) (c24 : PySem.W.codeIn K cd24 "lot_divisor" = true) (k24 : PySem.W.keepIn K (.ref f24) = true)
  {oc25 kV25 dc25 pm25 cd25 ct25 : Value} {od25 an25 : Option Addr} {sl25 : Array (Option Value)} (a25 : PySem.W.nsIn K mainGlobals "check_whole_lot" = some (some (.ref f25))) (l25 : K.lookup f25 = some ⟨oc25, od25, .func (PySem.W.fnOf "check_whole_lot" "check_whole_lot" (defArgs s_check_whole_lot) (defBody s_check_whole_lot) (defScope s_check_whole_lot) .none kV25 dc25 pm25 an25 cd25 ct25), sl25⟩) (c25 : PySem.W.codeIn K cd25 "check_whole_lot" = true) (k25 : PySem.W.keepIn K (.ref f25) = true)
  {oc26 kV26 dc26 pm26 cd26 ct26 : Value} {od26 an26 : Option Addr} {sl26 : Array (Option Value)} (a26 : PySem.W.nsIn K mainGlobals "greatest_without" = some (some (.ref f26))) (l26 : K.lookup f26 = some ⟨oc26, od26, .func (PySem.W.fnOf "greatest_without" "greatest_without" (defArgs s_greatest_without) (defBody s_greatest_without) (defScope s_greatest_without) .none kV26 dc26 pm26 an26 cd26 ct26), sl26⟩) (c26 : PySem.W.codeIn K cd26 "greatest_without" = true) (k26 : PySem.W.keepIn K (.ref f26) = true)
  {oc27 kV27 dc27 pm27 cd27 ct27 : Value} {od27 an27 : Option Addr} {sl27 : Array (Option Value)} (a27 : PySem.W.nsIn K mainGlobals "check_apart" = some (some (.ref f27))) (l27 : K.lookup f27 = some ⟨oc27, od27, .func (PySem.W.fnOf "check_apart" "check_apart" (defArgs s_check_apart) (defBody s_check_apart) (defScope s_check_apart) .none kV27 dc27 pm27 an27 cd27 ct27), sl27⟩) (c27 : PySem.W.codeIn K cd27 "check_apart" = true) (k27 : PySem.W.keepIn K (.ref f27) = true)
  {oc28 kV28 dc28 pm28 cd28 ct28 : Value} {od28 an28 : Option Addr} {sl28 : Array (Option Value)} (a28 : PySem.W.nsIn K mainGlobals "inverse_rest" = some (some (.ref f28))) (l28 : K.lookup f28 = some ⟨oc28, od28, .func (PySem.W.fnOf "inverse_rest" "inverse_rest" (defArgs s_inverse_rest) (defBody s_inverse_rest) (defScope s_inverse_rest) .none kV28 dc28 pm28 an28 cd28 ct28), sl28⟩) (c28 : PySem.W.codeIn K cd28 "inverse_rest" = true) (k28 : PySem.W.keepIn K (.ref f28) = true)
  {oc29 kV29 dc29 pm29 cd29 ct29 : Value} {od29 an29 : Option Addr} {sl29 : Array (Option Value)} (a29 : PySem.W.nsIn K mainGlobals "two_places" = some (some (.ref f29))) (l29 : K.lookup f29 = some ⟨oc29, od29, .func (PySem.W.fnOf "two_places" "two_places" (defArgs s_two_places) (defBody s_two_places) (defScope s_two_places) .none kV29 dc29 pm29 an29 cd29 ct29), sl29⟩) (c29 : PySem.W.codeIn K cd29 "two_places" = true) (k29 : PySem.W.keepIn K (.ref f29) = true)
  {oc30 kV30 dc30 pm30 cd30 ct30 : Value} {od30 an30 : Option Addr} {sl30 : Array (Option Value)} (a30 : PySem.W.nsIn K mainGlobals "two_partings" = some (some (.ref f30))) (l30 : K.lookup f30 = some ⟨oc30, od30, .func (PySem.W.fnOf "two_partings" "two_partings" (defArgs s_two_partings) (defBody s_two_partings) (defScope s_two_partings) .none kV30 dc30 pm30 an30 cd30 ct30), sl30⟩) (c30 : PySem.W.codeIn K cd30 "two_partings" = true) (k30 : PySem.W.keepIn K (.ref f30) = true)
  {oc31 kV31 dc31 pm31 cd31 ct31 : Value} {od31 an31 : Option Addr} {sl31 : Array (Option Value)} (a31 : PySem.W.nsIn K mainGlobals "two_greatest" = some (some (.ref f31))) (l31 : K.lookup f31 = some ⟨oc31, od31, .func (PySem.W.fnOf "two_greatest" "two_greatest" (defArgs s_two_greatest) (defBody s_two_greatest) (defScope s_two_greatest) .none kV31 dc31 pm31 an31 cd31 ct31), sl31⟩) (c31 : PySem.W.codeIn K cd31 "two_greatest" = true) (k31 : PySem.W.keepIn K (.ref f31) = true)
  {oc32 kV32 dc32 pm32 cd32 ct32 : Value} {od32 an32 : Option Addr} {sl32 : Array (Option Value)} (a32 : PySem.W.nsIn K mainGlobals "without_others" = some (some (.ref f32))) (l32 : K.lookup f32 = some ⟨oc32, od32, .func (PySem.W.fnOf "without_others" "without_others" (defArgs s_without_others) (defBody s_without_others) (defScope s_without_others) .none kV32 dc32 pm32 an32 cd32 ct32), sl32⟩) (c32 : PySem.W.codeIn K cd32 "without_others" = true) (k32 : PySem.W.keepIn K (.ref f32) = true)
  {oc33 kV33 dc33 pm33 cd33 ct33 : Value} {od33 an33 : Option Addr} {sl33 : Array (Option Value)} (a33 : PySem.W.nsIn K mainGlobals "makers_of" = some (some (.ref f33))) (l33 : K.lookup f33 = some ⟨oc33, od33, .func (PySem.W.fnOf "makers_of" "makers_of" (defArgs s_makers_of) (defBody s_makers_of) (defScope s_makers_of) .none kV33 dc33 pm33 an33 cd33 ct33), sl33⟩) (c33 : PySem.W.codeIn K cd33 "makers_of" = true) (k33 : PySem.W.keepIn K (.ref f33) = true)
  {oc34 kV34 dc34 pm34 cd34 ct34 : Value} {od34 an34 : Option Addr} {sl34 : Array (Option Value)} (a34 : PySem.W.nsIn K mainGlobals "lot_without" = some (some (.ref f34))) (l34 : K.lookup f34 = some ⟨oc34, od34, .func (PySem.W.fnOf "lot_without" "lot_without" (defArgs s_lot_without) (defBody s_lot_without) (defScope s_lot_without) .none kV34 dc34 pm34 an34 cd34 ct34), sl34⟩) (c34 : PySem.W.codeIn K cd34 "lot_without" = true) (k34 : PySem.W.keepIn K (.ref f34) = true)
  {oc35 kV35 dc35 pm35 cd35 ct35 : Value} {od35 an35 : Option Addr} {sl35 : Array (Option Value)} (a35 : PySem.W.nsIn K mainGlobals "lots_below" = some (some (.ref f35))) (l35 : K.lookup f35 = some ⟨oc35, od35, .func (PySem.W.fnOf "lots_below" "lots_below" (defArgs s_lots_below) (defBody s_lots_below) (defScope s_lots_below) .none kV35 dc35 pm35 an35 cd35 ct35), sl35⟩) (c35 : PySem.W.codeIn K cd35 "lots_below" = true) (k35 : PySem.W.keepIn K (.ref f35) = true)
  {oc36 kV36 dc36 pm36 cd36 ct36 : Value} {od36 an36 : Option Addr} {sl36 : Array (Option Value)} (a36 : PySem.W.nsIn K mainGlobals "lots_with_gaps" = some (some (.ref f36))) (l36 : K.lookup f36 = some ⟨oc36, od36, .func (PySem.W.fnOf "lots_with_gaps" "lots_with_gaps" (defArgs s_lots_with_gaps) (defBody s_lots_with_gaps) (defScope s_lots_with_gaps) .none kV36 dc36 pm36 an36 cd36 ct36), sl36⟩) (c36 : PySem.W.codeIn K cd36 "lots_with_gaps" = true) (k36 : PySem.W.keepIn K (.ref f36) = true)
  {oc37 kV37 dc37 pm37 cd37 ct37 : Value} {od37 an37 : Option Addr} {sl37 : Array (Option Value)} (a37 : PySem.W.nsIn K mainGlobals "_law_open_cells" = some (some (.ref f37))) (l37 : K.lookup f37 = some ⟨oc37, od37, .func (PySem.W.fnOf "_law_open_cells" "_law_open_cells" (defArgs s__law_open_cells) (defBody s__law_open_cells) (defScope s__law_open_cells) .none kV37 dc37 pm37 an37 cd37 ct37), sl37⟩) (c37 : PySem.W.codeIn K cd37 "_law_open_cells" = true) (k37 : PySem.W.keepIn K (.ref f37) = true)
  {oc38 kV38 dc38 pm38 cd38 ct38 : Value} {od38 an38 : Option Addr} {sl38 : Array (Option Value)} (a38 : PySem.W.nsIn K mainGlobals "_law_pick" = some (some (.ref f38))) (l38 : K.lookup f38 = some ⟨oc38, od38, .func (PySem.W.fnOf "_law_pick" "_law_pick" (defArgs s__law_pick) (defBody s__law_pick) (defScope s__law_pick) .none kV38 dc38 pm38 an38 cd38 ct38), sl38⟩) (c38 : PySem.W.codeIn K cd38 "_law_pick" = true) (k38 : PySem.W.keepIn K (.ref f38) = true)
  {oc39 kV39 dc39 pm39 cd39 ct39 : Value} {od39 an39 : Option Addr} {sl39 : Array (Option Value)} (a39 : PySem.W.nsIn K mainGlobals "_law_divisor" = some (some (.ref f39))) (l39 : K.lookup f39 = some ⟨oc39, od39, .func (PySem.W.fnOf "_law_divisor" "_law_divisor" (defArgs s__law_divisor) (defBody s__law_divisor) (defScope s__law_divisor) .none kV39 dc39 pm39 an39 cd39 ct39), sl39⟩) (c39 : PySem.W.codeIn K cd39 "_law_divisor" = true) (k39 : PySem.W.keepIn K (.ref f39) = true)
  {oc40 kV40 dc40 pm40 cd40 ct40 : Value} {od40 an40 : Option Addr} {sl40 : Array (Option Value)} (a40 : PySem.W.nsIn K mainGlobals "_law_made" = some (some (.ref f40))) (l40 : K.lookup f40 = some ⟨oc40, od40, .func (PySem.W.fnOf "_law_made" "_law_made" (defArgs s__law_made) (defBody s__law_made) (defScope s__law_made) .none kV40 dc40 pm40 an40 cd40 ct40), sl40⟩) (c40 : PySem.W.codeIn K cd40 "_law_made" = true) (k40 : PySem.W.keepIn K (.ref f40) = true)
  {oc41 kV41 dc41 pm41 cd41 ct41 : Value} {od41 an41 : Option Addr} {sl41 : Array (Option Value)} (a41 : PySem.W.nsIn K mainGlobals "law" = some (some (.ref f41))) (l41 : K.lookup f41 = some ⟨oc41, od41, .func (PySem.W.fnOf "law" "law" (defArgs s_law) (defBody s_law) (defScope s_law) .none kV41 dc41 pm41 an41 cd41 ct41), sl41⟩) (c41 : PySem.W.codeIn K cd41 "law" = true) (k41 : PySem.W.keepIn K (.ref f41) = true)
  (z_abs : PySem.W.nsIn K mainGlobals "abs" = some none) (z_all : PySem.W.nsIn K mainGlobals "all" = some none) (z_any : PySem.W.nsIn K mainGlobals "any" = some none) (z_enumerate : PySem.W.nsIn K mainGlobals "enumerate" = some none) (z_gcd : PySem.W.nsIn K mainGlobals "gcd" = some (some (.builtin "math.gcd"))) (z_int : PySem.W.nsIn K mainGlobals "int" = some none) (z_len : PySem.W.nsIn K mainGlobals "len" = some none) (z_list : PySem.W.nsIn K mainGlobals "list" = some none) (z_max : PySem.W.nsIn K mainGlobals "max" = some none) (z_min : PySem.W.nsIn K mainGlobals "min" = some none) (z_range : PySem.W.nsIn K mainGlobals "range" = some none) (z_repr : PySem.W.nsIn K mainGlobals "repr" = some none) (z_sorted : PySem.W.nsIn K mainGlobals "sorted" = some none) (z_tuple : PySem.W.nsIn K mainGlobals "tuple" = some none) (z_zip : PySem.W.nsIn K mainGlobals "zip" = some none) :
  ∃ fd : FuncData, (∀ (s : Shared) (v : Value), BindsTo s fd ⟨[v], []⟩ [("script", v)]) ∧ ∀ base : Heap, K.In base → base.Ns mainGlobals mg → FnG l.prog w K mg base 6 fa fd ["script"] (spLaw K) := by
  have e := hfa.symm.trans (PySem.W.mg_of X G a41)
  cases e
  have m_abs := PySem.W.mg_none_of X G z_abs
  have m_all := PySem.W.mg_none_of X G z_all
  have m_any := PySem.W.mg_none_of X G z_any
  have m_enumerate := PySem.W.mg_none_of X G z_enumerate
  have m_gcd := PySem.W.mg_of X G z_gcd
  have m_int := PySem.W.mg_none_of X G z_int
  have m_len := PySem.W.mg_none_of X G z_len
  have m_list := PySem.W.mg_none_of X G z_list
  have m_max := PySem.W.mg_none_of X G z_max
  have m_min := PySem.W.mg_none_of X G z_min
  have m_range := PySem.W.mg_none_of X G z_range
  have m_repr := PySem.W.mg_none_of X G z_repr
  have m_sorted := PySem.W.mg_none_of X G z_sorted
  have m_tuple := PySem.W.mg_none_of X G z_tuple
  have m_zip := PySem.W.mg_none_of X G z_zip
  refine ⟨PySem.W.fnOf "law" "law" (defArgs s_law) (defBody s_law) (defScope s_law) .none kV41 dc41 pm41 an41 cd41 ct41, fun s v => .of_eq rfl, fun base _ _ => ?_⟩
  have F0 := fun_mk (st := s_column_lot) l0 c0 k0
  have b0 := F0.binds (ps := ["parting"]) fun _ _ _ _ _ _ us hl => match us, hl with | [_], _ => rfl
  have h_column_lot := has_column_lot (P := l.prog) (w := w) (base := base) F0 b0 (PySem.W.mg_of X G a0)  m_enumerate m_len m_tuple
  have F1 := fun_mk (st := s_parting_of_column) l1 c1 k1
  have b1 := F1.binds (ps := ["lot"]) fun _ _ _ _ _ _ us hl => match us, hl with | [_], _ => rfl
  have h_parting_of_column := has_parting_of_column (P := l.prog) (w := w) (base := base) F1 b1 (PySem.W.mg_of X G a1)  m_enumerate m_tuple
  have F2 := fun_mk (st := s_holes_below) l2 c2 k2
  have b2 := F2.binds (ps := ["lot", "x"]) fun _ _ _ _ _ _ us hl => match us, hl with | [_, _], _ => rfl
  have h_holes_below := has_holes_below (P := l.prog) (w := w) (base := base) F2 b2 (PySem.W.mg_of X G a2)  m_range
  have F3 := fun_mk (st := s_hook_rows) l3 c3 k3
  have b3 := F3.binds (ps := ["parting"]) fun _ _ _ _ _ _ us hl => match us, hl with | [_], _ => rfl
  have h_hook_rows := has_hook_rows (P := l.prog) (w := w) (base := base) F3 b3 (PySem.W.mg_of X G a3) h_holes_below h_column_lot m_tuple
  have F4 := fun_mk (st := s_is_core_for) l4 c4 k4
  have b4 := F4.binds (ps := ["parting", "s"]) fun _ _ _ _ _ _ us hl => match us, hl with | [_, _], _ => rfl
  have h_is_core_for := has_is_core_for (P := l.prog) (w := w) (base := base) F4 b4 (PySem.W.mg_of X G a4) h_column_lot m_all
  have F5 := fun_mk (st := s_made_marks) l5 c5 k5
  have b5 := F5.binds (ps := ["lot", "most"]) fun _ _ _ _ _ _ us hl => match us, hl with | [_, _], _ => rfl
  have h_made_marks := has_made_marks (P := l.prog) (w := w) (base := base) F5 b5 (PySem.W.mg_of X G a5)  m_any m_range
  have F6 := fun_mk (st := s_is_made) l6 c6 k6
  have b6 := F6.binds (ps := ["lot", "x"]) fun _ _ _ _ _ _ us hl => match us, hl with | [_, _], _ => rfl
  have h_is_made := has_is_made (P := l.prog) (w := w) (base := base) F6 b6 (PySem.W.mg_of X G a6) h_made_marks 
  have F7 := fun_mk (st := s_marks_till_all) l7 c7 k7
  have b7 := F7.binds (ps := ["lot"]) fun _ _ _ _ _ _ us hl => match us, hl with | [_], _ => rfl
  have h_marks_till_all := has_marks_till_all (P := l.prog) (w := w) (base := base) F7 b7 (PySem.W.mg_of X G a7)  m_any m_len
  have F8 := fun_mk (st := s_gaps_of) l8 c8 k8
  have b8 := F8.binds (ps := ["lot"]) fun _ _ _ _ _ _ us hl => match us, hl with | [_], _ => rfl
  have h_gaps_of := has_gaps_of (P := l.prog) (w := w) (base := base) F8 b8 (PySem.W.mg_of X G a8) h_marks_till_all m_enumerate m_tuple
  have F9 := fun_mk (st := s_greatest_gap) l9 c9 k9
  have b9 := F9.binds (ps := ["lot"]) fun _ _ _ _ _ _ us hl => match us, hl with | [_], _ => rfl
  have h_greatest_gap := has_greatest_gap (P := l.prog) (w := w) (base := base) F9 b9 (PySem.W.mg_of X G a9) h_gaps_of 
  have F10 := fun_mk (st := s_settled_least) l10 c10 k10
  have b10 := F10.binds (ps := ["least", "m", "lot"]) fun _ _ _ _ _ _ us hl => match us, hl with | [_, _, _], _ => rfl
  have h_settled_least := has_settled_least (P := l.prog) (w := w) (base := base) F10 b10 (PySem.W.mg_of X G a10)  m_list m_range
  have F11 := fun_mk (st := s_least_made) l11 c11 k11
  have b11 := F11.binds (ps := ["lot", "m"]) fun _ _ _ _ _ _ us hl => match us, hl with | [_, _], _ => rfl
  have h_least_made := has_least_made (P := l.prog) (w := w) (base := base) F11 b11 (PySem.W.mg_of X G a11) h_settled_least m_tuple
  have F12 := fun_mk (st := s_is_alike) l12 c12 k12
  have b12 := F12.binds (ps := ["lot"]) fun _ _ _ _ _ _ us hl => match us, hl with | [_], _ => rfl
  have h_is_alike := has_is_alike (P := l.prog) (w := w) (base := base) F12 b12 (PySem.W.mg_of X G a12) h_greatest_gap h_least_made m_all m_sorted m_zip
  have F13 := fun_mk (st := s_two_told) l13 c13 k13
  have b13 := F13.binds (ps := ["a", "b"]) fun _ _ _ _ _ _ us hl => match us, hl with | [_, _], _ => rfl
  have h_two_told := has_two_told (P := l.prog) (w := w) (base := base) F13 b13 (PySem.W.mg_of X G a13)  
  have F14 := fun_mk (st := s_two_way) l14 c14 k14
  have b14 := F14.binds (ps := ["a", "b", "x"]) fun _ _ _ _ _ _ us hl => match us, hl with | [_, _, _], _ => rfl
  have h_two_way := has_two_way (P := l.prog) (w := w) (base := base) F14 b14 (PySem.W.mg_of X G a14)  
  have F15 := fun_mk (st := s_two_gaps) l15 c15 k15
  have b15 := F15.binds (ps := ["a", "b"]) fun _ _ _ _ _ _ us hl => match us, hl with | [_, _], _ => rfl
  have h_two_gaps := has_two_gaps (P := l.prog) (w := w) (base := base) F15 b15 (PySem.W.mg_of X G a15) h_two_way h_two_told m_range m_tuple
  have F16 := fun_mk (st := s_lots_of) l16 c16 k16
  have b16 := F16.binds (ps := ["n", "k"]) fun _ _ _ _ _ _ us hl => match us, hl with | [_, _], _ => rfl
  have h_lots_of := has_lots_of (P := l.prog) (w := w) (base := base) F16 b16 (PySem.W.mg_of X G a16)  m_range
  have F17 := fun_mk (st := s_core_count) l17 c17 k17
  have b17 := F17.binds (ps := ["s", "t"]) fun _ _ _ _ _ _ us hl => match us, hl with | [_, _], _ => rfl
  have h_core_count := has_core_count (P := l.prog) (w := w) (base := base) F17 b17 (PySem.W.mg_of X G a17) h_lots_of 
  have F18 := fun_mk (st := s_made_numbers) l18 c18 k18
  have b18 := F18.binds (ps := ["s", "t", "most"]) fun _ _ _ _ _ _ us hl => match us, hl with | [_, _, _], _ => rfl
  have h_made_numbers := has_made_numbers (P := l.prog) (w := w) (base := base) F18 b18 (PySem.W.mg_of X G a18)  m_range
  have F19 := fun_mk (st := s_greatest_core) l19 c19 k19
  have b19 := F19.binds (ps := ["s", "t"]) fun _ _ _ _ _ _ us hl => match us, hl with | [_, _], _ => rfl
  have h_greatest_core := has_greatest_core (P := l.prog) (w := w) (base := base) F19 b19 (PySem.W.mg_of X G a19) h_parting_of_column h_made_numbers m_range m_tuple
  have F20 := fun_mk (st := s_partings_row) l20 c20 k20
  have b20 := F20.binds (ps := ["lot", "n"]) fun _ _ _ _ _ _ us hl => match us, hl with | [_, _], _ => rfl
  have h_partings_row := has_partings_row (P := l.prog) (w := w) (base := base) F20 b20 (PySem.W.mg_of X G a20)  m_range m_tuple
  have F21 := fun_mk (st := s_many_partings) l21 c21 k21
  have b21 := F21.binds (ps := ["lot", "n"]) fun _ _ _ _ _ _ us hl => match us, hl with | [_, _], _ => rfl
  have h_many_partings := has_many_partings (P := l.prog) (w := w) (base := base) F21 b21 (PySem.W.mg_of X G a21) h_partings_row 
  have F22 := fun_mk (st := s_stepped_once) l22 c22 k22
  have b22 := F22.binds (ps := ["found", "a", "b"]) fun _ _ _ _ _ _ us hl => match us, hl with | [_, _, _], _ => rfl
  have h_stepped_once := has_stepped_once (P := l.prog) (w := w) (base := base) F22 b22 (PySem.W.mg_of X G a22)  m_gcd m_list m_range
  have F23 := fun_mk (st := s_least_by_rests) l23 c23 k23
  have b23 := F23.binds (ps := ["lot", "a"]) fun _ _ _ _ _ _ us hl => match us, hl with | [_, _], _ => rfl
  have h_least_by_rests := has_least_by_rests (P := l.prog) (w := w) (base := base) F23 b23 (PySem.W.mg_of X G a23) h_stepped_once m_tuple
  have F24 := fun_mk (st := s_lot_divisor) l24 c24 k24
  have b24 := F24.binds (ps := ["lot"]) fun _ _ _ _ _ _ us hl => match us, hl with | [_], _ => rfl
  have h_lot_divisor := has_lot_divisor (P := l.prog) (w := w) (base := base) F24 b24 (PySem.W.mg_of X G a24)  m_gcd
  have F25 := fun_mk (st := s_check_whole_lot) l25 c25 k25
  have b25 := F25.binds (ps := ["lot"]) fun _ _ _ _ _ _ us hl => match us, hl with | [_], _ => rfl
  have h_check_whole_lot := has_check_whole_lot (P := l.prog) (w := w) (base := base) F25 b25 (PySem.W.mg_of X G a25) h_lot_divisor 
  have F26 := fun_mk (st := s_greatest_without) l26 c26 k26
  have b26 := F26.binds (ps := ["lot"]) fun _ _ _ _ _ _ us hl => match us, hl with | [_], _ => rfl
  have h_greatest_without := has_greatest_without (P := l.prog) (w := w) (base := base) F26 b26 (PySem.W.mg_of X G a26) h_least_by_rests h_check_whole_lot m_max
  have F27 := fun_mk (st := s_check_apart) l27 c27 k27
  have b27 := F27.binds (ps := ["a", "b"]) fun _ _ _ _ _ _ us hl => match us, hl with | [_, _], _ => rfl
  have h_check_apart := has_check_apart (P := l.prog) (w := w) (base := base) F27 b27 (PySem.W.mg_of X G a27)  m_gcd
  have F28 := fun_mk (st := s_inverse_rest) l28 c28 k28
  have b28 := F28.binds (ps := ["a", "m"]) fun _ _ _ _ _ _ us hl => match us, hl with | [_, _], _ => rfl
  have h_inverse_rest := has_inverse_rest (P := l.prog) (w := w) (base := base) F28 b28 (PySem.W.mg_of X G a28) h_check_apart 
  have F29 := fun_mk (st := s_two_places) l29 c29 k29
  have b29 := F29.binds (ps := ["a", "b", "n"]) fun _ _ _ _ _ _ us hl => match us, hl with | [_, _, _], _ => rfl
  have h_two_places := has_two_places (P := l.prog) (w := w) (base := base) F29 b29 (PySem.W.mg_of X G a29) h_inverse_rest h_check_apart 
  have F30 := fun_mk (st := s_two_partings) l30 c30 k30
  have b30 := F30.binds (ps := ["a", "b", "n"]) fun _ _ _ _ _ _ us hl => match us, hl with | [_, _, _], _ => rfl
  have h_two_partings := has_two_partings (P := l.prog) (w := w) (base := base) F30 b30 (PySem.W.mg_of X G a30) h_two_places 
  have F31 := fun_mk (st := s_two_greatest) l31 c31 k31
  have b31 := F31.binds (ps := ["a", "b"]) fun _ _ _ _ _ _ us hl => match us, hl with | [_, _], _ => rfl
  have h_two_greatest := has_two_greatest (P := l.prog) (w := w) (base := base) F31 b31 (PySem.W.mg_of X G a31) h_check_apart 
  have F32 := fun_mk (st := s_without_others) l32 c32 k32
  have b32 := F32.binds (ps := ["numbers"]) fun _ _ _ _ _ _ us hl => match us, hl with | [_], _ => rfl
  have h_without_others := has_without_others (P := l.prog) (w := w) (base := base) F32 b32 (PySem.W.mg_of X G a32)  m_max m_range m_sorted m_tuple
  have F33 := fun_mk (st := s_makers_of) l33 c33 k33
  have b33 := F33.binds (ps := ["lot"]) fun _ _ _ _ _ _ us hl => match us, hl with | [_], _ => rfl
  have h_makers_of := has_makers_of (P := l.prog) (w := w) (base := base) F33 b33 (PySem.W.mg_of X G a33) h_without_others 
  have F34 := fun_mk (st := s_lot_without) l34 c34 k34
  have b34 := F34.binds (ps := ["lot", "x"]) fun _ _ _ _ _ _ us hl => match us, hl with | [_, _], _ => rfl
  have h_lot_without := has_lot_without (P := l.prog) (w := w) (base := base) F34 b34 (PySem.W.mg_of X G a34) h_without_others h_made_marks m_range
  have F35 := fun_mk (st := s_lots_below) l35 c35 k35
  have b35 := F35.binds (ps := ["lot"]) fun _ _ _ _ _ _ us hl => match us, hl with | [_], _ => rfl
  have h_lots_below := has_lots_below (P := l.prog) (w := w) (base := base) F35 b35 (PySem.W.mg_of X G a35) h_lot_without h_makers_of h_greatest_gap m_sorted m_tuple
  have F36 := fun_mk (st := s_lots_with_gaps) l36 c36 k36
  have b36 := F36.binds (ps := ["g"]) fun _ _ _ _ _ _ us hl => match us, hl with | [_], _ => rfl
  have h_lots_with_gaps := has_lots_with_gaps (P := l.prog) (w := w) (base := base) F36 b36 (PySem.W.mg_of X G a36) h_lots_below m_list m_range m_sorted m_tuple
  have F37 := fun_mk (st := s__law_open_cells) l37 c37 k37
  have b37 := F37.binds (ps := ["script"]) fun _ _ _ _ _ _ us hl => match us, hl with | [_], _ => rfl
  have h__law_open_cells := has__law_open_cells (P := l.prog) (w := w) (base := base) F37 b37 (PySem.W.mg_of X G a37)  m_int m_abs
  have F38 := fun_mk (st := s__law_pick) l38 c38 k38
  have b38 := F38.binds (ps := ["source", "most"]) fun _ _ _ _ _ _ us hl => match us, hl with | [_, _], _ => rfl
  have h__law_pick := has__law_pick (P := l.prog) (w := w) (base := base) F38 b38 (PySem.W.mg_of X G a38)  m_len m_int
  have F39 := fun_mk (st := s__law_divisor) l39 c39 k39
  have b39 := F39.binds (ps := ["a", "b"]) fun _ _ _ _ _ _ us hl => match us, hl with | [_, _], _ => rfl
  have h__law_divisor := has__law_divisor (P := l.prog) (w := w) (base := base) F39 b39 (PySem.W.mg_of X G a39)  
  have F40 := fun_mk (st := s__law_made) l40 c40 k40
  have b40 := F40.binds (ps := ["lot", "most"]) fun _ _ _ _ _ _ us hl => match us, hl with | [_, _], _ => rfl
  have h__law_made := has__law_made (P := l.prog) (w := w) (base := base) F40 b40 (PySem.W.mg_of X G a40)  m_any m_range
  have F41 := fun_mk (st := s_law) l41 c41 k41
  exact has_law ok F41 h__law_open_cells h_is_core_for h_is_made h__law_pick h_parting_of_column h_gaps_of h_lots_with_gaps h_hook_rows h_core_count h_column_lot h_greatest_core h_least_made h_least_by_rests h_two_partings h_many_partings h_partings_row h_two_told h_greatest_gap h_two_greatest h_greatest_without h_is_alike h_two_gaps h__law_made h__law_divisor m_any m_len m_list m_max m_min m_range m_repr m_tuple
end
end LAW_K00_WHOLE_GAPS_CORES_AND_PARTINGS

set_option Elab.async false
set_option linter.all false
set_option maxRecDepth 100000
set_option maxHeartbeats 0
namespace LAW_K00_WHOLE_GAPS_CORES_AND_PARTINGS
noncomputable section
open PySem PySem.Spec PyProof.Rows L2 DL
abbrev L__law_divisor_1 : Ev → T Res := (fParM [0, 1] (mSh (fV 1) (mSh (fBin dMod (fVb 0) (fVb 1)) mNil)))
abbrev P__law_divisor : Ev → T Res := (fSeq (fWhile 100000 (fTb (fBin dNe (fVb 1) (fC (.int 0)))) L__law_divisor_1) (fRet (fVb 0)))
theorem st__law_divisor {x0 x1 d : D} (h : Ru P__law_divisor [.sh x0, .sh x1] fun r => outD r = .ok d) : F__law_divisor [x0, x1] = .ok d := Ru.ans (m := 0) (B := P__law_divisor) h
abbrev C__law_made_1 : Ev → T D := (fLc [3] (fRng1 (fCons (fBin dAdd (fVb 1) (fC (.int 1))) fNil)) (.v 3) fYes (fBin dEq (fVb 3) (fC (.int 0))))
abbrev C__law_made_2 : Ev → T D := (fLc [4] (fParts (fVb 0)) (.v 4) fYes (fAndV (fBin dGe (fVb 3) (fVb 4)) (fBin dItem (fVb 2) (fBin dSub (fVb 3) (fVb 4)))))
abbrev L__law_made_1 : Ev → T Res := (fPut 2 (fV 3) (fOrV (fBin dItem (fVb 2) (fVb 3)) (fFn (on1 dAny) (fCons C__law_made_2 fNil))))
abbrev P__law_made : Ev → T Res := (fSeq (fSetF 2 C__law_made_1) (fSeq (fFor (fRng1 (fCons (fBin dAdd (fVb 1) (fC (.int 1))) fNil)) (.v 3) L__law_made_1) (fRet (fVb 2))))
theorem st__law_made {x0 x1 d : D} (h : Ru P__law_made [.sh x0, .sh x1, .non, .non, .non] fun r => outD r = .ok d) : F__law_made [x0, x1] = .ok d := Ru.ans (m := 3) (B := P__law_made) h
abbrev C_law_1 : Ev → T D := (fLc [16] (fRng2 (fCons (fC (.int 1)) (fCons (fBin dAdd (fVb 2) (fC (.int 1))) fNil))) (.v 16) (fNot (fTru (fBin dItem (fVb 3) (fVb 16)))) (fV 16))
abbrev C_law_2 : Ev → T D := (fLc [16] (fRng2 (fCons (fC (.int 1)) (fCons (fBin dAdd (fVb 2) (fC (.int 1))) fNil))) (.v 16) (fTb (fBin dEq (fBin dItem (fVb 6) (fVb 16)) (fC (.int 0)))) (fV 16))
abbrev C_law_3 : Ev → T D := (fLc [16] (fRng1 (fCons (fBin dAdd (fVb 2) (fC (.int 1))) fNil)) (.v 16) fYes (fBin dNe (fCall 3 F_two_partings (fCons (fV 17) (fCons (fV 18) (fCons (fV 16) fNil)))) (fBin dItem (fVb 6) (fVb 16))))
abbrev L_law_1 : Ev → T Res := (fSet 8 (fBin dDiv (fBin dMul (fVb 8) (fBin dAdd (fVb 18) (fVb 9))) (fVb 9)))
abbrev L_law_2 : Ev → T Res := (fSet 10 (fBin dAdd (fVb 10) (fFn (on1 dLstQ) (fCons (fVb 11) fNil))))
abbrev C_law_4 : Ev → T D := (fLc [19] (fParts (fVb 10)) (.v 19) (fTb (fBin dLe (fVb 19) (fVb 2))) (fBin dItem (fVb 3) (fVb 19)))
abbrev P_law : Ev → T Res := (fSeq (fParM [17, 18] (mSh (fBin dAdd (fC (.int 2)) (fCall 2 F__law_pick (fCons (fV 1) (fCons (fC (.int 7)) fNil)))) (mSh (fBin dAdd (fC (.int 3)) (fCall 2 F__law_pick (fCons (fV 1) (fCons (fC (.int 7)) fNil)))) mNil))) (fSeq (fParM [17, 18] (mSh (fFn dMin (fCons (fVb 17) (fCons (fVb 18) fNil))) (mSh (fFn dMax (fCons (fVb 17) (fCons (fVb 18) fNil))) mNil))) (fSeq (fIfS (fTb (fBin dGt (fCall 2 F__law_divisor (fCons (fV 17) (fCons (fV 18) fNil))) (fC (.int 1)))) (fParM [17, 18] (mSh (fBin dSub (fVb 18) (fC (.int 1))) (mSh (fV 18) mNil))) fNx) (fSeq (fSet 2 (fBin dMul (fVb 17) (fVb 18))) (fSeq (fSet 3 (fCall 2 F__law_made (fCons (fTup (fCons (fV 17) (fCons (fV 18) fNil))) (fCons (fV 2) fNil)))) (fSeq (fSet 4 (fFn (on1 dTupOf) (fCons C_law_1 fNil))) (fSeq (fIfS (fOr (fTb (fBin dNe (fFn (on1 dRepr) (fCons (fCall 1 F_gaps_of (fCons (fTup (fCons (fV 17) (fCons (fV 18) fNil))) fNil)) fNil)) (fFn (on1 dRepr) (fCons (fVb 4) fNil)))) (fOr (fTb (fBin dNe (fFn (on1 dRepr) (fCons (fCall 2 F_two_gaps (fCons (fV 17) (fCons (fV 18) fNil))) fNil)) (fFn (on1 dRepr) (fCons (fVb 4) fNil)))) (fTb (fBin (dIs true) (fCall 1 F_is_alike (fCons (fTup (fCons (fV 17) (fCons (fV 18) fNil))) fNil)) (fC (.bl true)))))) (fRet (fC (.bl false))) fNx) (fSeq (fSet 5 (fLst (fCons (fCall 1 F_greatest_gap (fCons (fTup (fCons (fV 17) (fCons (fV 18) fNil))) fNil)) (fCons (fCall 2 F_two_greatest (fCons (fV 17) (fCons (fV 18) fNil))) (fCons (fCall 1 F_greatest_without (fCons (fTup (fCons (fV 17) (fCons (fV 18) fNil))) fNil)) (fCons (fBin dItem (fCall 2 F_two_told (fCons (fV 17) (fCons (fV 18) fNil))) (fC (.int 0))) fNil)))))) (fSeq (fIfS (fOr (fTb (fBin dNe (fVb 5) (fBin dMul (fLst (fCons (fBin dSub (fBin dSub (fBin dMul (fVb 17) (fVb 18)) (fVb 17)) (fVb 18)) fNil)) (fC (.int 4))))) (fTb (fBin dNe (fBin dItem (fCall 2 F_two_told (fCons (fV 17) (fCons (fV 18) fNil))) (fC (.int 1))) (fFn (on1 dLenQ) (fCons (fVb 4) fNil))))) (fRet (fC (.bl false))) fNx) (fSeq (fSet 6 (fCall 2 F_partings_row (fCons (fTup (fCons (fV 17) (fCons (fV 18) fNil))) (fCons (fV 2) fNil)))) (fSeq (fIfS (fOr (fTb (fBin dNe (fFn (on1 dTupOf) (fCons C_law_2 fNil)) (fVb 4))) (fTb (fBin dNe (fCall 2 F_many_partings (fCons (fTup (fCons (fV 17) (fCons (fV 18) fNil))) (fCons (fV 2) fNil))) (fC (.int 2))))) (fRet (fC (.bl false))) fNx) (fSeq (fIfS (fTru (fFn (on1 dAny) (fCons C_law_3 fNil))) (fRet (fC (.bl false))) fNx) (fSeq (fIfS (fTb (fBin dNe (fFn (on1 dRepr) (fCons (fCall 2 F_least_made (fCons (fTup (fCons (fV 17) (fCons (fV 18) fNil))) (fCons (fV 17) fNil))) fNil)) (fFn (on1 dRepr) (fCons (fCall 2 F_least_by_rests (fCons (fTup (fCons (fV 17) (fCons (fV 18) fNil))) (fCons (fV 17) fNil))) fNil)))) (fRet (fC (.bl false))) fNx) (fSeq (fSet 7 (fCall 1 F_parting_of_column (fCons (fV 4) fNil))) (fSeq (fIfS (fAnd (fTb (fBin dLt (fVb 18) (fC (.int 10)))) (fOr (fTb (fBin dNe (fFn (on1 dRepr) (fCons (fCall 2 F_greatest_core (fCons (fV 17) (fCons (fV 18) fNil))) fNil)) (fFn (on1 dRepr) (fCons (fVb 7) fNil)))) (fTb (fBin dNe (fFn (on1 dRepr) (fCons (fCall 1 F_column_lot (fCons (fV 7) fNil)) fNil)) (fFn (on1 dRepr) (fCons (fVb 4) fNil)))))) (fRet (fC (.bl false))) fNx) (fSeq (fSet 8 (fC (.int 1))) (fSeq (fFor (fRng2 (fCons (fC (.int 1)) (fCons (fVb 17) fNil))) (.v 9) L_law_1) (fSeq (fIfS (fTb (fBin dNe (fBin dMul (fCall 2 F_core_count (fCons (fV 17) (fCons (fV 18) fNil))) (fVb 17)) (fVb 8))) (fRet (fC (.bl false))) fNx) (fSeq (fSet 10 (fLst fNil)) (fSeq (fFor (fParts (fCall 1 F_hook_rows (fCons (fV 7) fNil))) (.v 11) L_law_2) (fSeq (fIfS (fOr (fTru (fFn (on1 dAny) (fCons C_law_4 fNil))) (fOr (fNot (fTru (fCall 2 F_is_core_for (fCons (fV 7) (fCons (fV 17) fNil))))) (fNot (fTru (fCall 2 F_is_core_for (fCons (fV 7) (fCons (fV 18) fNil))))))) (fRet (fC (.bl false))) fNx) (fSeq (fSet 12 (fCall 1 F_lots_with_gaps (fCons (fBin dAdd (fC (.int 1)) (fCall 2 F__law_pick (fCons (fV 1) (fCons (fC (.int 4)) fNil)))) fNil))) (fSeq (fSet 13 (fBin dItem (fVb 12) (fCall 2 F__law_pick (fCons (fV 1) (fCons (fFn (on1 dLenQ) (fCons (fVb 12) fNil)) fNil))))) (fSeq (fSet 14 (fCall 1 F_gaps_of (fCons (fV 13) fNil))) (fSeq (fSet 15 (fCall 1 F_parting_of_column (fCons (fV 14) fNil))) (fSeq (fSet 16 (fBin dAdd (fC (.int 1)) (fCall 2 F__law_pick (fCons (fV 1) (fCons (fC (.int 12)) fNil))))) (fRet (fOrV (fNotV (fCall 2 F_is_made (fCons (fV 13) (fCons (fV 16) fNil)))) (fCall 2 F_is_core_for (fCons (fV 15) (fCons (fV 16) fNil)))))))))))))))))))))))))))))))
end
end LAW_K00_WHOLE_GAPS_CORES_AND_PARTINGS

set_option Elab.async false
set_option linter.all false
set_option maxRecDepth 1000000
set_option maxHeartbeats 0
namespace LAW_K00_WHOLE_GAPS_CORES_AND_PARTINGS
noncomputable section
open PySem PySem.Spec PyProof.Rows L2 DL RX
abbrev R00 (s0 s2 s3 s4 s5 s6 s7 s8 s9 s10 s11 s12 s13 s14 s15 s16 s17 s18 s19 : Sl) : Ev := [s0, .sh .src, s2, s3, s4, s5, s6, s7, s8, s9, s10, s11, s12, s13, s14, s15, s16, s17, s18, s19]
abbrev P_B : Ev → T Res := (fSeq (fSet 2 (fBin dMul (fVb 17) (fVb 18))) (fSeq (fSet 3 (fCall 2 F__law_made (fCons (fTup (fCons (fV 17) (fCons (fV 18) fNil))) (fCons (fV 2) fNil)))) (fSeq (fSet 4 (fFn (on1 dTupOf) (fCons C_law_1 fNil))) (fSeq (fIfS (fOr (fTb (fBin dNe (fFn (on1 dRepr) (fCons (fCall 1 F_gaps_of (fCons (fTup (fCons (fV 17) (fCons (fV 18) fNil))) fNil)) fNil)) (fFn (on1 dRepr) (fCons (fVb 4) fNil)))) (fOr (fTb (fBin dNe (fFn (on1 dRepr) (fCons (fCall 2 F_two_gaps (fCons (fV 17) (fCons (fV 18) fNil))) fNil)) (fFn (on1 dRepr) (fCons (fVb 4) fNil)))) (fTb (fBin (dIs true) (fCall 1 F_is_alike (fCons (fTup (fCons (fV 17) (fCons (fV 18) fNil))) fNil)) (fC (.bl true)))))) (fRet (fC (.bl false))) fNx) (fSeq (fSet 5 (fLst (fCons (fCall 1 F_greatest_gap (fCons (fTup (fCons (fV 17) (fCons (fV 18) fNil))) fNil)) (fCons (fCall 2 F_two_greatest (fCons (fV 17) (fCons (fV 18) fNil))) (fCons (fCall 1 F_greatest_without (fCons (fTup (fCons (fV 17) (fCons (fV 18) fNil))) fNil)) (fCons (fBin dItem (fCall 2 F_two_told (fCons (fV 17) (fCons (fV 18) fNil))) (fC (.int 0))) fNil)))))) (fSeq (fIfS (fOr (fTb (fBin dNe (fVb 5) (fBin dMul (fLst (fCons (fBin dSub (fBin dSub (fBin dMul (fVb 17) (fVb 18)) (fVb 17)) (fVb 18)) fNil)) (fC (.int 4))))) (fTb (fBin dNe (fBin dItem (fCall 2 F_two_told (fCons (fV 17) (fCons (fV 18) fNil))) (fC (.int 1))) (fFn (on1 dLenQ) (fCons (fVb 4) fNil))))) (fRet (fC (.bl false))) fNx) (fSeq (fSet 6 (fCall 2 F_partings_row (fCons (fTup (fCons (fV 17) (fCons (fV 18) fNil))) (fCons (fV 2) fNil)))) (fSeq (fIfS (fOr (fTb (fBin dNe (fFn (on1 dTupOf) (fCons C_law_2 fNil)) (fVb 4))) (fTb (fBin dNe (fCall 2 F_many_partings (fCons (fTup (fCons (fV 17) (fCons (fV 18) fNil))) (fCons (fV 2) fNil))) (fC (.int 2))))) (fRet (fC (.bl false))) fNx) (fSeq (fIfS (fTru (fFn (on1 dAny) (fCons C_law_3 fNil))) (fRet (fC (.bl false))) fNx) (fSeq (fIfS (fTb (fBin dNe (fFn (on1 dRepr) (fCons (fCall 2 F_least_made (fCons (fTup (fCons (fV 17) (fCons (fV 18) fNil))) (fCons (fV 17) fNil))) fNil)) (fFn (on1 dRepr) (fCons (fCall 2 F_least_by_rests (fCons (fTup (fCons (fV 17) (fCons (fV 18) fNil))) (fCons (fV 17) fNil))) fNil)))) (fRet (fC (.bl false))) fNx) (fSeq (fSet 7 (fCall 1 F_parting_of_column (fCons (fV 4) fNil))) (fSeq (fIfS (fAnd (fTb (fBin dLt (fVb 18) (fC (.int 10)))) (fOr (fTb (fBin dNe (fFn (on1 dRepr) (fCons (fCall 2 F_greatest_core (fCons (fV 17) (fCons (fV 18) fNil))) fNil)) (fFn (on1 dRepr) (fCons (fVb 7) fNil)))) (fTb (fBin dNe (fFn (on1 dRepr) (fCons (fCall 1 F_column_lot (fCons (fV 7) fNil)) fNil)) (fFn (on1 dRepr) (fCons (fVb 4) fNil)))))) (fRet (fC (.bl false))) fNx) (fSeq (fSet 8 (fC (.int 1))) (fSeq (fFor (fRng2 (fCons (fC (.int 1)) (fCons (fVb 17) fNil))) (.v 9) L_law_1) (fSeq (fIfS (fTb (fBin dNe (fBin dMul (fCall 2 F_core_count (fCons (fV 17) (fCons (fV 18) fNil))) (fVb 17)) (fVb 8))) (fRet (fC (.bl false))) fNx) (fSeq (fSet 10 (fLst fNil)) (fSeq (fFor (fParts (fCall 1 F_hook_rows (fCons (fV 7) fNil))) (.v 11) L_law_2) (fIfS (fOr (fTru (fFn (on1 dAny) (fCons C_law_4 fNil))) (fOr (fNot (fTru (fCall 2 F_is_core_for (fCons (fV 7) (fCons (fV 17) fNil))))) (fNot (fTru (fCall 2 F_is_core_for (fCons (fV 7) (fCons (fV 18) fNil))))))) (fRet (fC (.bl false))) fNx))))))))))))))))))
abbrev P_C : Ev → T Res := (fSeq (fSet 12 (fCall 1 F_lots_with_gaps (fCons (fBin dAdd (fC (.int 1)) (fCall 2 F__law_pick (fCons (fV 1) (fCons (fC (.int 4)) fNil)))) fNil))) (fSeq (fSet 13 (fBin dItem (fVb 12) (fCall 2 F__law_pick (fCons (fV 1) (fCons (fFn (on1 dLenQ) (fCons (fVb 12) fNil)) fNil))))) (fSeq (fSet 14 (fCall 1 F_gaps_of (fCons (fV 13) fNil))) (fSeq (fSet 15 (fCall 1 F_parting_of_column (fCons (fV 14) fNil))) (fSeq (fSet 16 (fBin dAdd (fC (.int 1)) (fCall 2 F__law_pick (fCons (fV 1) (fCons (fC (.int 12)) fNil))))) (fRet (fOrV (fNotV (fCall 2 F_is_made (fCons (fV 13) (fCons (fV 16) fNil)))) (fCall 2 F_is_core_for (fCons (fV 15) (fCons (fV 16) fNil))))))))))
abbrev P_A0 : Ev → T Res := (fParM [17, 18] (mSh (fBin dAdd (fC (.int 2)) (fCall 2 F__law_pick (fCons (fV 1) (fCons (fC (.int 7)) fNil)))) (mSh (fBin dAdd (fC (.int 3)) (fCall 2 F__law_pick (fCons (fV 1) (fCons (fC (.int 7)) fNil)))) mNil)))
abbrev P_A1 : Ev → T Res := (fParM [17, 18] (mSh (fFn dMin (fCons (fVb 17) (fCons (fVb 18) fNil))) (mSh (fFn dMax (fCons (fVb 17) (fCons (fVb 18) fNil))) mNil)))
abbrev P_A2 : Ev → T Res := (fIfS (fTb (fBin dGt (fCall 2 F__law_divisor (fCons (fV 17) (fCons (fV 18) fNil))) (fC (.int 1)))) (fParM [17, 18] (mSh (fBin dSub (fVb 18) (fC (.int 1))) (mSh (fV 18) mNil))) fNx)
theorem P_law_eq : P_law = (fSeq P_A0 (fSeq P_A1 (fSeq P_A2 (fSeq P_B P_C)))) := by
  show (fSeq P_A0 (fSeq P_A1 (fSeq P_A2 (fSeq (fSet 2 (fBin dMul (fVb 17) (fVb 18))) (fSeq (fSet 3 (fCall 2 F__law_made (fCons (fTup (fCons (fV 17) (fCons (fV 18) fNil))) (fCons (fV 2) fNil)))) (fSeq (fSet 4 (fFn (on1 dTupOf) (fCons C_law_1 fNil))) (fSeq (fIfS (fOr (fTb (fBin dNe (fFn (on1 dRepr) (fCons (fCall 1 F_gaps_of (fCons (fTup (fCons (fV 17) (fCons (fV 18) fNil))) fNil)) fNil)) (fFn (on1 dRepr) (fCons (fVb 4) fNil)))) (fOr (fTb (fBin dNe (fFn (on1 dRepr) (fCons (fCall 2 F_two_gaps (fCons (fV 17) (fCons (fV 18) fNil))) fNil)) (fFn (on1 dRepr) (fCons (fVb 4) fNil)))) (fTb (fBin (dIs true) (fCall 1 F_is_alike (fCons (fTup (fCons (fV 17) (fCons (fV 18) fNil))) fNil)) (fC (.bl true)))))) (fRet (fC (.bl false))) fNx) (fSeq (fSet 5 (fLst (fCons (fCall 1 F_greatest_gap (fCons (fTup (fCons (fV 17) (fCons (fV 18) fNil))) fNil)) (fCons (fCall 2 F_two_greatest (fCons (fV 17) (fCons (fV 18) fNil))) (fCons (fCall 1 F_greatest_without (fCons (fTup (fCons (fV 17) (fCons (fV 18) fNil))) fNil)) (fCons (fBin dItem (fCall 2 F_two_told (fCons (fV 17) (fCons (fV 18) fNil))) (fC (.int 0))) fNil)))))) (fSeq (fIfS (fOr (fTb (fBin dNe (fVb 5) (fBin dMul (fLst (fCons (fBin dSub (fBin dSub (fBin dMul (fVb 17) (fVb 18)) (fVb 17)) (fVb 18)) fNil)) (fC (.int 4))))) (fTb (fBin dNe (fBin dItem (fCall 2 F_two_told (fCons (fV 17) (fCons (fV 18) fNil))) (fC (.int 1))) (fFn (on1 dLenQ) (fCons (fVb 4) fNil))))) (fRet (fC (.bl false))) fNx) (fSeq (fSet 6 (fCall 2 F_partings_row (fCons (fTup (fCons (fV 17) (fCons (fV 18) fNil))) (fCons (fV 2) fNil)))) (fSeq (fIfS (fOr (fTb (fBin dNe (fFn (on1 dTupOf) (fCons C_law_2 fNil)) (fVb 4))) (fTb (fBin dNe (fCall 2 F_many_partings (fCons (fTup (fCons (fV 17) (fCons (fV 18) fNil))) (fCons (fV 2) fNil))) (fC (.int 2))))) (fRet (fC (.bl false))) fNx) (fSeq (fIfS (fTru (fFn (on1 dAny) (fCons C_law_3 fNil))) (fRet (fC (.bl false))) fNx) (fSeq (fIfS (fTb (fBin dNe (fFn (on1 dRepr) (fCons (fCall 2 F_least_made (fCons (fTup (fCons (fV 17) (fCons (fV 18) fNil))) (fCons (fV 17) fNil))) fNil)) (fFn (on1 dRepr) (fCons (fCall 2 F_least_by_rests (fCons (fTup (fCons (fV 17) (fCons (fV 18) fNil))) (fCons (fV 17) fNil))) fNil)))) (fRet (fC (.bl false))) fNx) (fSeq (fSet 7 (fCall 1 F_parting_of_column (fCons (fV 4) fNil))) (fSeq (fIfS (fAnd (fTb (fBin dLt (fVb 18) (fC (.int 10)))) (fOr (fTb (fBin dNe (fFn (on1 dRepr) (fCons (fCall 2 F_greatest_core (fCons (fV 17) (fCons (fV 18) fNil))) fNil)) (fFn (on1 dRepr) (fCons (fVb 7) fNil)))) (fTb (fBin dNe (fFn (on1 dRepr) (fCons (fCall 1 F_column_lot (fCons (fV 7) fNil)) fNil)) (fFn (on1 dRepr) (fCons (fVb 4) fNil)))))) (fRet (fC (.bl false))) fNx) (fSeq (fSet 8 (fC (.int 1))) (fSeq (fFor (fRng2 (fCons (fC (.int 1)) (fCons (fVb 17) fNil))) (.v 9) L_law_1) (fSeq (fIfS (fTb (fBin dNe (fBin dMul (fCall 2 F_core_count (fCons (fV 17) (fCons (fV 18) fNil))) (fVb 17)) (fVb 8))) (fRet (fC (.bl false))) fNx) (fSeq (fSet 10 (fLst fNil)) (fSeq (fFor (fParts (fCall 1 F_hook_rows (fCons (fV 7) fNil))) (.v 11) L_law_2) (fSeq (fIfS (fOr (fTru (fFn (on1 dAny) (fCons C_law_4 fNil))) (fOr (fNot (fTru (fCall 2 F_is_core_for (fCons (fV 7) (fCons (fV 17) fNil))))) (fNot (fTru (fCall 2 F_is_core_for (fCons (fV 7) (fCons (fV 18) fNil))))))) (fRet (fC (.bl false))) fNx) (fSeq (fSet 12 (fCall 1 F_lots_with_gaps (fCons (fBin dAdd (fC (.int 1)) (fCall 2 F__law_pick (fCons (fV 1) (fCons (fC (.int 4)) fNil)))) fNil))) (fSeq (fSet 13 (fBin dItem (fVb 12) (fCall 2 F__law_pick (fCons (fV 1) (fCons (fFn (on1 dLenQ) (fCons (fVb 12) fNil)) fNil))))) (fSeq (fSet 14 (fCall 1 F_gaps_of (fCons (fV 13) fNil))) (fSeq (fSet 15 (fCall 1 F_parting_of_column (fCons (fV 14) fNil))) (fSeq (fSet 16 (fBin dAdd (fC (.int 1)) (fCall 2 F__law_pick (fCons (fV 1) (fCons (fC (.int 12)) fNil))))) (fRet (fOrV (fNotV (fCall 2 F_is_made (fCons (fV 13) (fCons (fV 16) fNil)))) (fCall 2 F_is_core_for (fCons (fV 15) (fCons (fV 16) fNil))))))))))))))))))))))))))))))) = (fSeq P_A0 (fSeq P_A1 (fSeq P_A2 (fSeq (fSeq (fSet 2 (fBin dMul (fVb 17) (fVb 18))) (fSeq (fSet 3 (fCall 2 F__law_made (fCons (fTup (fCons (fV 17) (fCons (fV 18) fNil))) (fCons (fV 2) fNil)))) (fSeq (fSet 4 (fFn (on1 dTupOf) (fCons C_law_1 fNil))) (fSeq (fIfS (fOr (fTb (fBin dNe (fFn (on1 dRepr) (fCons (fCall 1 F_gaps_of (fCons (fTup (fCons (fV 17) (fCons (fV 18) fNil))) fNil)) fNil)) (fFn (on1 dRepr) (fCons (fVb 4) fNil)))) (fOr (fTb (fBin dNe (fFn (on1 dRepr) (fCons (fCall 2 F_two_gaps (fCons (fV 17) (fCons (fV 18) fNil))) fNil)) (fFn (on1 dRepr) (fCons (fVb 4) fNil)))) (fTb (fBin (dIs true) (fCall 1 F_is_alike (fCons (fTup (fCons (fV 17) (fCons (fV 18) fNil))) fNil)) (fC (.bl true)))))) (fRet (fC (.bl false))) fNx) (fSeq (fSet 5 (fLst (fCons (fCall 1 F_greatest_gap (fCons (fTup (fCons (fV 17) (fCons (fV 18) fNil))) fNil)) (fCons (fCall 2 F_two_greatest (fCons (fV 17) (fCons (fV 18) fNil))) (fCons (fCall 1 F_greatest_without (fCons (fTup (fCons (fV 17) (fCons (fV 18) fNil))) fNil)) (fCons (fBin dItem (fCall 2 F_two_told (fCons (fV 17) (fCons (fV 18) fNil))) (fC (.int 0))) fNil)))))) (fSeq (fIfS (fOr (fTb (fBin dNe (fVb 5) (fBin dMul (fLst (fCons (fBin dSub (fBin dSub (fBin dMul (fVb 17) (fVb 18)) (fVb 17)) (fVb 18)) fNil)) (fC (.int 4))))) (fTb (fBin dNe (fBin dItem (fCall 2 F_two_told (fCons (fV 17) (fCons (fV 18) fNil))) (fC (.int 1))) (fFn (on1 dLenQ) (fCons (fVb 4) fNil))))) (fRet (fC (.bl false))) fNx) (fSeq (fSet 6 (fCall 2 F_partings_row (fCons (fTup (fCons (fV 17) (fCons (fV 18) fNil))) (fCons (fV 2) fNil)))) (fSeq (fIfS (fOr (fTb (fBin dNe (fFn (on1 dTupOf) (fCons C_law_2 fNil)) (fVb 4))) (fTb (fBin dNe (fCall 2 F_many_partings (fCons (fTup (fCons (fV 17) (fCons (fV 18) fNil))) (fCons (fV 2) fNil))) (fC (.int 2))))) (fRet (fC (.bl false))) fNx) (fSeq (fIfS (fTru (fFn (on1 dAny) (fCons C_law_3 fNil))) (fRet (fC (.bl false))) fNx) (fSeq (fIfS (fTb (fBin dNe (fFn (on1 dRepr) (fCons (fCall 2 F_least_made (fCons (fTup (fCons (fV 17) (fCons (fV 18) fNil))) (fCons (fV 17) fNil))) fNil)) (fFn (on1 dRepr) (fCons (fCall 2 F_least_by_rests (fCons (fTup (fCons (fV 17) (fCons (fV 18) fNil))) (fCons (fV 17) fNil))) fNil)))) (fRet (fC (.bl false))) fNx) (fSeq (fSet 7 (fCall 1 F_parting_of_column (fCons (fV 4) fNil))) (fSeq (fIfS (fAnd (fTb (fBin dLt (fVb 18) (fC (.int 10)))) (fOr (fTb (fBin dNe (fFn (on1 dRepr) (fCons (fCall 2 F_greatest_core (fCons (fV 17) (fCons (fV 18) fNil))) fNil)) (fFn (on1 dRepr) (fCons (fVb 7) fNil)))) (fTb (fBin dNe (fFn (on1 dRepr) (fCons (fCall 1 F_column_lot (fCons (fV 7) fNil)) fNil)) (fFn (on1 dRepr) (fCons (fVb 4) fNil)))))) (fRet (fC (.bl false))) fNx) (fSeq (fSet 8 (fC (.int 1))) (fSeq (fFor (fRng2 (fCons (fC (.int 1)) (fCons (fVb 17) fNil))) (.v 9) L_law_1) (fSeq (fIfS (fTb (fBin dNe (fBin dMul (fCall 2 F_core_count (fCons (fV 17) (fCons (fV 18) fNil))) (fVb 17)) (fVb 8))) (fRet (fC (.bl false))) fNx) (fSeq (fSet 10 (fLst fNil)) (fSeq (fFor (fParts (fCall 1 F_hook_rows (fCons (fV 7) fNil))) (.v 11) L_law_2) (fIfS (fOr (fTru (fFn (on1 dAny) (fCons C_law_4 fNil))) (fOr (fNot (fTru (fCall 2 F_is_core_for (fCons (fV 7) (fCons (fV 17) fNil))))) (fNot (fTru (fCall 2 F_is_core_for (fCons (fV 7) (fCons (fV 18) fNil))))))) (fRet (fC (.bl false))) fNx)))))))))))))))))) P_C))))
  simp only [fSeq_assoc]
def okR : T Res → Bool
  | .ok (.nx [_, .sh .src, _, _, _, _, _, _, _, _, _, _, _, _, _, _, _, _, _, _]) => true
  | _ => false
theorem okR_w {m : T Res} (h : okR m = true) : WP m fun r => ∃ s0 s2 s3 s4 s5 s6 s7 s8 s9 s10 s11 s12 s13 s14 s15 s16 s17 s18 s19, r = .nx (R00 s0 s2 s3 s4 s5 s6 s7 s8 s9 s10 s11 s12 s13 s14 s15 s16 s17 s18 s19) := by
  unfold okR at h
  split at h
  · exact ⟨_, _, _, _, _, _, _, _, _, _, _, _, _, _, _, _, _, _, _, rfl⟩
  · cases h
abbrev rB (a b : Nat) : Ev := R00 .non .non .non .non .non .non .non .non .non .non .non .non .non .non .non .non (.sh (nI a)) (.sh (nI b)) .non
def lw (g : Nat) : List (List Nat) := toNN (F_lots_with_gaps [nI g])
def isTT : T D → List (List Nat) → Bool
  | .ok (.tup ds), l => eqNN ds l
  | _, _ => false
theorem isTT_eq {m : T D} {l : List (List Nat)} (h : isTT m l = true) : m = .ok (TsT l) := by
  unfold isTT at h
  split at h
  · rw [eqNN_eq h]
  · cases h
def gp (l : List Nat) : List Nat := toN (F_gaps_of [TNn l])
def pc (l : List Nat) : List Nat := toN (F_parting_of_column [TNn l])
def ckL2 (l g p : List Nat) : Bool := isTu (F_gaps_of [TNn l]) g && isTu (F_parting_of_column [TNn g]) p && (List.range' 1 12).all fun x => isBo (F_is_made [TNn l, nI x]) (toB (F_is_made [TNn l, nI x])) && isBo (F_is_core_for [TNn p, nI x]) (toB (F_is_core_for [TNn p, nI x])) && (!toB (F_is_made [TNn l, nI x]) || toB (F_is_core_for [TNn p, nI x]))
def ckL (l : List Nat) : Bool := ckL2 l (gp l) (pc (gp l))
def ckG (g : Nat) : Bool := isTT (F_lots_with_gaps [nI g]) (lw g) && Nat.blt 0 (lw g).length && Nat.blt (lw g).length 100 && (lw g).all ckL
end
end LAW_K00_WHOLE_GAPS_CORES_AND_PARTINGS

set_option Elab.async false
set_option linter.all false
set_option maxRecDepth 1000000
set_option maxHeartbeats 0
namespace LAW_K00_WHOLE_GAPS_CORES_AND_PARTINGS
noncomputable section
open PySem PySem.Spec PyProof.Rows L2 DL RX
theorem B_8_9 : okR (P_B (rB 8 9)) = true := by decide +kernel
theorem B_3_7 : okR (P_B (rB 3 7)) = true := by decide +kernel
theorem B_2_5 : okR (P_B (rB 2 5)) = true := by decide +kernel
end
end LAW_K00_WHOLE_GAPS_CORES_AND_PARTINGS

set_option Elab.async false
set_option linter.all false
set_option maxRecDepth 1000000
set_option maxHeartbeats 0
namespace LAW_K00_WHOLE_GAPS_CORES_AND_PARTINGS
noncomputable section
open PySem PySem.Spec PyProof.Rows L2 DL RX
theorem B_7_9 : okR (P_B (rB 7 9)) = true := by decide +kernel
theorem B_3_8 : okR (P_B (rB 3 8)) = true := by decide +kernel
theorem B_3_4 : okR (P_B (rB 3 4)) = true := by decide +kernel
theorem G_1 : ckG 1 = true := by decide +kernel
end
end LAW_K00_WHOLE_GAPS_CORES_AND_PARTINGS

set_option Elab.async false
set_option linter.all false
set_option maxRecDepth 1000000
set_option maxHeartbeats 0
namespace LAW_K00_WHOLE_GAPS_CORES_AND_PARTINGS
noncomputable section
open PySem PySem.Spec PyProof.Rows L2 DL RX
theorem B_7_8 : okR (P_B (rB 7 8)) = true := by decide +kernel
theorem B_4_7 : okR (P_B (rB 4 7)) = true := by decide +kernel
theorem B_2_7 : okR (P_B (rB 2 7)) = true := by decide +kernel
theorem G_2 : ckG 2 = true := by decide +kernel
end
end LAW_K00_WHOLE_GAPS_CORES_AND_PARTINGS

set_option Elab.async false
set_option linter.all false
set_option maxRecDepth 1000000
set_option maxHeartbeats 0
namespace LAW_K00_WHOLE_GAPS_CORES_AND_PARTINGS
noncomputable section
open PySem PySem.Spec PyProof.Rows L2 DL RX
theorem B_5_9 : okR (P_B (rB 5 9)) = true := by decide +kernel
theorem B_5_6 : okR (P_B (rB 5 6)) = true := by decide +kernel
theorem B_4_5 : okR (P_B (rB 4 5)) = true := by decide +kernel
theorem G_3 : ckG 3 = true := by decide +kernel
end
end LAW_K00_WHOLE_GAPS_CORES_AND_PARTINGS

set_option Elab.async false
set_option linter.all false
set_option maxRecDepth 1000000
set_option maxHeartbeats 0
namespace LAW_K00_WHOLE_GAPS_CORES_AND_PARTINGS
noncomputable section
open PySem PySem.Spec PyProof.Rows L2 DL RX
theorem B_6_7 : okR (P_B (rB 6 7)) = true := by decide +kernel
theorem B_5_7 : okR (P_B (rB 5 7)) = true := by decide +kernel
theorem B_3_5 : okR (P_B (rB 3 5)) = true := by decide +kernel
theorem B_2_3 : okR (P_B (rB 2 3)) = true := by decide +kernel
end
end LAW_K00_WHOLE_GAPS_CORES_AND_PARTINGS

set_option Elab.async false
set_option linter.all false
set_option maxRecDepth 1000000
set_option maxHeartbeats 0
namespace LAW_K00_WHOLE_GAPS_CORES_AND_PARTINGS
noncomputable section
open PySem PySem.Spec PyProof.Rows L2 DL RX
theorem B_5_8 : okR (P_B (rB 5 8)) = true := by decide +kernel
theorem B_4_9 : okR (P_B (rB 4 9)) = true := by decide +kernel
theorem B_2_9 : okR (P_B (rB 2 9)) = true := by decide +kernel
theorem G_4 : ckG 4 = true := by decide +kernel
end
end LAW_K00_WHOLE_GAPS_CORES_AND_PARTINGS

set_option Elab.async false
set_option linter.all false
set_option maxRecDepth 1000000
set_option maxHeartbeats 0
namespace LAW_K00_WHOLE_GAPS_CORES_AND_PARTINGS
noncomputable section
open PySem PySem.Spec PyProof.Rows L2 DL RX
abbrev prB : List (Nat × Nat) := [(2, 3), (2, 5), (2, 7), (2, 9), (3, 4), (3, 5), (3, 7), (3, 8), (4, 5), (4, 7), (4, 9), (5, 6), (5, 7), (5, 8), (5, 9), (6, 7), (7, 8), (7, 9), (8, 9)]
theorem B_all {a b : Nat} (h : (a, b) ∈ prB) : okR (P_B (rB a b)) = true := by
  have k : ∀ p ∈ prB, okR (P_B (rB p.1 p.2)) = true := by
    intro p hp
    simp only [prB, List.mem_cons, List.not_mem_nil, or_false] at hp
    rcases hp with rfl | rfl | rfl | rfl | rfl | rfl | rfl | rfl | rfl | rfl | rfl | rfl | rfl | rfl | rfl | rfl | rfl | rfl | rfl
    · exact B_2_3
    · exact B_2_5
    · exact B_2_7
    · exact B_2_9
    · exact B_3_4
    · exact B_3_5
    · exact B_3_7
    · exact B_3_8
    · exact B_4_5
    · exact B_4_7
    · exact B_4_9
    · exact B_5_6
    · exact B_5_7
    · exact B_5_8
    · exact B_5_9
    · exact B_6_7
    · exact B_7_8
    · exact B_7_9
    · exact B_8_9
  exact k (a, b) h
theorem G_all {g : Nat} (h1 : 1 ≤ g) (h2 : g ≤ 4) : ckG g = true := by
  have : g = 1 ∨ g = 2 ∨ g = 3 ∨ g = 4 := by omega
  rcases this with e | e | e | e <;> subst e
  · exact G_1
  · exact G_2
  · exact G_3
  · exact G_4
end
end LAW_K00_WHOLE_GAPS_CORES_AND_PARTINGS

set_option Elab.async false
set_option linter.all false
set_option maxRecDepth 100000
set_option maxHeartbeats 0
namespace LAW_K00_WHOLE_GAPS_CORES_AND_PARTINGS
noncomputable section
open PySem PySem.Spec PyProof.Rows L2 DL RX
theorem gd_mem {α : Type} [Inhabited α] {l : List α} {i : Nat} (h : i < l.length) : gd l i ∈ l := List.mem_of_getElem? (gd_get h)
/-- what the draws of two numbers come to -/
def red (a b : Nat) : Nat × Nat := let x := min a b; let y := max a b; if 1 < Nat.gcd x y then (y - 1, y) else (x, y)
theorem red_in : ((List.range 7).all fun q => (List.range 7).all fun r => decide (red (2 + q) (3 + r) ∈ prB)) = true := by decide +kernel
theorem div_ok : ((List.range 10).all fun a => (List.range 10).all fun b => isNu (F__law_divisor [nI a, nI b]) (Nat.gcd a b)) = true := by decide +kernel
theorem div_is {a b : Nat} (ha : a < 10) (hb : b < 10) : F__law_divisor [nI a, nI b] = .ok (nI (Nat.gcd a b)) :=
  isNu_eq (List.all_eq_true.mp (List.all_eq_true.mp div_ok a (List.mem_range.mpr ha)) b (List.mem_range.mpr hb))
theorem min2 {a b : Nat} : dMin [nI a, nI b] = .ok (nI (min a b)) := by
  show T.ok (D.int (match ilt (b : Int) (a : Int) with | true => (b : Int) | false => (a : Int))) = _
  rw [ilt_eq]
  by_cases h : (b : Int) < (a : Int)
  · rw [decide_eq_true h, Nat.min_eq_right (by omega)]
  · rw [decide_eq_false h, Nat.min_eq_left (by omega)]
theorem max2 {a b : Nat} : dMax [nI a, nI b] = .ok (nI (max a b)) := by
  show T.ok (D.int (match ilt (a : Int) (b : Int) with | true => (b : Int) | false => (a : Int))) = _
  rw [ilt_eq]
  by_cases h : (a : Int) < (b : Int)
  · rw [decide_eq_true h, Nat.max_eq_right (by omega)]
  · rw [decide_eq_false h, Nat.max_eq_left (by omega)]
abbrev r0 : Ev := R00 .non .non .non .non .non .non .non .non .non .non .non .non .non .non .non .non .non .non .non
/-- the drawn lot -/
theorem c_w {s0 s2 s3 s4 s5 s6 s7 s8 s9 s10 s11 s12 s13 s14 s15 s16 s17 s18 s19 : Sl} : WP (P_C (R00 s0 s2 s3 s4 s5 s6 s7 s8 s9 s10 s11 s12 s13 s14 s15 s16 s17 s18 s19)) fun r => isT r = true := by
  refine wseq (P := fun ρ' => ∃ g, 1 ≤ g ∧ g ≤ 4 ∧ ρ' = R00 s0 s2 s3 s4 s5 s6 s7 s8 s9 s10 s11 (.sh (TsT (lw g))) s13 s14 s15 s16 s17 s18 s19) ?_ ?_
  · simp (disch := first | omega | assumption | (simp only [lenAll]; omega)) only [rdAll]
    refine wp_pick (by omega) fun q hq => ?_
    have h := G_all (g := 1 + q) (by omega) (by omega)
    unfold ckG at h
    simp only [Bool.and_eq_true] at h
    have e := isTT_eq h.1.1.1
    simp (disch := first | omega | assumption | (simp only [lenAll]; omega)) only [e, rdAll]
    exact ⟨_, rfl, 1 + q, by omega, by omega, rfl⟩
  rintro ρ' ⟨g, h1, h2, rfl⟩
  have h := G_all h1 h2
  unfold ckG at h
  simp only [Bool.and_eq_true, List.all_eq_true] at h
  obtain ⟨⟨⟨_, hl0⟩, hl1⟩, hL⟩ := h
  have hl0 := nblt.mp hl0
  have hl1 := nblt.mp hl1
  refine wseq (P := fun ρ' => ∃ l, l ∈ lw g ∧ ρ' = R00 s0 s2 s3 s4 s5 s6 s7 s8 s9 s10 s11 (.sh (TsT (lw g))) (.sh (TNn l)) s14 s15 s16 s17 s18 s19) ?_ ?_
  · simp (disch := first | omega | assumption | (simp only [lenAll]; omega)) only [rdAll]
    refine wp_pick (by omega) fun q hq => ?_
    have e : dItem (TsT (lw g)) (nI q) = .ok (TNn (gd (lw g) q)) := r_itemT hq
    simp (disch := first | omega | assumption | (simp only [lenAll]; omega)) only [e, rdAll]
    exact ⟨_, rfl, gd (lw g) q, gd_mem hq, rfl⟩
  rintro ρ' ⟨l, hl, rfl⟩
  have k := hL l hl
  unfold ckL ckL2 at k
  simp only [Bool.and_eq_true, List.all_eq_true] at k
  obtain ⟨⟨k1, k2⟩, k3⟩ := k
  have e1 := isTu_eq k1
  have e2 := isTu_eq k2
  refine wpS.seq_ok (ρ' := R00 s0 s2 s3 s4 s5 s6 s7 s8 s9 s10 s11 (.sh (TsT (lw g))) (.sh (TNn l)) (.sh (TNn (gp l))) s15 s16 s17 s18 s19) (by simp (disch := first | omega | assumption | (simp only [lenAll]; omega)) only [e1, rdAll]) ?_
  refine wpS.seq_ok (ρ' := R00 s0 s2 s3 s4 s5 s6 s7 s8 s9 s10 s11 (.sh (TsT (lw g))) (.sh (TNn l)) (.sh (TNn (gp l))) (.sh (TNn (pc (gp l)))) s16 s17 s18 s19) (by simp (disch := first | omega | assumption | (simp only [lenAll]; omega)) only [e2, rdAll]) ?_
  refine wseq (P := fun ρ' => ∃ x, 1 ≤ x ∧ x ≤ 12 ∧ ρ' = R00 s0 s2 s3 s4 s5 s6 s7 s8 s9 s10 s11 (.sh (TsT (lw g))) (.sh (TNn l)) (.sh (TNn (gp l))) (.sh (TNn (pc (gp l)))) (.sh (nI x)) s17 s18 s19) ?_ ?_
  · simp (disch := first | omega | assumption | (simp only [lenAll]; omega)) only [rdAll]
    refine wp_pick (by omega) fun q hq => ?_
    simp (disch := first | omega | assumption | (simp only [lenAll]; omega)) only [rdAll]
    exact ⟨_, rfl, 1 + q, by omega, by omega, rfl⟩
  rintro ρ' ⟨x, x1, x2, rfl⟩
  obtain ⟨⟨m1, m2⟩, m3⟩ := k3 x (List.mem_range'_1.mpr (by omega))
  have f1 := isBo_eq m1
  have f2 := isBo_eq m2
  rw [r_fRet, r_fOrV]
  cases hm : toB (F_is_made [TNn l, nI x]) with
  | false =>
    rw [hm] at f1
    simp (disch := first | omega | assumption | (simp only [lenAll]; omega)) only [f1, rdAll]
    exact rfl
  | true =>
    rw [hm] at f1 m3
    have m3 : toB (F_is_core_for [TNn (pc (gp l)), nI x]) = true := by simpa using m3
    rw [m3] at f2
    simp (disch := first | omega | assumption | (simp only [lenAll]; omega)) only [f1, f2, rdAll]
    exact rfl
theorem law_ok' : ∀ F : Ev → T Res, F = P_law → OkT F r0 := fun F h => ⟨by
  rw [h, P_law_eq]
  refine wseq (P := fun ρ' => ∃ q r, q < 7 ∧ r < 7 ∧ ρ' = R00 .non .non .non .non .non .non .non .non .non .non .non .non .non .non .non .non (.sh (nI (2 + q))) (.sh (nI (3 + r))) .non) ?_ ?_
  · simp (disch := first | omega | assumption | (simp only [lenAll]; omega)) only [P_A0, rdAll]
    refine wp_pick (by omega) fun q hq => ?_
    simp (disch := first | omega | assumption | (simp only [lenAll]; omega)) only [rdAll]
    refine wp_pick (by omega) fun r hr => ?_
    simp (disch := first | omega | assumption | (simp only [lenAll]; omega)) only [rdAll]
    exact ⟨_, rfl, q, r, hq, hr, rfl⟩
  rintro ρ' ⟨q, r, hq, hr, rfl⟩
  refine wpS.seq_ok (ρ' := R00 .non .non .non .non .non .non .non .non .non .non .non .non .non .non .non .non (.sh (nI (min (2 + q) (3 + r)))) (.sh (nI (max (2 + q) (3 + r)))) .non) (by simp (disch := first | omega | assumption | (simp only [lenAll]; omega)) only [P_A1, min2, max2, rdAll]) ?_
  have hin := List.all_eq_true.mp (List.all_eq_true.mp red_in q (List.mem_range.mpr hq)) r (List.mem_range.mpr hr)
  have hin := of_decide_eq_true hin
  obtain ⟨a, ea⟩ : ∃ a, a = (red (2 + q) (3 + r)).1 := ⟨_, rfl⟩
  obtain ⟨b, eb⟩ : ∃ b, b = (red (2 + q) (3 + r)).2 := ⟨_, rfl⟩
  have hab : (a, b) ∈ prB := by rw [ea, eb]; exact hin
  refine wpS.seq_ok (ρ' := rB a b) ?_ ?_
  · have hx : min (2 + q) (3 + r) < 10 := by omega
    have hy : max (2 + q) (3 + r) < 10 := by omega
    have e := div_is hx hy
    rw [ea, eb]
    unfold red
    by_cases hg : 1 < Nat.gcd (min (2 + q) (3 + r)) (max (2 + q) (3 + r))
    · have e2 : decide (1 < Nat.gcd (min (2 + q) (3 + r)) (max (2 + q) (3 + r))) = true := decide_eq_true hg
      simp only [hg, if_true]
      simp (disch := first | omega | assumption | (simp only [lenAll]; omega)) only [P_A2, e, e2, rdAll]
    · have e2 : decide (1 < Nat.gcd (min (2 + q) (3 + r)) (max (2 + q) (3 + r))) = false := decide_eq_false hg
      simp only [hg, if_false]
      simp (disch := first | omega | assumption | (simp only [lenAll]; omega)) only [P_A2, e, e2, rdAll]
  refine wpS.seq ((okR_w (B_all hab)).mono fun r' ⟨s0, s2, s3, s4, s5, s6, s7, s8, s9, s10, s11, s12, s13, s14, s15, s16, s17, s18, s19, e⟩ => ?_)
  subst e
  exact c_w⟩
theorem law_ok : LawOk 20 1 (B_law F_is_core_for F_is_made F__law_pick F_parting_of_column F_gaps_of F_lots_with_gaps F_hook_rows F_core_count F_column_lot F_greatest_core F_least_made F_least_by_rests F_two_partings F_many_partings F_partings_row F_two_told F_greatest_gap F_two_greatest F_greatest_without F_is_alike F_two_gaps F__law_made F__law_divisor) := lawOk_wp (law_ok' _ rfl).run
end
end LAW_K00_WHOLE_GAPS_CORES_AND_PARTINGS

open PySem PySem.W PyProof.Rows
set_option maxRecDepth 100000 in
set_option maxHeartbeats 0 in
theorem PySem.Challenge.cw_restsandparts_k00_whole_gaps_cores_and_p_holds : PySem.Challenge.rw_restsandparts_k00_whole_gaps_cores_and_p.Holds := by
  w_on; o_law; k_head; (case hw => w_witness2)
  k_fill
  refine DL.walk_g (l := PySem.Challenge.rw_restsandparts_k00_whole_gaps_cores_and_p) (n := 63) (k := 6) (x := "script") (sp := fun w => DL.spLaw _) rfl (by decide) rfl ⟨⟨rfl, by decide, by decide⟩, rfl⟩ (fun w h Y => PySem.W.kIn_of Y) ?F (fun w H a ns hl _ hS => ⟨a, ns, rfl, hS, Nat.lt_of_le_of_lt hl (by decide), fun _ => rfl⟩)
  case F =>
    intro w mg fa h KX G hmg
    refine' LAW_K00_WHOLE_GAPS_CORES_AND_PARTINGS.all_mk LAW_K00_WHOLE_GAPS_CORES_AND_PARTINGS.law_ok KX G hmg ?a0 ?l0 ?c0 ?k0 ?a1 ?l1 ?c1 ?k1 ?a2 ?l2 ?c2 ?k2 ?a3 ?l3 ?c3 ?k3 ?a4 ?l4 ?c4 ?k4 ?a5 ?l5 ?c5 ?k5 ?a6 ?l6 ?c6 ?k6 ?a7 ?l7 ?c7 ?k7 ?a8 ?l8 ?c8 ?k8 ?a9 ?l9 ?c9 ?k9 ?a10 ?l10 ?c10 ?k10 ?a11 ?l11 ?c11 ?k11 ?a12 ?l12 ?c12 ?k12 ?a13 ?l13 ?c13 ?k13 ?a14 ?l14 ?c14 ?k14 ?a15 ?l15 ?c15 ?k15 ?a16 ?l16 ?c16 ?k16 ?a17 ?l17 ?c17 ?k17 ?a18 ?l18 ?c18 ?k18 ?a19 ?l19 ?c19 ?k19 ?a20 ?l20 ?c20 ?k20 ?a21 ?l21 ?c21 ?k21 ?a22 ?l22 ?c22 ?k22 ?a23 ?l23 ?c23 ?k23 ?a24 ?l24 ?c24 ?k24 ?a25 ?l25 ?c25 ?k25 ?a26 ?l26 ?c26 ?k26 ?a27 ?l27 ?c27 ?k27 ?a28 ?l28 ?c28 ?k28 ?a29 ?l29 ?c29 ?k29 ?a30 ?l30 ?c30 ?k30 ?a31 ?l31 ?c31 ?k31 ?a32 ?l32 ?c32 ?k32 ?a33 ?l33 ?c33 ?k33 ?a34 ?l34 ?c34 ?k34 ?a35 ?l35 ?c35 ?k35 ?a36 ?l36 ?c36 ?k36 ?a37 ?l37 ?c37 ?k37 ?a38 ?l38 ?c38 ?k38 ?a39 ?l39 ?c39 ?k39 ?a40 ?l40 ?c40 ?k40 ?a41 ?l41 ?c41 ?k41 ?z_abs ?z_all ?z_any ?z_enumerate ?z_gcd ?z_int ?z_len ?z_list ?z_max ?z_min ?z_range ?z_repr ?z_sorted ?z_tuple ?z_zip
    (case a0 => k_is); (case l0 => k_is); (case c0 => k_is); (case k0 => k_is)
    (case a1 => k_is); (case l1 => k_is); (case c1 => k_is); (case k1 => k_is)
    (case a2 => k_is); (case l2 => k_is); (case c2 => k_is); (case k2 => k_is)
    (case a3 => k_is); (case l3 => k_is); (case c3 => k_is); (case k3 => k_is)
    (case a4 => k_is); (case l4 => k_is); (case c4 => k_is); (case k4 => k_is)
    (case a5 => k_is); (case l5 => k_is); (case c5 => k_is); (case k5 => k_is)
    (case a6 => k_is); (case l6 => k_is); (case c6 => k_is); (case k6 => k_is)
    (case a7 => k_is); (case l7 => k_is); (case c7 => k_is); (case k7 => k_is)
    (case a8 => k_is); (case l8 => k_is); (case c8 => k_is); (case k8 => k_is)
    (case a9 => k_is); (case l9 => k_is); (case c9 => k_is); (case k9 => k_is)
    (case a10 => k_is); (case l10 => k_is); (case c10 => k_is); (case k10 => k_is)
    (case a11 => k_is); (case l11 => k_is); (case c11 => k_is); (case k11 => k_is)
    (case a12 => k_is); (case l12 => k_is); (case c12 => k_is); (case k12 => k_is)
    (case a13 => k_is); (case l13 => k_is); (case c13 => k_is); (case k13 => k_is)
    (case a14 => k_is); (case l14 => k_is); (case c14 => k_is); (case k14 => k_is)
    (case a15 => k_is); (case l15 => k_is); (case c15 => k_is); (case k15 => k_is)
    (case a16 => k_is); (case l16 => k_is); (case c16 => k_is); (case k16 => k_is)
    (case a17 => k_is); (case l17 => k_is); (case c17 => k_is); (case k17 => k_is)
    (case a18 => k_is); (case l18 => k_is); (case c18 => k_is); (case k18 => k_is)
    (case a19 => k_is); (case l19 => k_is); (case c19 => k_is); (case k19 => k_is)
    (case a20 => k_is); (case l20 => k_is); (case c20 => k_is); (case k20 => k_is)
    (case a21 => k_is); (case l21 => k_is); (case c21 => k_is); (case k21 => k_is)
    (case a22 => k_is); (case l22 => k_is); (case c22 => k_is); (case k22 => k_is)
    (case a23 => k_is); (case l23 => k_is); (case c23 => k_is); (case k23 => k_is)
    (case a24 => k_is); (case l24 => k_is); (case c24 => k_is); (case k24 => k_is)
    (case a25 => k_is); (case l25 => k_is); (case c25 => k_is); (case k25 => k_is)
    (case a26 => k_is); (case l26 => k_is); (case c26 => k_is); (case k26 => k_is)
    (case a27 => k_is); (case l27 => k_is); (case c27 => k_is); (case k27 => k_is)
    (case a28 => k_is); (case l28 => k_is); (case c28 => k_is); (case k28 => k_is)
    (case a29 => k_is); (case l29 => k_is); (case c29 => k_is); (case k29 => k_is)
    (case a30 => k_is); (case l30 => k_is); (case c30 => k_is); (case k30 => k_is)
    (case a31 => k_is); (case l31 => k_is); (case c31 => k_is); (case k31 => k_is)
    (case a32 => k_is); (case l32 => k_is); (case c32 => k_is); (case k32 => k_is)
    (case a33 => k_is); (case l33 => k_is); (case c33 => k_is); (case k33 => k_is)
    (case a34 => k_is); (case l34 => k_is); (case c34 => k_is); (case k34 => k_is)
    (case a35 => k_is); (case l35 => k_is); (case c35 => k_is); (case k35 => k_is)
    (case a36 => k_is); (case l36 => k_is); (case c36 => k_is); (case k36 => k_is)
    (case a37 => k_is); (case l37 => k_is); (case c37 => k_is); (case k37 => k_is)
    (case a38 => k_is); (case l38 => k_is); (case c38 => k_is); (case k38 => k_is)
    (case a39 => k_is); (case l39 => k_is); (case c39 => k_is); (case k39 => k_is)
    (case a40 => k_is); (case l40 => k_is); (case c40 => k_is); (case k40 => k_is)
    (case a41 => k_is); (case l41 => k_is); (case c41 => k_is); (case k41 => k_is)
    (case z_abs => k_is)
    (case z_all => k_is)
    (case z_any => k_is)
    (case z_enumerate => k_is)
    (case z_gcd => k_is)
    (case z_int => k_is)
    (case z_len => k_is)
    (case z_list => k_is)
    (case z_max => k_is)
    (case z_min => k_is)
    (case z_range => k_is)
    (case z_repr => k_is)
    (case z_sorted => k_is)
    (case z_tuple => k_is)
    (case z_zip => k_is)


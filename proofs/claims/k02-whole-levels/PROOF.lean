import PyProof.Rows.All
import Wide.All
import OpenK.AllK
import Wide.FinOn
import PySem.Challenge.RW_floorprices_k02_whole_levels
import HandS.ForMost
import HandS.ForExc
import HandS.Walk
import HandS.Evl
import HandS.TupAny
import HandS.TupMul
import HandS.Style
import HandS.Wide
import HandS.Zip
import HandS.Rev
import HandS.IsInst
import HandS.SortInts
import HandS.SortRule
import HandS.Strs
import KE.GoesEnum
import KE.GoesMore
set_option Elab.async false
set_option linter.all false
set_option maxRecDepth 100000
set_option maxHeartbeats 4000000
/-! PV: Python data as plain values; readings of the hand layer as functions over them. -/
namespace PV
open PySem L2

inductive D where
  | non
  | bl (b : Bool)
  | int (i : Int)
  | str (x : Str)
  | tup (ds : List D)
  | lst (ds : List D)
  | dic (ks : List Str) (ds : List D)
  | sal (c n : D)
  | row
instance : Inhabited D := ⟨.non⟩

/-- the state of the draws -/
structure S where
  ns : List Int
  pos : Nat
  mix : Int
  rest : Int

structure Err where
  cls : Str
  val : List D

inductive Out (α : Type) where
  | stuck
  | ok (a : α) (s : S)
  | err (e : Err) (s : S)

abbrev M (α : Type) := S → Out α
def Out.bind {α β : Type} : Out α → (α → S → Out β) → Out β
  | .stuck, _ => .stuck
  | .ok a s, k => k a s
  | .err e s, _ => .err e s
@[simp] theorem bind_ok {α β : Type} {a : α} {s : S} {k : α → S → Out β} : (Out.ok a s).bind k = k a s := rfl
@[simp] theorem bind_err {α β : Type} {e : Err} {s : S} {k : α → S → Out β} : (Out.err e s).bind k = .err e s := rfl
@[simp] theorem bind_stuck {α β : Type} {k : α → S → Out β} : (Out.stuck : Out α).bind k = .stuck := rfl
def Out.post {α : Type} (P : α → S → Prop) (R : Err → S → Prop) : Out α → Prop
  | .stuck => False
  | .ok a s => P a s
  | .err e s => R e s
theorem post_bind {α β : Type} {o : Out α} {k : α → S → Out β} {P : β → S → Prop} {R : Err → S → Prop} (h : (o.bind k).post P R) : o.post (fun a s => (k a s).post P R) R := by
  cases o with
  | stuck => exact h
  | ok a s => exact h
  | err e s => exact h
theorem post_mono {α : Type} {o : Out α} {P P' : α → S → Prop} {R R' : Err → S → Prop} (h : o.post P R) (hp : ∀ a s, P a s → P' a s) (hr : ∀ e s, R e s → R' e s) : o.post P' R' := by
  cases o with
  | stuck => exact h
  | ok a s => exact hp a s h
  | err e s => exact hr e s h

/-- the written part, and the class of sales -/
structure Bs where
  K : PySem.W.Frag
  cs : Addr
  xc : Str → Addr

def hid (H : Hp) (O : List Addr) : Hp := fun a => if a ∈ O then none else H a
theorem hid_in {H : Hp} {O : List Addr} {a : Addr} (h : a ∈ O) : hid H O a = none := if_pos h
theorem hid_out {H : Hp} {O : List Addr} {a : Addr} (h : a ∉ O) : hid H O a = H a := if_neg h
theorem hid_some {H : Hp} {O : List Addr} {a : Addr} {o : HO} (h : hid H O a = some o) : a ∉ O ∧ H a = some o := by
  by_cases q : a ∈ O
  · rw [hid_in q] at h; cases h
  · rw [hid_out q] at h; exact ⟨q, h⟩
theorem hid_le {H : Hp} {O : List Addr} : Same (hid H O) H := fun a o h => (hid_some h).2
theorem hid_sub {H : Hp} {O O' : List Addr} (h : ∀ a ∈ O, a ∈ O') : Same (hid H O') (hid H O) := fun a o e => by
  have ⟨h1, h2⟩ := hid_some e
  rw [hid_out fun z => h1 (h a z)]; exact h2
theorem hid_upd {H : Hp} {O : List Addr} {p : Addr} {o : HO} (h : p ∈ O) : hid (upd H p o) O = hid H O := by
  funext a
  by_cases q : a ∈ O
  · rw [hid_in q, hid_in q]
  · rw [hid_out q, hid_out q, upd_ne (fun e => q (by rw [e]; exact h))]

/-! ### what stands for what -/
mutual
inductive Rep (B : Bs) (r : Addr) (H : Hp) : V → D → Prop
  | non : Rep B r H .non .non
  | bl (b : Bool) : Rep B r H (.bl b) (.bl b)
  | int (i : Int) : Rep B r H (.int i) (.int i)
  | str (x : Str) : Rep B r H (.str x) (.str x)
  | tup {a : Addr} {vs : List V} {ds : List D} : SqT B.K H a vs → Reps B r H vs ds → Rep B r H (.ref a) (.tup ds)
  | lst {a : Addr} {vs : List V} {ds : List D} : H a = some (.lst vs) → Reps B r H vs ds → Rep B r H (.ref a) (.lst ds)
  | dic {a : Addr} {kvs : List (Key × V)} {vs : List V} {ks : List Str} {ds : List D} : H a = some (.dK kvs) → kvs = (ks.map Sum.inr).zip vs → ks.length = vs.length → Reps B r H vs ds → Rep B r H (.ref a) (.dic ks ds)
  | sal {a dx : Addr} {vc vn : V} {c n : D} : H a = some (.ins B.cs dx [("crowd", vc), ("stock", vn)]) → Rep B r H vc c → Rep B r H vn n → Rep B r H (.ref a) (.sal c n)
  | row : Rep B r H (.ref r) .row
inductive Reps (B : Bs) (r : Addr) (H : Hp) : List V → List D → Prop
  | nil : Reps B r H [] []
  | cons {v : V} {d : D} {vs : List V} {ds : List D} : Rep B r H v d → Reps B r H vs ds → Reps B r H (v :: vs) (d :: ds)
end

theorem same_t {K : PySem.W.Frag} {H H' : Hp} {a : Addr} {xs : List V} (e : Same H H') (h : SqT K H a xs) : SqT K H' a xs := Evl.ex_t e h
mutual
theorem Rep.mono {B : Bs} {r : Addr} {H H' : Hp} (e : Same H H') : ∀ {v : V} {d : D}, Rep B r H v d → Rep B r H' v d
  | _, _, .non => .non
  | _, _, .bl b => .bl b
  | _, _, .int i => .int i
  | _, _, .str x => .str x
  | _, _, .tup h hs => .tup (same_t e h) (Reps.mono e hs)
  | _, _, .lst h hs => .lst (e _ _ h) (Reps.mono e hs)
  | _, _, .dic h hk hl hs => .dic (e _ _ h) hk hl (Reps.mono e hs)
  | _, _, .sal h h1 h2 => .sal (e _ _ h) (Rep.mono e h1) (Rep.mono e h2)
  | _, _, .row => .row
theorem Reps.mono {B : Bs} {r : Addr} {H H' : Hp} (e : Same H H') : ∀ {vs : List V} {ds : List D}, Reps B r H vs ds → Reps B r H' vs ds
  | _, _, .nil => .nil
  | _, _, .cons h hs => .cons (Rep.mono e h) (Reps.mono e hs)
end
section
variable {B : Bs} {r : Addr} {H : Hp}
theorem Reps.length : ∀ {vs : List V} {ds : List D}, Reps B r H vs ds → vs.length = ds.length
  | _, _, .nil => rfl
  | _, _, .cons _ hs => by rw [List.length_cons, List.length_cons, Reps.length hs]
theorem Reps.get : ∀ {vs : List V} {ds : List D}, Reps B r H vs ds → ∀ (i : Nat) (d : D), ds[i]? = some d → ∃ v, vs[i]? = some v ∧ Rep B r H v d
  | _, _, .nil, i, d, h => by simp at h
  | _, _, .cons h hs, 0, d, e => by
    cases (Option.some.inj e : _ = d)
    exact ⟨_, rfl, h⟩
  | _, _, .cons h hs, i + 1, d, e => by
    obtain ⟨v, h1, h2⟩ := Reps.get hs i d (by simpa using e)
    exact ⟨v, by simpa using h1, h2⟩
theorem Reps.get' : ∀ {vs : List V} {ds : List D}, Reps B r H vs ds → ∀ (i : Nat) (v : V), vs[i]? = some v → ∃ d, ds[i]? = some d ∧ Rep B r H v d
  | _, _, .nil, i, d, h => by simp at h
  | _, _, .cons h hs, 0, d, e => by
    cases (Option.some.inj e : _ = d)
    exact ⟨_, rfl, h⟩
  | _, _, .cons h hs, i + 1, d, e => by
    obtain ⟨v, h1, h2⟩ := Reps.get' hs i d (by simpa using e)
    exact ⟨v, by simpa using h1, h2⟩
theorem Reps.append : ∀ {vs ws : List V} {ds es : List D}, Reps B r H vs ds → Reps B r H ws es → Reps B r H (vs ++ ws) (ds ++ es)
  | _, _, _, _, .nil, q => q
  | _, _, _, _, .cons h hs, q => .cons h (Reps.append hs q)
theorem Reps.take : ∀ {vs : List V} {ds : List D} (n : Nat), Reps B r H vs ds → Reps B r H (vs.take n) (ds.take n)
  | _, _, 0, _ => by simpa using Reps.nil
  | _, _, n + 1, .nil => .nil
  | _, _, n + 1, .cons h hs => .cons h (Reps.take n hs)
theorem Reps.drop : ∀ {vs : List V} {ds : List D} (n : Nat), Reps B r H vs ds → Reps B r H (vs.drop n) (ds.drop n)
  | _, _, 0, h => h
  | _, _, n + 1, .nil => .nil
  | _, _, n + 1, .cons h hs => Reps.drop n hs
theorem Reps.reverse : ∀ {vs : List V} {ds : List D}, Reps B r H vs ds → Reps B r H vs.reverse ds.reverse
  | _, _, .nil => .nil
  | _, _, .cons h hs => by
    rw [List.reverse_cons, List.reverse_cons]
    exact (Reps.reverse hs).append (.cons h .nil)
theorem Reps.set : ∀ {vs : List V} {ds : List D} {v : V} {d : D} (n : Nat), Reps B r H vs ds → Rep B r H v d → Reps B r H (vs.set n v) (ds.set n d)
  | _, _, _, _, _, .nil, _ => .nil
  | _, _, _, _, 0, .cons h hs, q => .cons q hs
  | _, _, _, _, n + 1, .cons h hs, q => .cons h (Reps.set n hs q)
theorem Reps.rep {v : V} {d : D} (h : Rep B r H v d) : ∀ n, Reps B r H (List.replicate n v) (List.replicate n d)
  | 0 => .nil
  | n + 1 => .cons h (Reps.rep h n)
theorem Reps.flat {vs : List V} {ds : List D} (h : Reps B r H vs ds) : ∀ n, Reps B r H (List.replicate n vs).flatten (List.replicate n ds).flatten
  | 0 => .nil
  | n + 1 => by
    rw [List.replicate_succ, List.replicate_succ, List.flatten_cons, List.flatten_cons]
    exact h.append (Reps.flat h n)
theorem Reps.ints {ns : List Int} : ∀ {vs : List V}, Reps B r H vs (ns.map D.int) → vs = ns.map V.int := by
  induction ns with
  | nil => intro vs h; cases h; rfl
  | cons n ns ih => intro vs h; cases h with | cons h hs => cases h; rw [ih hs]; rfl
theorem Reps.of_ints : ∀ (ns : List Int), Reps B r H (ns.map V.int) (ns.map D.int)
  | [] => .nil
  | n :: ns => .cons (.int n) (Reps.of_ints ns)
theorem Reps.bls {bs : List Bool} : ∀ {vs : List V}, Reps B r H vs (bs.map D.bl) → vs = bs.map V.bl := by
  induction bs with
  | nil => intro vs h; cases h; rfl
  | cons n ns ih => intro vs h; cases h with | cons h hs => cases h; rw [ih hs]; rfl
end

/-! ### the state of a def -/
abbrev En := List (Option D)
def Scr (K : PySem.W.Frag) (H : Hp) (sa : Addr) (xs : List V) : Prop := (∃ o, H sa = some (.frz o (.lst xs))) ∨ ∀ H', SqL K H' sa xs
theorem Scr.sq {K : PySem.W.Frag} {H : Hp} {sa : Addr} {xs : List V} (h : Scr K H sa xs) : SqL K H sa xs := h.elim (fun ⟨o, e⟩ => .inl (.inr ⟨o, e⟩)) (fun z => z H)
def RowAt (B : Bs) (r sa : Addr) (H : Hp) (s : S) : Prop := H r = some (.lst [.ref sa, .int (s.pos : Int), .int s.mix, .int s.rest]) ∧ Scr B.K H sa (s.ns.map V.int)
/-- all but the row stands as it did -/
def Stp (r : Addr) (H H' : Hp) : Prop := ∀ a o, a ≠ r → H a = some o → H' a = some o
theorem Stp.refl {r : Addr} (H : Hp) : Stp r H H := fun _ _ _ h => h
theorem Stp.trans {r : Addr} {H H1 H2 : Hp} (a : Stp r H H1) (b : Stp r H1 H2) : Stp r H H2 := fun x o n h => b x o n (a x o n h)
theorem Stp.of {r : Addr} {H H' : Hp} (e : Same H H') : Stp r H H' := fun a o _ h => e a o h
theorem Stp.hid {r : Addr} {H H' : Hp} {O : List Addr} (e : Stp r H H') (hr : r ∈ O) : Same (hid H O) (hid H' O) := fun a o h => by
  have ⟨h1, h2⟩ := hid_some h
  rw [hid_out h1]
  exact e a o (fun z => h1 (z ▸ hr)) h2
theorem Stp.new {r : Addr} {H : Hp} {p : Addr} {o : HO} (h : H p = none) : Stp r H (upd H p o) := fun a u _ e => by
  rw [upd_ne (ne_of_none e h)]; exact e
theorem RowAt.same {B : Bs} {r sa : Addr} {H H' : Hp} {s : S} (e : Same H H') (h : RowAt B r sa H s) : RowAt B r sa H' s := ⟨e _ _ h.1, h.2.elim (fun ⟨o, q⟩ => .inl ⟨o, e _ _ q⟩) .inr⟩
theorem RowAt.new {B : Bs} {r sa : Addr} {H : Hp} {s : S} {p : Addr} {o : HO} (h : RowAt B r sa H s) (n : H p = none) : RowAt B r sa (upd H p o) s := h.same fun a u e => by
  rw [upd_ne (ne_of_none e n)]; exact e

structure Gd (B : Bs) (r sa : Addr) (H0 : Hp) (O0 : List Addr) (W : List Nat) (O : List Addr) (σ : St) (δ : En) (s : S) (H : Hp) : Prop where
  len : σ.length = δ.length
  row : RowAt B r sa H s
  r0 : r ∈ O0
  dom : ∀ p ∈ O, H p ≠ none
  dom0 : ∀ p ∈ O0, H0 p ≠ none
  sub : ∀ p ∈ O0, p ∈ O
  frsh : ∀ p ∈ O, p ∈ O0 ∨ H0 p = none
  stp : Stp r H0 H
  val : ∀ i d, i ∉ W → δ[i]? = some (some d) → ∃ v, σ[i]? = some (some v) ∧ Rep B r (hid H O) v d
  own : ∀ i d, i ∈ W → δ[i]? = some (some d) → ∃ p vs ds, d = .lst ds ∧ σ[i]? = some (some (.ref p)) ∧ p ∈ O ∧ p ∉ O0 ∧ H p = some (.lst vs) ∧ Reps B r (hid H O) vs ds
  inj : ∀ i j p d e, i ∈ W → j ∈ W → i ≠ j → δ[i]? = some (some d) → δ[j]? = some (some e) → σ[i]? = some (some (.ref p)) → σ[j]? = some (some (.ref p)) → False
section
variable {B : Bs} {r sa : Addr} {H0 : Hp} {O0 : List Addr} {W : List Nat} {O : List Addr} {σ : St} {δ : En} {s s' : S} {H H' : Hp}
theorem Gd.rO (g : Gd B r sa H0 O0 W O σ δ s H) : r ∈ O := g.sub r g.r0
/-- behind an expression -/
theorem Gd.step (g : Gd B r sa H0 O0 W O σ δ s H) (e : Stp r H H') (hr : RowAt B r sa H' s') : Gd B r sa H0 O0 W O σ δ s' H' := by
  have sm : Same (hid H O) (hid H' O) := e.hid g.rO
  refine ⟨g.len, hr, g.r0, fun p hp => ?_, g.dom0, g.sub, g.frsh, g.stp.trans e, fun i d hi h => ?_, fun i d hi h => ?_, g.inj⟩
  · by_cases q : p = r
    · rw [q, hr.1]; exact fun z => nomatch z
    · cases h1 : H p with
      | none => exact absurd h1 (g.dom p hp)
      | some o => rw [e p o q h1]; exact fun z => nomatch z
  · obtain ⟨v, h1, h2⟩ := g.val i d hi h
    exact ⟨v, h1, h2.mono sm⟩
  · obtain ⟨p, vs, ds, h1, h2, h3, h4, h5, h6⟩ := g.own i d hi h
    exact ⟨p, vs, ds, h1, h2, h3, h4, e p _ (fun z => h4 (z ▸ g.r0)) h5, h6.mono sm⟩
/-- the slots change -/
theorem Gd.set {i : Nat} {v : V} {d : D} (g : Gd B r sa H0 O0 W O σ δ s H) (hi : i ∉ W) (h : Rep B r (hid H O) v d) : Gd B r sa H0 O0 W O (σ.set i (some v)) (δ.set i (some d)) s H := by
  refine ⟨by rw [List.length_set, List.length_set, g.len], g.row, g.r0, g.dom, g.dom0, g.sub, g.frsh, g.stp, fun j e hj q => ?_, fun j e hj q => ?_, fun j k p e e' hj hk ne q1 q2 q3 q4 => ?_⟩
  · by_cases z : i = j
    · subst z
      rw [List.getElem?_set] at q
      split at q
      · split at q
        · have q : d = e := by simpa using q
          subst q
          refine ⟨v, ?_, h⟩
          rw [List.getElem?_set_self (by rw [g.len]; assumption)]
        · cases q
      · rename_i hn; exact absurd rfl hn
    · rw [List.getElem?_set_ne z] at q ⊢
      exact g.val j e hj q
  · have z : i ≠ j := fun z => hi (z ▸ hj)
    rw [List.getElem?_set_ne z] at q ⊢
    exact g.own j e hj q
  · have z : i ≠ j := fun z => hi (z ▸ hj)
    have z' : i ≠ k := fun z => hi (z ▸ hk)
    rw [List.getElem?_set_ne z] at q1 q3
    rw [List.getElem?_set_ne z'] at q2 q4
    exact g.inj j k p e e' hj hk ne q1 q2 q3 q4
end
end PV

namespace PV
open PySem L2

def XRep (B : Bs) (r : Addr) (H : Hp) (e : Err) (cl : Value) (d : Option Addr) : Prop :=
  cl = .ref (B.xc e.cls) ∧ (e.val = [] ∨ ∃ dx fs vs, d = some dx ∧ H dx = some (.xd fs) ∧ fs.map (·.2) = vs ∧ Reps B r H vs e.val)
def EPost (B : Bs) (E : Option XK) (r sa : Addr) (H : Hp) (O : List Addr) (e : Err) (s' : S) : Prop := match E with
  | none => False
  | some E => ∀ cl d H', Stp r H H' → RowAt B r sa H' s' → XRep B r (hid H' O) e cl d → E cl d H'
theorem EPost.mono {B : Bs} {E : Option XK} {r sa : Addr} {H H1 : Hp} {O : List Addr} {e : Err} {s' : S} (st : Stp r H H1) (h : EPost B E r sa H O e s') : EPost B E r sa H1 O e s' := by
  cases E with
  | none => exact h
  | some E => exact fun cl d H' a b c => h cl d H' (st.trans a) b c
def xk : Option XK → XK | none => E0 | some E => E
abbrev OkV (B : Bs) (r sa : Addr) (H : Hp) (O : List Addr) (Q : VK) : D → S → Prop := fun d s' => ∀ v H', Stp r H H' → RowAt B r sa H' s' → Rep B r (hid H' O) v d → Q v H'
abbrev OkT (B : Bs) (r sa : Addr) (H : Hp) (Q : Bool → Hp → Prop) : Bool → S → Prop := fun b s' => ∀ H', Stp r H H' → RowAt B r sa H' s' → Q b H'
abbrev OkA (B : Bs) (r sa : Addr) (H : Hp) (O : List Addr) (Q : List V → Hp → Prop) : List D → S → Prop := fun d s' => ∀ v H', Stp r H H' → RowAt B r sa H' s' → Reps B r (hid H' O) v d → Q v H'
def RdE (B : Bs) (W : List Nat) (E : Option XK) (t : TE) (f : En → M D) : Prop :=
  ∀ {r sa : Addr} {H0 : Hp} {O0 O : List Addr} {σ : St} {δ : En} {s : S} {H : Hp}, Gd B r sa H0 O0 W O σ δ s H → ∀ Q : VK, (f δ s).post (OkV B r sa H O Q) (EPost B E r sa H O) → t σ H Q
def RdT (B : Bs) (W : List Nat) (E : Option XK) (t : TT) (f : En → M Bool) : Prop :=
  ∀ {r sa : Addr} {H0 : Hp} {O0 O : List Addr} {σ : St} {δ : En} {s : S} {H : Hp}, Gd B r sa H0 O0 W O σ δ s H → ∀ Q : Bool → Hp → Prop, (f δ s).post (OkT B r sa H Q) (EPost B E r sa H O) → t σ H Q
def RdA (B : Bs) (W : List Nat) (E : Option XK) (t : TA) (f : En → M (List D)) : Prop :=
  ∀ {r sa : Addr} {H0 : Hp} {O0 O : List Addr} {σ : St} {δ : En} {s : S} {H : Hp}, Gd B r sa H0 O0 W O σ δ s H → ∀ Q : List V → Hp → Prop, (f δ s).post (OkA B r sa H O Q) (EPost B E r sa H O) → t σ H Q

/-- of a value or none -/
def lift {α : Type} (o : Option α) (s : S) : Out α := match o with | some a => .ok a s | none => .stuck
@[simp] theorem lift_some {α : Type} (a : α) (s : S) : lift (some a) s = .ok a s := rfl
@[simp] theorem lift_none {α : Type} (s : S) : lift (none : Option α) s = .stuck := rfl
theorem post_lift {α : Type} {o : Option α} {s : S} {P : α → S → Prop} {R : Err → S → Prop} (h : (lift o s).post P R) : ∃ a, o = some a ∧ P a s := by
  cases o with
  | none => exact h.elim
  | some a => exact ⟨a, rfl, h⟩

def cVar (i : Nat) : En → M D := fun δ s => lift (δ[i]?.join) s
def cC (d : D) : En → M D := fun _ s => .ok d s
def cOp (g : D → D → Option D) (fa fb : En → M D) : En → M D := fun δ s => (fa δ s).bind fun x s1 => (fb δ s1).bind fun y s2 => lift (g x y) s2
def cUn (g : D → Option D) (fa : En → M D) : En → M D := fun δ s => (fa δ s).bind fun x s1 => lift (g x) s1
def cNil : En → M (List D) := fun _ s => .ok [] s
def cCons (fa : En → M D) (fr : En → M (List D)) : En → M (List D) := fun δ s => (fa δ s).bind fun x s1 => (fr δ s1).bind fun xs s2 => .ok (x :: xs) s2
def cB (g : List D → Option D) (fa : En → M (List D)) : En → M D := fun δ s => (fa δ s).bind fun ds s1 => lift (g ds) s1
def asB : D → Option Bool | .bl b => some b | _ => none
def cTst (f : En → M D) : En → M Bool := fun δ s => (f δ s).bind fun d s1 => lift (asB d) s1
def cAnd (fa fb : En → M Bool) : En → M Bool := fun δ s => (fa δ s).bind fun b s1 => if b then fb δ s1 else .ok false s1
def cOr (fa fb : En → M Bool) : En → M Bool := fun δ s => (fa δ s).bind fun b s1 => if b then .ok true s1 else fb δ s1
def cNot (fa : En → M Bool) : En → M Bool := fun δ s => (fa δ s).bind fun b s1 => .ok (!b) s1
def cAndV (fa fb : En → M D) : En → M D := fun δ s => (fa δ s).bind fun d s1 => (lift (asB d) s1).bind fun b s2 => if b then fb δ s2 else .ok (.bl false) s2
def cOrV (fa fb : En → M D) : En → M D := fun δ s => (fa δ s).bind fun d s1 => (lift (asB d) s1).bind fun b s2 => if b then .ok (.bl true) s2 else fb δ s2
def cNotV (fa : En → M D) : En → M D := fun δ s => (fa δ s).bind fun d s1 => (lift (asB d) s1).bind fun b s2 => .ok (.bl (!b)) s2
def cIf (c : En → M Bool) (fa fb : En → M D) : En → M D := fun δ s => (c δ s).bind fun b s1 => if b then fa δ s1 else fb δ s1
def cTup (fa : En → M (List D)) : En → M D := fun δ s => (fa δ s).bind fun ds s1 => if ds.length ≤ 100000 then .ok (.tup ds) s1 else .stuck
def cLst (fa : En → M (List D)) : En → M D := fun δ s => (fa δ s).bind fun ds s1 => if ds.length ≤ 100000 then .ok (.lst ds) s1 else .stuck
def scal : D → Bool | .non => true | .bl _ => true | .int _ => true | .str _ => true | _ => false
def calmO {α : Type} (p : α → Bool) : Out α → Out α | .ok a s => if p a then .ok a s else .stuck | _ => .stuck
theorem post_calm {α : Type} {p : α → Bool} {o : Out α} {P : α → S → Prop} {R R' : Err → S → Prop} (h : (calmO p o).post P R) : o.post (fun a s => p a = true ∧ P a s) R' := by
  cases o with
  | stuck => exact h
  | err e s => exact h.elim
  | ok a s =>
    have h : (if p a then Out.ok a s else Out.stuck).post P R := h
    cases q : p a with
    | true => rw [q] at h; exact ⟨q, h⟩
    | false => rw [q] at h; exact h.elim
def cScal (f : En → M D) : En → M D := fun δ s => calmO scal (f δ s)
def cPk (f : En → M Bool) : En → M Bool := fun δ s => calmO (fun _ => true) (f δ s)
def cChain (g g' : D → D → Option D) (fa fb fc : En → M D) : En → M D := fun δ s => (fa δ s).bind fun x s1 => (fb δ s1).bind fun y s2 => (lift (g x y) s2).bind fun z s3 => (lift (asB z) s3).bind fun b s4 => if b then (fc δ s4).bind fun w s5 => lift (g' y w) s5 else .ok (.bl false) s4

/-- operations by values -/
def OpS (B : Bs) (r2 : R2) (g : D → D → Option D) : Prop := ∀ (r : Addr) (O : List Addr) (H : Hp) (x y : V) (dx dy d : D) (Q : VK), (∀ p ∈ O, H p ≠ none) → Rep B r (hid H O) x dx → Rep B r (hid H O) y dy → g dx dy = some d →
  (∀ v H', Same H H' → Rep B r (hid H' O) v d → Q v H') → r2 x y H Q
def UnS (B : Bs) (r1 : V → Hp → VK → Prop) (g : D → Option D) : Prop := ∀ (r : Addr) (O : List Addr) (H : Hp) (x : V) (dx d : D) (Q : VK), (∀ p ∈ O, H p ≠ none) → Rep B r (hid H O) x dx → g dx = some d →
  (∀ v H', Same H H' → Rep B r (hid H' O) v d → Q v H') → r1 x H Q
def CaS (B : Bs) (rc : List V → Hp → VK → Prop) (g : List D → Option D) : Prop := ∀ (r : Addr) (O : List Addr) (H : Hp) (xs : List V) (ds : List D) (d : D) (Q : VK), (∀ p ∈ O, H p ≠ none) → Reps B r (hid H O) xs ds → g ds = some d →
  (∀ v H', Same H H' → Rep B r (hid H' O) v d → Q v H') → rc xs H Q

section
variable {B : Bs} {W : List Nat} {E : Option XK} {ta tb tc te : TE} {tA tB' : TT} {tr : TA} {fa fb fc : En → M D} {ba bb : En → M Bool} {fr : En → M (List D)} {r2 r2' : R2} {g g' : D → D → Option D}

theorem rd_var {i : Nat} (hi : decide (i ∉ W) = true := by rfl) : RdE B W E (tVar i) (cVar i) := by
  intro r sa H0 O0 O σ δ s H gd Q h
  obtain ⟨d, e, h⟩ := post_lift h
  obtain ⟨v, h1, h2⟩ := gd.val i d (of_decide_eq_true hi) (by
    cases q : δ[i]? with
    | none => rw [q] at e; cases e
    | some o => rw [q] at e; cases o with
      | none => cases e
      | some d' => cases (Option.some.inj e : d' = d); rfl)
  exact ⟨v, h1, h v H (Stp.refl H) gd.row h2⟩
theorem rd_c {v : V} {d : D} (hv : ∀ r H, Rep B r H v d) : RdE B W E (tC v) (cC d) := by
  intro r sa H0 O0 O σ δ s H gd Q h
  exact h v H (Stp.refl H) gd.row (hv r _)
theorem rd_int {i : Int} : RdE B W E (tC (.int i)) (cC (.int i)) := rd_c fun _ _ => .int i
theorem rd_bl {b : Bool} : RdE B W E (tC (.bl b)) (cC (.bl b)) := rd_c fun _ _ => .bl b
theorem rd_non : RdE B W E (tC .non) (cC .non) := rd_c fun _ _ => .non
theorem rd_str {x : Str} : RdE B W E (tC (.str x)) (cC (.str x)) := rd_c fun _ _ => .str x

theorem rd_op (ho : OpS B r2 g) (ha : RdE B W E ta fa) (hb : RdE B W E tb fb) : RdE B W E (tOp r2 ta tb) (cOp g fa fb) := by
  intro r sa H0 O0 O σ δ s H gd Q h
  refine ha gd _ (post_mono (post_bind h) (fun x s1 hx v H1 st ra rp => ?_) (fun _ _ z => z))
  refine hb (gd.step st ra) _ (post_mono (post_bind hx) (fun y s2 hy w H2 st2 ra2 rp2 => ?_) (fun _ _ z => z.mono st))
  obtain ⟨d, e, hd⟩ := post_lift hy
  have gd2 := (gd.step st ra).step st2 ra2
  refine ho r O H2 v w x y d Q gd2.dom (rp.mono (st2.hid gd.rO)) rp2 e fun u H3 sm rp3 => hd u H3 ((st.trans st2).trans (Stp.of sm)) (ra2.same sm) rp3
theorem rd_un {r1 : V → Hp → VK → Prop} {g : D → Option D} (ho : UnS B r1 g) (ha : RdE B W E ta fa) : RdE B W E (tUn r1 ta) (cUn g fa) := by
  intro r sa H0 O0 O σ δ s H gd Q h
  refine ha gd _ (post_mono (post_bind h) (fun x s1 hx v H1 st ra rp => ?_) (fun _ _ z => z))
  obtain ⟨d, e, hd⟩ := post_lift hx
  refine ho r O H1 v x d Q (gd.step st ra).dom rp e fun u H3 sm rp3 => hd u H3 (st.trans (Stp.of sm)) (ra.same sm) rp3
theorem rd_nil : RdA B W E tNil cNil := by
  intro r sa H0 O0 O σ δ s H gd Q h
  exact h [] H (Stp.refl H) gd.row .nil
theorem rd_cons (ha : RdE B W E ta fa) (hb : RdA B W E tr fr) : RdA B W E (tCons ta tr) (cCons fa fr) := by
  intro r sa H0 O0 O σ δ s H gd Q h
  refine ha gd _ (post_mono (post_bind h) (fun x s1 hx v H1 st ra rp => ?_) (fun _ _ z => z))
  refine hb (gd.step st ra) _ (post_mono (post_bind hx) (fun y s2 hy w H2 st2 ra2 rp2 => ?_) (fun _ _ z => z.mono st))
  exact hy _ _ (st.trans st2) ra2 (.cons (rp.mono (st2.hid gd.rO)) rp2)
theorem rd_b {rc : List V → Hp → VK → Prop} {g : List D → Option D} (ho : CaS B rc g) (ha : RdA B W E tr fr) : RdE B W E (tCB rc tr) (cB g fr) := by
  intro r sa H0 O0 O σ δ s H gd Q h
  refine ha gd _ (post_mono (post_bind h) (fun x s1 hx v H1 st ra rp => ?_) (fun _ _ z => z))
  obtain ⟨d, e, hd⟩ := post_lift hx
  refine ho r O H1 v x d Q (gd.step st ra).dom rp e fun u H3 sm rp3 => hd u H3 (st.trans (Stp.of sm)) (ra.same sm) rp3
theorem rep_bl {r : Addr} {H : Hp} {v : V} {d : D} {b : Bool} (h : Rep B r H v d) (e : asB d = some b) : v = .bl b ∧ d = .bl b := by
  cases d <;> simp [asB] at e
  subst e
  cases h; exact ⟨rfl, rfl⟩
theorem rt_b (ha : RdE B W E ta fa) : RdT B W E (tB ta) (cTst fa) := by
  intro r sa H0 O0 O σ δ s H gd Q h
  refine ha gd _ (post_mono (post_bind h) (fun x s1 hx v H1 st ra rp => ?_) (fun _ _ z => z))
  obtain ⟨b, e, hd⟩ := post_lift hx
  exact ⟨b, (rep_bl rp e).1, hd H1 st ra⟩
theorem rt_and (ha : RdT B W E tA ba) (hb : RdT B W E tB' bb) : RdT B W E (tAnd tA tB') (cAnd ba bb) := by
  intro r sa H0 O0 O σ δ s H gd Q h
  refine ha gd _ (post_mono (post_bind h) (fun b s1 hx H1 st ra => ?_) (fun _ _ z => z))
  cases b with
  | true => exact hb (gd.step st ra) Q (post_mono hx (fun c s2 q H2 st2 ra2 => q H2 (st.trans st2) ra2) (fun _ _ z => z.mono st))
  | false => exact hx H1 st ra
theorem rt_or (ha : RdT B W E tA ba) (hb : RdT B W E tB' bb) : RdT B W E (tOr tA tB') (cOr ba bb) := by
  intro r sa H0 O0 O σ δ s H gd Q h
  refine ha gd _ (post_mono (post_bind h) (fun b s1 hx H1 st ra => ?_) (fun _ _ z => z))
  cases b with
  | false => exact hb (gd.step st ra) Q (post_mono hx (fun c s2 q H2 st2 ra2 => q H2 (st.trans st2) ra2) (fun _ _ z => z.mono st))
  | true => exact hx H1 st ra
theorem rt_not (ha : RdT B W E tA ba) : RdT B W E (tNot tA) (cNot ba) := by
  intro r sa H0 O0 O σ δ s H gd Q h
  refine ha gd _ (post_mono (post_bind h) (fun b s1 hx H1 st ra => ?_) (fun _ _ z => z))
  exact hx H1 st ra
theorem rd_andV (ha : RdE B W E ta fa) (hb : RdE B W E tb fb) : RdE B W E (tAndV ta tb) (cAndV fa fb) := by
  intro r sa H0 O0 O σ δ s H gd Q h
  refine ha gd _ (post_mono (post_bind h) (fun x s1 hx v H1 st ra rp => ?_) (fun _ _ z => z))
  obtain ⟨b, e, hd⟩ := post_lift (post_bind hx)
  refine ⟨b, (rep_bl rp e).1, ?_⟩
  cases b with
  | true => exact hb (gd.step st ra) Q (post_mono hd (fun c s2 q w H2 st2 ra2 => q w H2 (st.trans st2) ra2) (fun _ _ z => z.mono st))
  | false => exact hd _ H1 st ra (.bl false)
theorem rd_orV (ha : RdE B W E ta fa) (hb : RdE B W E tb fb) : RdE B W E (tOrV ta tb) (cOrV fa fb) := by
  intro r sa H0 O0 O σ δ s H gd Q h
  refine ha gd _ (post_mono (post_bind h) (fun x s1 hx v H1 st ra rp => ?_) (fun _ _ z => z))
  obtain ⟨b, e, hd⟩ := post_lift (post_bind hx)
  refine ⟨b, (rep_bl rp e).1, ?_⟩
  cases b with
  | false => exact hb (gd.step st ra) Q (post_mono hd (fun c s2 q w H2 st2 ra2 => q w H2 (st.trans st2) ra2) (fun _ _ z => z.mono st))
  | true => exact hd _ H1 st ra (.bl true)
theorem rd_notV (ha : RdE B W E ta fa) : RdE B W E (tNotV ta) (cNotV fa) := by
  intro r sa H0 O0 O σ δ s H gd Q h
  refine ha gd _ (post_mono (post_bind h) (fun x s1 hx v H1 st ra rp => ?_) (fun _ _ z => z))
  obtain ⟨b, e, hd⟩ := post_lift (post_bind hx)
  exact ⟨b, (rep_bl rp e).1, hd _ H1 st ra (.bl _)⟩
theorem rd_if (hc : RdT B W E tA ba) (ha : RdE B W E ta fa) (hb : RdE B W E tb fb) : RdE B W E (tIf tA ta tb) (cIf ba fa fb) := by
  intro r sa H0 O0 O σ δ s H gd Q h
  refine hc gd _ (post_mono (post_bind h) (fun b s1 hx H1 st ra => ?_) (fun _ _ z => z))
  cases b with
  | true => exact ha (gd.step st ra) Q (post_mono hx (fun c s2 q w H2 st2 ra2 => q w H2 (st.trans st2) ra2) (fun _ _ z => z.mono st))
  | false => exact hb (gd.step st ra) Q (post_mono hx (fun c s2 q w H2 st2 ra2 => q w H2 (st.trans st2) ra2) (fun _ _ z => z.mono st))
/-- a new object is seen -/
theorem same_new {H : Hp} {p : Addr} {o : HO} (h : H p = none) : Same H (upd H p o) := fun b x e => by
  rw [upd_ne (ne_of_none e h)]; exact e
theorem hid_new {H : Hp} {O : List Addr} {p : Addr} {o : HO} (h : H p = none) (hd : ∀ q ∈ O, H q ≠ none) : Same (hid H O) (hid (upd H p o) O) ∧ hid (upd H p o) O p = some o := by
  have hp : p ∉ O := fun z => hd p z h
  refine ⟨fun a u e => ?_, by rw [hid_out hp, upd_same]⟩
  have ⟨h1, h2⟩ := hid_some e
  rw [hid_out h1, upd_ne (ne_of_none h2 h)]; exact h2
theorem hid_same {H H' : Hp} {O : List Addr} (e : Same H H') : Same (hid H O) (hid H' O) := fun a o q => by
  have ⟨h1, h2⟩ := hid_some q
  rw [hid_out h1]; exact e a o h2
theorem rd_tup (ha : RdA B W E tr fr) : RdE B W E (tTup tr) (cTup fr) := by
  intro r sa H0 O0 O σ δ s H gd Q h
  refine ha gd _ (post_mono (post_bind h) (fun x s1 hx v H1 st ra rp => ?_) (fun _ _ z => z))
  split at hx
  · rename_i hl
    refine ⟨Evl.sz_of (by rw [rp.length]; exact hl), fun p hp => ?_⟩
    have ⟨a1, a2⟩ := hid_new (O := O) (o := .tup v) hp (gd.step st ra).dom
    exact hx _ _ (st.trans (Stp.new hp)) (ra.new hp) (.tup (SqT.of a2) (rp.mono a1))
  · exact hx.elim
theorem rd_lst (ha : RdA B W E tr fr) : RdE B W E (tLst tr) (cLst fr) := by
  intro r sa H0 O0 O σ δ s H gd Q h
  refine ha gd _ (post_mono (post_bind h) (fun x s1 hx v H1 st ra rp => ?_) (fun _ _ z => z))
  split at hx
  · rename_i hl
    refine ⟨Evl.sz_of (by rw [rp.length]; exact hl), fun p hp => ?_⟩
    have ⟨a1, a2⟩ := hid_new (O := O) (o := .lst v) hp (gd.step st ra).dom
    exact hx _ _ (st.trans (Stp.new hp)) (ra.new hp) (.lst a2 (rp.mono a1))
  · exact hx.elim
theorem rd_chain (ho : OpS B r2 g) (ho' : OpS B r2' g') (ha : RdE B W E ta fa) (hb : RdE B W E tb fb) (hc : RdE B W E tc fc) : RdE B W E (tChain r2 r2' ta tb tc) (cChain g g' fa fb fc) := by
  intro r sa H0 O0 O σ δ s H gd Q h
  refine ha gd _ (post_mono (post_bind h) (fun x s1 hx v H1 st ra rp => ?_) (fun _ _ z => z))
  refine hb (gd.step st ra) _ (post_mono (post_bind hx) (fun y s2 hy w H2 st2 ra2 rp2 => ?_) (fun _ _ z => z.mono st))
  obtain ⟨d, e, hd⟩ := post_lift (post_bind hy)
  have gd2 := (gd.step st ra).step st2 ra2
  refine ho r O H2 v w x y d _ gd2.dom (rp.mono (st2.hid gd.rO)) rp2 e fun u H3 sm rp3 => ?_
  obtain ⟨b, e2, hd⟩ := post_lift (post_bind hd)
  refine ⟨b, (rep_bl rp3 e2).1, ?_⟩
  have st3 : Stp r H H3 := (st.trans st2).trans (Stp.of sm)
  have gd3 := gd.step st3 (ra2.same sm)
  cases b with
  | false => exact hd _ H3 st3 gd3.row (.bl false)
  | true =>
    refine hc gd3 _ (post_mono (post_bind hd) (fun z s4 hz q H4 st4 ra4 rp4 => ?_) (fun _ _ z => z.mono st3))
    obtain ⟨d', e', hd'⟩ := post_lift hz
    have gd4 := gd3.step st4 ra4
    refine ho' r O H4 w q y z d' Q gd4.dom (rp2.mono ((hid_same sm).trans (st4.hid gd.rO))) rp4 e' fun u H5 sm5 rp5 => hd' u H5 (st3.trans (st4.trans (Stp.of sm5))) (ra4.same sm5) rp5
/-- a slot that is owned is looked at: what comes out is a scalar -/
theorem Gd.peek {r sa : Addr} {H0 : Hp} {O0 O : List Addr} {σ : St} {δ : En} {s : S} {H : Hp} {i : Nat} (gd : Gd B r sa H0 O0 W O σ δ s H) : ∃ O', Gd B r sa H0 O0 (W.filter (· != i)) O' σ δ s H ∧ (∀ a ∈ O', a ∈ O) := by
  by_cases hi : i ∈ W
  · cases e : δ[i]?.join with
    | none =>
      refine ⟨O, ⟨gd.len, gd.row, gd.r0, gd.dom, gd.dom0, gd.sub, gd.frsh, gd.stp, fun j d hj q => ?_, fun j d hj q => gd.own j d (List.mem_filter.mp hj).1 q, fun j k p d e' hj hk => gd.inj j k p d e' (List.mem_filter.mp hj).1 (List.mem_filter.mp hk).1⟩, fun _ h => h⟩
      by_cases hjW : j ∈ W
      · have : j = i := by
          by_cases z : j = i
          · exact z
          · exact absurd (List.mem_filter.mpr ⟨hjW, by simp [z]⟩) hj
        subst this
        rw [q] at e; cases e
      · exact gd.val j d hjW q
    | some d0 =>
      have e0 : δ[i]? = some (some d0) := by
        cases q : δ[i]? with
        | none => rw [q] at e; cases e
        | some o => rw [q] at e; cases o with
          | none => cases e
          | some d' => cases (Option.some.inj e : d' = d0); rfl
      obtain ⟨p, vs, ds, h1, h2, h3, h4, h5, h6⟩ := gd.own i d0 hi e0
      have hsub : ∀ a ∈ O.filter (· != p), a ∈ O := fun a h => (List.mem_filter.mp h).1
      have sm : Same (hid H O) (hid H (O.filter (· != p))) := hid_sub hsub
      have pn : p ∉ O.filter (· != p) := fun z => by have := (List.mem_filter.mp z).2; simp at this
      refine ⟨O.filter (· != p), ⟨gd.len, gd.row, gd.r0, fun q hq => gd.dom q (hsub q hq), gd.dom0, fun q hq => List.mem_filter.mpr ⟨gd.sub q hq, ?_⟩, fun q hq => gd.frsh q (hsub q hq), gd.stp, fun j d hj q => ?_, fun j d hj q => ?_, fun j k p d e' hj hk => gd.inj j k p d e' (List.mem_filter.mp hj).1 (List.mem_filter.mp hk).1⟩, hsub⟩
      · have : q ≠ p := fun z => h4 (z ▸ hq)
        simp [this]
      · by_cases hjW : j ∈ W
        · have : j = i := by
            by_cases z : j = i
            · exact z
            · exact absurd (List.mem_filter.mpr ⟨hjW, by simp [z]⟩) hj
          subst this
          rw [e0] at q
          cases q
          subst h1
          exact ⟨_, h2, .lst (by rw [hid_out pn]; exact h5) (h6.mono sm)⟩
        · obtain ⟨v, q1, q2⟩ := gd.val j d hjW q
          exact ⟨v, q1, q2.mono sm⟩
      · obtain ⟨p', vs', ds', q1, q2, q3, q4, q5, q6⟩ := gd.own j d (List.mem_filter.mp hj).1 q
        have hne : p' ≠ p := fun z => by
          have nj : i ≠ j := fun z => by have := (List.mem_filter.mp hj).2; simp [z] at this
          exact gd.inj i j p d0 d hi (List.mem_filter.mp hj).1 nj e0 q h2 (z ▸ q2)
        exact ⟨p', vs', ds', q1, q2, List.mem_filter.mpr ⟨q3, by simp [hne]⟩, q4, q5, q6.mono sm⟩
  · refine ⟨O, ?_, fun _ h => h⟩
    have e : W.filter (· != i) = W := by
      refine List.filter_eq_self.mpr fun a ha => ?_
      have : a ≠ i := fun z => hi (z ▸ ha)
      simp [this]
    rw [e]; exact gd
theorem XRep.mono {r : Addr} {H H' : Hp} {e : Err} {cl : Value} {d : Option Addr} (sm : Same H H') (h : XRep B r H e cl d) : XRep B r H' e cl d := by
  refine ⟨h.1, ?_⟩
  rcases h.2 with h | ⟨dx, fs, vs, h1, h2, h3, h4⟩
  · exact .inl h
  · exact .inr ⟨dx, fs, vs, h1, sm _ _ h2, h3, h4.mono sm⟩
theorem rep_scal {r : Addr} {H H' : Hp} {v : V} {d : D} (h : Rep B r H v d) (hs : scal d = true) : Rep B r H' v d := by
  cases h <;> first | (cases hs; done) | (constructor; done)
theorem rd_peek {i : Nat} {W' : List Nat} (hW : W.filter (· != i) = W') (h : RdE B W' E te fa) : RdE B W E te (cScal fa) := by
  intro r sa H0 O0 O σ δ s H gd Q hp
  obtain ⟨O', gd', sub⟩ := gd.peek (i := i)
  rw [hW] at gd'
  exact h gd' _ (post_mono (post_calm (R' := EPost B E r sa H O') hp) (fun x s1 hx v H1 st ra rp => hx.2 v H1 st ra (rep_scal rp hx.1)) (fun _ _ z => z))
theorem rt_peek {i : Nat} {W' : List Nat} (hW : W.filter (· != i) = W') (h : RdT B W' E tA ba) : RdT B W E tA (cPk ba) := by
  intro r sa H0 O0 O σ δ s H gd Q hp
  obtain ⟨O', gd', sub⟩ := gd.peek (i := i)
  rw [hW] at gd'
  exact h gd' _ (post_mono (post_calm (R' := EPost B E r sa H O') hp) (fun x s1 hx H1 st ra => hx.2 H1 st ra) (fun _ _ z => z))
end
end PV

namespace PV
open PySem L2
section
variable {B : Bs} {r : Addr} {H : Hp} {v : V}
theorem Rep.inv_int {i : Int} (h : Rep B r H v (.int i)) : v = .int i := by cases h; rfl
theorem Rep.inv_bl {b : Bool} (h : Rep B r H v (.bl b)) : v = .bl b := by cases h; rfl
theorem Rep.inv_str {x : Str} (h : Rep B r H v (.str x)) : v = .str x := by cases h; rfl
theorem Rep.inv_non (h : Rep B r H v .non) : v = .non := by cases h; rfl
theorem Rep.inv_tup {ds : List D} (h : Rep B r H v (.tup ds)) : ∃ a vs, v = .ref a ∧ SqT B.K H a vs ∧ Reps B r H vs ds := by cases h with | tup h hs => exact ⟨_, _, rfl, h, hs⟩
theorem Rep.inv_lst {ds : List D} (h : Rep B r H v (.lst ds)) : ∃ a vs, v = .ref a ∧ H a = some (.lst vs) ∧ Reps B r H vs ds := by cases h with | lst h hs => exact ⟨_, _, rfl, h, hs⟩
theorem sqT_le {K : PySem.W.Frag} {H : Hp} {O : List Addr} {a : Addr} {xs : List V} (h : SqT K (hid H O) a xs) : SqT K H a xs := same_t hid_le h
theorem new_tup {H : Hp} {O : List Addr} {p : Addr} {vs : List V} {ds : List D} (hp : H p = none) (hd : ∀ q ∈ O, H q ≠ none) (h : Reps B r (hid H O) vs ds) : Rep B r (hid (upd H p (.tup vs)) O) (.ref p) (.tup ds) := by
  have ⟨a1, a2⟩ := hid_new (O := O) (o := .tup vs) hp hd
  exact .tup (SqT.of a2) (h.mono a1)
theorem new_lst {H : Hp} {O : List Addr} {p : Addr} {vs : List V} {ds : List D} (hp : H p = none) (hd : ∀ q ∈ O, H q ≠ none) (h : Reps B r (hid H O) vs ds) : Rep B r (hid (upd H p (.lst vs)) O) (.ref p) (.lst ds) := by
  have ⟨a1, a2⟩ := hid_new (O := O) (o := .lst vs) hp hd
  exact .lst a2 (h.mono a1)
end

/-! ### arithmetic -/
def gAdd : D → D → Option D
  | .int i, .int j => some (.int (i + j))
  | .lst xs, .lst ys => if xs.length + ys.length ≤ 100000 then some (.lst (xs ++ ys)) else none
  | .tup xs, .tup ys => if xs.length + ys.length ≤ 100000 then some (.tup (xs ++ ys)) else none
  | .str x, .str y => if x.length + y.length ≤ 100000 then some (.str (x ++ y)) else none
  | _, _ => none
def rAddS' : R2 := fun x y H Q => ∃ i j, x = .str i ∧ y = .str j ∧ i.length + j.length ≤ sizeLine ∧ Q (.str (i ++ j)) H
def rAddU (K : PySem.W.Frag) : R2 := fun x y H Q => rI0 (fun i j => .int (i + j)) x y H Q ∨ (rCat x y H Q ∨ (rCatA K x y H Q ∨ rAddS' x y H Q))
theorem op_addU {X : Cx} : OpR X (binaryOp .Add) (rAddU X.K) := OpR.or op_add (OpR.or op_cat (OpR.or op_catA op_add_str))
theorem os_add {B : Bs} : OpS B (rAddU B.K) gAdd := by
  intro r O H x y dx dy d Q hd rx ry e q
  unfold gAdd at e
  split at e
  · cases e; cases rx; cases ry
    exact .inl ⟨_, _, rfl, rfl, q _ H (Same.refl H) (.int _)⟩
  · split at e
    · rename_i hl
      cases e
      obtain ⟨a, vs, rfl, ha, hs⟩ := rx.inv_lst
      obtain ⟨b, ws, rfl, hb, ht⟩ := ry.inv_lst
      refine .inr (.inl ⟨a, b, vs, ws, rfl, rfl, hid_le _ _ ha, hid_le _ _ hb, Evl.sz_of (by rw [hs.length, ht.length]; exact hl), fun p hp => ?_⟩)
      exact q _ _ (same_new hp) (new_lst hp hd (hs.append ht))
    · cases e
  · split at e
    · rename_i hl
      cases e
      obtain ⟨a, vs, rfl, ha, hs⟩ := rx.inv_tup
      obtain ⟨b, ws, rfl, hb, ht⟩ := ry.inv_tup
      refine .inr (.inr (.inl ⟨a, b, vs, ws, rfl, rfl, sqT_le ha, sqT_le hb, Evl.sz_of (by rw [hs.length, ht.length]; exact hl), fun e => ?_, fun _ e => ?_, fun _ _ p hp => ?_⟩))
      · subst e
        cases hs
        exact q _ H (Same.refl H) ry
      · subst e
        cases ht
        rw [List.append_nil] at q
        exact q _ H (Same.refl H) rx
      · exact q _ _ (same_new hp) (new_tup hp hd (hs.append ht))
    · cases e
  · split at e
    · rename_i hl
      cases e; cases rx; cases ry
      exact .inr (.inr (.inr ⟨_, _, rfl, rfl, Evl.sz_of hl, q _ H (Same.refl H) (.str _)⟩))
    · cases e
  · cases e
def gI (f : Int → Int → D) : D → D → Option D
  | .int i, .int j => some (f i j)
  | _, _ => none
def gIc (c : Int → Int → Bool) (f : Int → Int → D) : D → D → Option D
  | .int i, .int j => if c i j then some (f i j) else none
  | _, _ => none
theorem os_i0 {B : Bs} {g : Int → Int → V} {f : Int → Int → D} (h : ∀ i j r H, Rep B r H (g i j) (f i j)) : OpS B (rI0 g) (gI f) := by
  intro r O H x y dx dy d Q hd rx ry e q
  unfold gI at e
  split at e
  · cases e; cases rx; cases ry
    exact ⟨_, _, rfl, rfl, q _ H (Same.refl H) (h _ _ _ _)⟩
  · cases e
theorem os_ic {B : Bs} {C : Int → Int → Prop} {c : Int → Int → Bool} {g : Int → Int → V} {f : Int → Int → D} (hc : ∀ i j, c i j = true → C i j) (h : ∀ i j r H, Rep B r H (g i j) (f i j)) : OpS B (rI C g) (gIc c f) := by
  intro r O H x y dx dy d Q hd rx ry e q
  unfold gIc at e
  split at e
  · split at e
    · rename_i z
      cases e; cases rx; cases ry
      exact ⟨_, _, rfl, rfl, hc _ _ z, q _ H (Same.refl H) (h _ _ _ _)⟩
    · cases e
  · cases e
def gDif := gI fun i j => .int (i - j)
theorem os_dif {B : Bs} : OpS B (rI0 fun i j => .int (i - j)) gDif := os_i0 fun _ _ _ _ => .int _
def okMul (i j : Int) : Bool := decide (i.natAbs.log2 + j.natAbs.log2 < 1000000)
def okDiv (i j : Int) : Bool := decide (0 < j ∧ j.natAbs.log2 < 9000)
def okMod (i j : Int) : Bool := decide (0 < j)
def okPow (i j : Int) : Bool := decide (0 ≤ j ∧ j ≤ 1000000 ∧ i.natAbs < 2 ^ 64)
def gFdiv := gIc okDiv fun i j => .int (i / j)
theorem os_fdiv {B : Bs} : OpS B (rI CDivW fun i j => .int (i / j)) gFdiv := os_ic (fun i j h => show 0 < j ∧ j.natAbs.log2 < 9000 from of_decide_eq_true h) fun _ _ _ _ => .int _
def gMod := gIc okMod fun i j => .int (i % j)
theorem os_mod {B : Bs} : OpS B (rI (fun _ j => 0 < j) fun i j => .int (i % j)) gMod := os_ic (fun _ _ h => of_decide_eq_true h) fun _ _ _ _ => .int _
def gPow := gIc okPow fun i j => .int (i ^ j.toNat)
theorem os_pow {B : Bs} : OpS B (rI CPow fun i j => .int (i ^ j.toNat)) gPow := os_ic (fun i j h => show 0 ≤ j ∧ j ≤ 1000000 ∧ i.natAbs < 2 ^ 64 from of_decide_eq_true h) fun _ _ _ _ => .int _
def gLt := gI fun i j => .bl (decide (i < j))
theorem os_lt {B : Bs} : OpS B (rI0 fun i j => .bl (decide (i < j))) gLt := os_i0 fun _ _ _ _ => .bl _
def gLe := gI fun i j => .bl (decide (i ≤ j))
theorem os_le {B : Bs} : OpS B (rI0 fun i j => .bl (decide (i ≤ j))) gLe := os_i0 fun _ _ _ _ => .bl _
def gGt := gI fun i j => .bl (decide (j < i))
theorem os_gt {B : Bs} : OpS B (rI0 fun i j => .bl (decide (j < i))) gGt := os_i0 fun _ _ _ _ => .bl _
def gGe := gI fun i j => .bl (decide (j ≤ i))
theorem os_ge {B : Bs} : OpS B (rI0 fun i j => .bl (decide (j ≤ i))) gGe := os_i0 fun _ _ _ _ => .bl _
/-- * : two ints, a list and an int, a tuple and an int above 1 -/
def gMul : D → D → Option D
  | .int i, .int j => if okMul i j then some (.int (i * j)) else none
  | .lst xs, .int k => if k ≤ 100000 ∧ -100000 ≤ k ∧ xs.length * k.toNat ≤ 100000 then some (.lst (List.replicate k.toNat xs).flatten) else none
  | .tup xs, .int k => if xs ≠ [] ∧ 2 ≤ k ∧ k ≤ 1000 ∧ xs.length ≤ 1000 then some (.tup (List.replicate k.toNat xs).flatten) else none
  | _, _ => none
instance {α : Type} (xs : List α) : Decidable (xs ≠ []) := match xs with | [] => isFalse (fun h => h rfl) | _ :: _ => isTrue (by simp)
def rMulU (K : PySem.W.Frag) : R2 := fun x y H Q => rI CMulW (fun i j => .int (i * j)) x y H Q ∨ (rRep x y H Q ∨ rRepT K x y H Q)
theorem op_mulU {X : Cx} : OpR X (binaryOp .Mult) (rMulU X.K) := OpR.or op_mulW (OpR.or op_rep op_repT)
theorem os_mul {B : Bs} : OpS B (rMulU B.K) gMul := by
  intro r O H x y dx dy d Q hd rx ry e q
  unfold gMul at e
  split at e
  · split at e
    · rename_i z
      cases e; cases rx; cases ry
      exact .inl ⟨_, _, rfl, rfl, (show _ + _ < _ from of_decide_eq_true z), q _ H (Same.refl H) (.int _)⟩
    · cases e
  · split at e
    · rename_i hl
      cases e; cases ry
      obtain ⟨a, vs, rfl, ha, hs⟩ := rx.inv_lst
      refine .inr (.inl ⟨a, _, vs, rfl, rfl, hid_le _ _ ha, by omega, by omega, Evl.sz_of (by rw [hs.length]; exact hl.2.2), fun p hp => ?_⟩)
      exact q _ _ (same_new hp) (new_lst hp hd (hs.flat _))
    · cases e
  · split at e
    · rename_i hl
      cases e; cases ry
      obtain ⟨a, vs, rfl, ha, hs⟩ := rx.inv_tup
      refine .inr (.inr ⟨a, _, vs, rfl, rfl, sqT_le ha, ?_, hl.2.1, hl.2.2.1, by rw [hs.length]; exact hl.2.2.2, fun p hp => ?_⟩)
      · intro z; subst z; cases hs; exact hl.1 rfl
      · exact q _ _ (same_new hp) (new_tup hp hd (hs.flat _))
    · cases e
  · cases e

/-! ### is None, ==, in -/
def isNonB : D → Bool | .non => true | _ => false
def gIsN : D → D → Option D := fun x y => if isNonB y then some (.bl (isNonB x)) else none
def gNotN : D → D → Option D := fun x y => if isNonB y then some (.bl (!isNonB x)) else none
theorem rep_isNon {B : Bs} {r : Addr} {H : Hp} {v : V} {d : D} (h : Rep B r H v d) : decide (v = .non) = isNonB d := by cases h <;> rfl
theorem os_isN {B : Bs} : OpS B (fun x y H Q => y = .non ∧ Q (.bl (decide (x = .non))) H) gIsN := by
  intro r O H x y dx dy d Q hd rx ry e q
  unfold gIsN at e
  split at e
  · rename_i h
    cases e
    have : dy = .non := by cases dy <;> first | rfl | (cases h)
    subst this; cases ry
    exact ⟨rfl, q _ H (Same.refl H) (by rw [rep_isNon rx]; exact .bl _)⟩
  · cases e
theorem os_notN {B : Bs} : OpS B (fun x y H Q => y = .non ∧ Q (.bl (!decide (x = .non))) H) gNotN := by
  intro r O H x y dx dy d Q hd rx ry e q
  unfold gNotN at e
  split at e
  · rename_i h
    cases e
    have : dy = .non := by cases dy <;> first | rfl | (cases h)
    subst this; cases ry
    exact ⟨rfl, q _ H (Same.refl H) (by rw [rep_isNon rx]; exact .bl _)⟩
  · cases e
mutual
/-- plain data of depth at most n -/
def toPy : D → Option PyData
  | .non => some .none
  | .bl b => some (.bool b)
  | .int i => some (.int i)
  | .str x => some (.str x)
  | .tup ds => (toPys ds).map .tuple
  | .lst ds => (toPys ds).map .list
  | _ => none
def toPys : List D → Option (List PyData)
  | [] => some []
  | d :: ds => match toPy d, toPys ds with | some p, some ps => some (p :: ps) | _, _ => none
end
mutual
theorem rep_dp {B : Bs} {r : Addr} {H : Hp} : ∀ {v : V} {d : D} {p : PyData}, Rep B r H v d → toPy d = some p → Dp B.K H v p
  | _, _, _, .non, e => by cases (Option.some.inj e : PyData.none = _); exact .non
  | _, _, _, .bl b, e => by cases (Option.some.inj e : PyData.bool b = _); exact .bl b
  | _, _, _, .int b, e => by cases (Option.some.inj e : PyData.int b = _); exact .int b
  | _, _, _, .str b, e => by cases (Option.some.inj e : PyData.str b = _); exact .str b
  | _, _, _, .tup h hs, e => by
    unfold toPy at e
    obtain ⟨ps, h1, h2⟩ := Option.map_eq_some_iff.mp e
    subst h2
    exact .tup h (reps_dp hs h1)
  | _, _, _, .lst h hs, e => by
    unfold toPy at e
    obtain ⟨ps, h1, h2⟩ := Option.map_eq_some_iff.mp e
    subst h2
    exact .lst (SqL.of h) (reps_dp hs h1)
  | _, _, _, .dic _ _ _ _, e => by cases e
  | _, _, _, .sal _ _ _, e => by cases e
  | _, _, _, .row, e => by cases e
theorem reps_dp {B : Bs} {r : Addr} {H : Hp} : ∀ {vs : List V} {ds : List D} {ps : List PyData}, Reps B r H vs ds → toPys ds = some ps → DpAll B.K H vs ps
  | _, _, _, .nil, e => by cases (Option.some.inj e : [] = _); exact .nil
  | _, _, _, .cons h hs, e => by
    unfold toPys at e
    split at e
    · rename_i p ps h1 h2
      cases e
      exact .cons (rep_dp h h1) (reps_dp hs h2)
    · cases e
end
def pyOk (d : D) : Option PyData := match toPy d with | some p => if SeqAt.shaped p then some p else none | none => none
theorem pyOk_some {d : D} {p : PyData} (h : pyOk d = some p) : toPy d = some p ∧ SeqAt.shaped p = true := by
  unfold pyOk at h
  split at h
  · split at h
    · cases h; exact ⟨by assumption, by assumption⟩
    · cases h
  · cases h
def eqD (x y : D) : Option Bool := match pyOk x, pyOk y with | some p, some q => some (PyData.eqv p q) | _, _ => none
def gEq : D → D → Option D := fun x y => (eqD x y).map .bl
def gNe : D → D → Option D := fun x y => (eqD x y).map fun b => .bl (!b)
theorem eqD_some {x y : D} {b : Bool} (h : eqD x y = some b) : ∃ p q, toPy x = some p ∧ toPy y = some q ∧ SeqAt.shaped p = true ∧ SeqAt.shaped q = true ∧ b = PyData.eqv p q := by
  unfold eqD at h
  split at h
  · rename_i p q h1 h2
    cases h
    exact ⟨p, q, (pyOk_some h1).1, (pyOk_some h2).1, (pyOk_some h1).2, (pyOk_some h2).2, rfl⟩
  · cases h
theorem os_eq {B : Bs} : OpS B (rEqD B.K) gEq := by
  intro r O H x y dx dy d Q hd rx ry e q
  obtain ⟨b, h1, h2⟩ := Option.map_eq_some_iff.mp e
  subst h2
  obtain ⟨p, p', e1, e2, s1, s2, rfl⟩ := eqD_some h1
  exact ⟨p, p', rep_dp (rx.mono hid_le) e1, rep_dp (ry.mono hid_le) e2, s1, s2, q _ H (Same.refl H) (.bl _)⟩
theorem os_ne {B : Bs} : OpS B (rNeD B.K) gNe := by
  intro r O H x y dx dy d Q hd rx ry e q
  obtain ⟨b, h1, h2⟩ := Option.map_eq_some_iff.mp e
  subst h2
  obtain ⟨p, p', e1, e2, s1, s2, rfl⟩ := eqD_some h1
  exact ⟨p, p', rep_dp (rx.mono hid_le) e1, rep_dp (ry.mono hid_le) e2, s1, s2, q _ H (Same.refl H) (.bl _)⟩
/-- == of scalars -/
def eqS : D → D → Bool
  | .non, .non => true
  | .bl a, .bl b => a == b
  | .bl a, .int b => (if a then 1 else 0) == b
  | .int a, .bl b => a == (if b then 1 else 0)
  | .int a, .int b => a == b
  | .str a, .str b => a == b
  | _, _ => false
def seqD : D → Option (List D) | .lst ds => some ds | .tup ds => some ds | _ => none
def inD (neg : Bool) (x y : D) : Option D := match seqD y with
  | some ds => if scal x && ds.all scal then some (.bl (if neg then !ds.any (eqS · x) else ds.any (eqS · x))) else none
  | none => none
def gIn := inD false
def gNotIn := inD true
theorem rep_flat {B : Bs} {r : Addr} {H : Hp} {v : V} {d : D} (h : Rep B r H v d) : scal d = flatV v := by cases h <;> rfl
theorem rep_eqV {B : Bs} {r : Addr} {H : Hp} {v w : V} {d e : D} (h : Rep B r H v d) (h' : Rep B r H w e) : eqV v w = eqS d e := by cases h <;> cases h' <;> rfl
theorem reps_all {B : Bs} {r : Addr} {H : Hp} : ∀ {vs : List V} {ds : List D}, Reps B r H vs ds → ds.all scal = vs.all flatV
  | _, _, .nil => rfl
  | _, _, .cons h hs => by rw [List.all_cons, List.all_cons, rep_flat h, reps_all hs]
theorem reps_in {B : Bs} {r : Addr} {H : Hp} {x : V} {dx : D} (hx : Rep B r H x dx) : ∀ {vs : List V} {ds : List D}, Reps B r H vs ds → inV x vs = ds.any (eqS · dx)
  | _, _, .nil => rfl
  | _, _, .cons h hs => by
    unfold inV
    rw [List.any_cons, List.any_cons, rep_eqV h hx]
    have := reps_in hx hs
    unfold inV at this
    rw [this]
theorem seq_inv {B : Bs} {r : Addr} {H : Hp} {v : V} {d : D} {ds : List D} (h : Rep B r H v d) (e : seqD d = some ds) : ∃ a vs, v = .ref a ∧ (SqL B.K H a vs ∨ SqT B.K H a vs) ∧ Reps B r H vs ds := by
  cases d <;> simp [seqD] at e
  · subst e; obtain ⟨a, vs, h1, h2, h3⟩ := h.inv_tup; exact ⟨a, vs, h1, .inr h2, h3⟩
  · subst e; obtain ⟨a, vs, h1, h2, h3⟩ := h.inv_lst; exact ⟨a, vs, h1, .inl (SqL.of h2), h3⟩
theorem sqLT_le {K : PySem.W.Frag} {H : Hp} {O : List Addr} {a : Addr} {xs : List V} (h : SqL K (hid H O) a xs ∨ SqT K (hid H O) a xs) : SqL K H a xs ∨ SqT K H a xs := h.elim (fun z => .inl (Evl.ex_l hid_le z)) (fun z => .inr (sqT_le z))
theorem os_inG {B : Bs} {neg : Bool} : OpS B (rIn B.K neg) (inD neg) := by
  intro r O H x y dx dy d Q hd rx ry e q
  unfold inD at e
  split at e
  · rename_i ds hs
    obtain ⟨a, vs, rfl, hq, hr⟩ := seq_inv ry hs
    split at e
    · rename_i hz
      cases e
      rw [Bool.and_eq_true] at hz
      refine ⟨a, vs, rfl, sqLT_le hq, by rw [← rep_flat rx]; exact hz.1, by rw [← reps_all hr]; exact hz.2, ?_⟩
      rw [reps_in rx hr]
      exact q _ H (Same.refl H) (.bl _)
    · cases e
  · cases e
theorem os_in {B : Bs} : OpS B (rIn B.K false) gIn := os_inG
theorem os_notIn {B : Bs} : OpS B (rIn B.K true) gNotIn := os_inG

/-! ### unary -/
def gNeg : D → Option D | .int i => some (.int (-i)) | _ => none
theorem us_neg {B : Bs} : UnS B (rU fun i => .int (-i)) gNeg := by
  intro r O H x dx d Q hd rx e q
  unfold gNeg at e
  split at e
  · cases e; cases rx; exact ⟨_, rfl, q _ H (Same.refl H) (.int _)⟩
  · cases e

/-! ### subscripts -/
def gIx : D → D → Option D
  | .tup ds, .int i => atI ds i
  | .lst ds, .int i => atI ds i
  | .str z, .int i => if z.length ≤ 100000 then (atI z.cps.toList i).map fun c => .str ⟨#[c]⟩ else none
  | _, _ => none
theorem reps_at {B : Bs} {r : Addr} {H : Hp} {vs : List V} {ds : List D} {i : Int} {d : D} (h : Reps B r H vs ds) (e : atI ds i = some d) : ∃ v, atI vs i = some v ∧ Rep B r H v d := by
  unfold atI at e ⊢
  rw [h.length]
  obtain ⟨j, h1, h2⟩ := Option.bind_eq_some_iff.mp e
  obtain ⟨v, h3, h4⟩ := h.get j d h2
  exact ⟨v, by rw [h1]; exact h3, h4⟩
theorem os_ix {B : Bs} : OpS B (rIx B.K) gIx := by
  intro r O H x y dx dy d Q hd rx ry e q
  unfold gIx at e
  split at e
  · cases ry
    obtain ⟨a, vs, rfl, ha, hs⟩ := rx.inv_tup
    obtain ⟨v, h1, h2⟩ := reps_at hs e
    exact .inr (.inl ⟨a, vs, _, v, rfl, rfl, sqT_le ha, h1, q _ H (Same.refl H) h2⟩)
  · cases ry
    obtain ⟨a, vs, rfl, ha, hs⟩ := rx.inv_lst
    obtain ⟨v, h1, h2⟩ := reps_at hs e
    exact .inl ⟨a, vs, _, v, rfl, rfl, SqL.of (hid_le _ _ ha), h1, q _ H (Same.refl H) h2⟩
  · split at e
    · rename_i hl
      cases rx; cases ry
      obtain ⟨c, h1, h2⟩ := Option.map_eq_some_iff.mp e
      subst h2
      exact .inr (.inr ⟨_, _, c, rfl, rfl, Evl.sz_of hl, h1, q _ H (Same.refl H) (.str _)⟩)
    · cases e
  · cases e

/-! ### slices -/
def partI : Option D → Option (Option Int) | none => some none | some (.int i) => some (some i) | _ => none
abbrev RdO (B : Bs) (W : List Nat) (E : Option XK) (t : TO) (f : En → M (Option Int)) : Prop :=
  ∀ {r sa : Addr} {H0 : Hp} {O0 O : List Addr} {σ : St} {δ : En} {s : S} {H : Hp}, Gd B r sa H0 O0 W O σ δ s H → ∀ Q : Option Int → Hp → Prop, (f δ s).post (fun o s' => ∀ H', Stp r H H' → RowAt B r sa H' s' → Q o H') (EPost B E r sa H O) → t σ H Q
def cNo : En → M (Option Int) := fun _ s => .ok none s
def asI : D → Option Int | .int i => some i | _ => none
def cPart (f : En → M D) : En → M (Option Int) := fun δ s => (f δ s).bind fun d s1 => (lift (asI d) s1).bind fun i s2 => .ok (some i) s2
def cutD {α : Type} (xs : List α) (lo hi : Option Int) : List α := (xs.drop (HT.sIx xs.length 0 lo)).take (HT.sIx xs.length xs.length hi - HT.sIx xs.length 0 lo)
def gSl : D → Option Int → Option Int → Option D
  | .tup ds, lo, hi => some (.tup (cutD ds lo hi))
  | .lst ds, lo, hi => some (.lst (cutD ds lo hi))
  | .str z, lo, hi => if z.length ≤ 100000 then some (.str (cutS z lo hi)) else none
  | _, _, _ => none
def cSl (f : En → M D) (fl fh : En → M (Option Int)) : En → M D := fun δ s => (f δ s).bind fun d s1 => (fl δ s1).bind fun lo s2 => (fh δ s2).bind fun hi s3 => lift (gSl d lo hi) s3
theorem Reps.cut {B : Bs} {r : Addr} {H : Hp} {vs : List V} {ds : List D} {lo hi : Option Int} (h : Reps B r H vs ds) : Reps B r H (cutV vs lo hi) (cutD ds lo hi) := by
  unfold cutV cutD
  rw [h.length]
  exact (h.drop _).take _
def rSlU (K : PySem.W.Frag) : V → Option Int → Option Int → Hp → VK → Prop := fun x lo hi H Q => rSlL K x lo hi H Q ∨ (rSlA K x lo hi H Q ∨ rSlS x lo hi H Q)
theorem sl_U {X : Cx} : SlR X (rSlU X.K) := SlR.or sl_list (SlR.or sl_tupA sl_str)
section
variable {B : Bs} {W : List Nat} {E : Option XK} {te : TE} {fa : En → M D}
theorem ro_no : RdO B W E tNoPart cNo := by
  intro r sa H0 O0 O σ δ s H gd Q h
  exact h H (Stp.refl H) gd.row
theorem ro_part (ha : RdE B W E te fa) : RdO B W E (tPart te) (cPart fa) := by
  intro r sa H0 O0 O σ δ s H gd Q h
  refine ha gd _ (post_mono (post_bind h) (fun x s1 hx v H1 st ra rp => ?_) (fun _ _ z => z))
  obtain ⟨i, e, hd⟩ := post_lift (post_bind hx)
  have : x = .int i := by cases x <;> simp [asI] at e; subst e; rfl
  subst this; cases rp
  exact ⟨i, rfl, hd H1 st ra⟩
theorem rd_sl {tl th : TO} {fl fh : En → M (Option Int)} (ha : RdE B W E te fa) (hl : RdO B W E tl fl) (hh : RdO B W E th fh) : RdE B W E (tSl (rSlU B.K) te tl th) (cSl fa fl fh) := by
  intro r sa H0 O0 O σ δ s H gd Q h
  refine ha gd _ (post_mono (post_bind h) (fun x s1 hx v H1 st ra rp => ?_) (fun _ _ z => z))
  have gd1 := gd.step st ra
  refine hl gd1 _ (post_mono (post_bind hx) (fun lo s2 hx H2 st2 ra2 => ?_) (fun _ _ z => z.mono st))
  have gd2 := gd1.step st2 ra2
  refine hh gd2 _ (post_mono (post_bind hx) (fun hi s3 hx H3 st3 ra3 => ?_) (fun _ _ z => (z.mono st).mono st2))
  have gd3 := gd2.step st3 ra3
  obtain ⟨d, e, hd⟩ := post_lift hx
  have rp3 := rp.mono ((st2.trans st3).hid gd.rO)
  have hst := st.trans (st2.trans st3)
  unfold gSl at e
  split at e
  · cases e
    obtain ⟨a, vs, rfl, ha, hs⟩ := rp3.inv_tup
    refine .inr (.inl ⟨a, vs, rfl, sqT_le ha, fun ⟨z1, z2⟩ => ?_, fun _ p hp => ?_⟩)
    · refine hd _ H3 hst ra3 (.tup ha ?_)
      have e1 : cutV vs lo hi = vs := by
        unfold cutV; rw [z1, z2]; simp
      have := hs.cut (lo := lo) (hi := hi)
      rw [e1] at this
      exact this
    · exact hd _ _ (hst.trans (Stp.new hp)) (ra3.new hp) (new_tup hp gd3.dom hs.cut)
  · cases e
    obtain ⟨a, vs, rfl, ha, hs⟩ := rp3.inv_lst
    exact .inl ⟨a, vs, rfl, SqL.of (hid_le _ _ ha), fun p hp => hd _ _ (hst.trans (Stp.new hp)) (ra3.new hp) (new_lst hp gd3.dom hs.cut)⟩
  · split at e
    · rename_i hz
      cases e; cases rp3
      exact .inr (.inr ⟨_, rfl, Evl.sz_of hz, hd _ H3 hst ra3 (.str _)⟩)
    · cases e
  · cases e
end
end PV

namespace PV
open PySem L2

inductive Fl where
  | next (δ : En)
  | ret (d : D)
  | brk (δ : En)
  | cont (δ : En)
def FlP (B : Bs) (r sa : Addr) (H0 : Hp) (O0 : List Addr) (W : List Nat) (O : List Addr) (H : Hp) (D : Ends) : Fl → S → Prop := fun fl s' => match fl with
  | .next δ' => ∀ O' σ' H', Gd B r sa H0 O0 W O' σ' δ' s' H' → Same (hid H O) (hid H' O') → D.nx σ' H'
  | .ret d => ∀ v H', Stp r H0 H' → RowAt B r sa H' s' → Rep B r (hid H' O0) v d → D.rt v H'
  | .brk δ' => ∀ O' σ' H', Gd B r sa H0 O0 W O' σ' δ' s' H' → Same (hid H O) (hid H' O') → D.bk σ' H'
  | .cont δ' => ∀ O' σ' H', Gd B r sa H0 O0 W O' σ' δ' s' H' → Same (hid H O) (hid H' O') → D.ct σ' H'
def RdS (B : Bs) (W : List Nat) (E : Option XK) (t : TS) (F : En → M Fl) : Prop :=
  ∀ {r sa : Addr} {H0 : Hp} {O0 O : List Addr} {σ : St} {δ : En} {s : S} {H : Hp}, Gd B r sa H0 O0 W O σ δ s H → ∀ D : Ends, (F δ s).post (FlP B r sa H0 O0 W O H D) (EPost B E r sa H0 O0) → t D σ H
theorem FlP.mono {B : Bs} {r sa : Addr} {H0 : Hp} {O0 : List Addr} {W : List Nat} {O O' : List Addr} {H H' : Hp} {D : Ends} (sm : Same (hid H O) (hid H' O')) : ∀ (fl : Fl) (s : S), FlP B r sa H0 O0 W O H D fl s → FlP B r sa H0 O0 W O' H' D fl s
  | .next _, _, h => fun O2 σ2 H2 g q => h O2 σ2 H2 g (sm.trans q)
  | .ret _, _, h => h
  | .brk _, _, h => fun O2 σ2 H2 g q => h O2 σ2 H2 g (sm.trans q)
  | .cont _, _, h => fun O2 σ2 H2 g q => h O2 σ2 H2 g (sm.trans q)
theorem EPost.up {B : Bs} {E : Option XK} {r sa : Addr} {H0 : Hp} {O0 : List Addr} {W : List Nat} {O : List Addr} {σ : St} {δ : En} {s : S} {H : Hp} (gd : Gd B r sa H0 O0 W O σ δ s H) {e : Err} {s' : S} (h : EPost B E r sa H0 O0 e s') : EPost B E r sa H O e s' := by
  cases E with
  | none => exact h
  | some E => exact fun cl d H' a b c => h cl d H' (gd.stp.trans a) b (c.mono (hid_sub gd.sub))

def cNext : En → M Fl := fun δ s => .ok (.next δ) s
def cSeq (F G : En → M Fl) : En → M Fl := fun δ s => (F δ s).bind fun fl s1 => match fl with | .next δ' => G δ' s1 | fl => .ok fl s1
def cRet (f : En → M D) : En → M Fl := fun δ s => (f δ s).bind fun d s1 => .ok (.ret d) s1
def cDo (f : En → M D) : En → M Fl := fun δ s => (f δ s).bind fun _ s1 => .ok (.next δ) s1
def cIte (c : En → M Bool) (F G : En → M Fl) : En → M Fl := fun δ s => (c δ s).bind fun b s1 => if b then F δ s1 else G δ s1
def cSet (i : Nat) (f : En → M D) : En → M Fl := fun δ s => (f δ s).bind fun d s1 => .ok (.next (δ.set i (some d))) s1
def cAsg (f : En → M D) (tg : D → En → Option En) : En → M Fl := fun δ s => (f δ s).bind fun d s1 => (lift (tg d δ) s1).bind fun δ' s2 => .ok (.next δ') s2
def cAug (i : Nat) (g : Int → Int → Int) (f : En → M D) : En → M Fl := fun δ s => (lift (δ[i]?.join.bind asI) s).bind fun x s0 => (f δ s0).bind fun d s1 => (lift (asI d) s1).bind fun y s2 => .ok (.next (δ.set i (some (.int (g x y))))) s2
def cStuck : En → M Fl := fun _ _ => .stuck
def forL (tg : D → En → Option En) (F : En → M Fl) : List D → En → M Fl
  | [], δ, s => .ok (.next δ) s
  | d :: ds, δ, s => (lift (tg d δ) s).bind fun δ1 s1 => (F δ1 s1).bind fun fl s2 => match fl with
    | .next δ2 => forL tg F ds δ2 s2
    | .cont δ2 => forL tg F ds δ2 s2
    | .brk δ2 => .ok (.next δ2) s2
    | .ret d => .ok (.ret d) s2
def cFor (src : En → M (List D)) (tg : D → En → Option En) (F : En → M Fl) : En → M Fl := fun δ s => (src δ s).bind fun ds s1 => forL tg F ds δ s1
def whileN (c : En → M Bool) (F : En → M Fl) : Nat → En → M Fl
  | 0, _, _ => .stuck
  | n + 1, δ, s => (c δ s).bind fun b s1 => if b then (F δ s1).bind fun fl s2 => match fl with
    | .next δ2 => whileN c F n δ2 s2
    | .cont δ2 => whileN c F n δ2 s2
    | .brk δ2 => .ok (.next δ2) s2
    | .ret d => .ok (.ret d) s2 else .ok (.next δ) s1
def cWhile (fuel : En → Nat) (c : En → M Bool) (F : En → M Fl) : En → M Fl := fun δ s => whileN c F (fuel δ) δ s
def tgName (i : Nat) : D → En → Option En := fun d δ => some (δ.set i (some d))
def tgNil : List D → En → Option En | [], δ => some δ | _ :: _, _ => none
def tgCons (t : D → En → Option En) (u : List D → En → Option En) : List D → En → Option En | [], _ => none | d :: ds, δ => (t d δ).bind fun δ' => u ds δ'
def tgTup (n : Nat) (t : List D → En → Option En) : D → En → Option En := fun d δ => match d with | .tup ds => if ds.length = n then t ds δ else none | _ => none

/-- a target: the slots ts alone are written -/
def RdG (B : Bs) (W : List Nat) (ts : List Nat) (g : TG) (tg : D → En → Option En) : Prop :=
  ∀ {r sa : Addr} {H0 : Hp} {O0 O : List Addr} {σ : St} {δ δ' : En} {s : S} {H : Hp} {v : V} {d : D}, Gd B r sa H0 O0 W O σ δ s H → Rep B r (hid H O) v d → tg d δ = some δ' →
    ∀ Q : St → Hp → Prop, (∀ σ', Gd B r sa H0 O0 W O σ' δ' s H → (∀ i, i ∉ ts → σ'[i]? = σ[i]?) → σ'.length = σ.length → Q σ' H) → g v σ H Q
def RdGs (B : Bs) (W : List Nat) (ts : List Nat) (g : TGs) (tg : List D → En → Option En) : Prop :=
  ∀ {r sa : Addr} {H0 : Hp} {O0 O : List Addr} {σ : St} {δ δ' : En} {s : S} {H : Hp} {v : List V} {d : List D}, Gd B r sa H0 O0 W O σ δ s H → Reps B r (hid H O) v d → tg d δ = some δ' →
    ∀ Q : St → Hp → Prop, (∀ σ', Gd B r sa H0 O0 W O σ' δ' s H → (∀ i, i ∉ ts → σ'[i]? = σ[i]?) → σ'.length = σ.length → Q σ' H) → g v σ H Q
section
variable {B : Bs} {W : List Nat} {E : Option XK}
theorem rg_name {i : Nat} (hi : decide (i ∉ W) = true := by rfl) : RdG B W [i] (gName i) (tgName i) := by
  intro r sa H0 O0 O σ δ δ' s H v d gd rp e Q q
  cases e
  exact q _ (gd.set (of_decide_eq_true hi) rp) (fun j hj => List.getElem?_set_ne (fun z => hj (by simp [z]))) (List.length_set ..)
theorem rg_nil : RdGs B W [] gNil tgNil := by
  intro r sa H0 O0 O σ δ δ' s H v d gd rp e Q q
  cases rp with
  | nil => cases e; exact ⟨rfl, q σ gd (fun _ _ => rfl) rfl⟩
  | cons _ _ => cases e
theorem rg_cons {ts us : List Nat} {g : TG} {gs : TGs} {tg : D → En → Option En} {tgs : List D → En → Option En} (h : RdG B W ts g tg) (hs : RdGs B W us gs tgs) : RdGs B W (ts ++ us) (gCons g gs) (tgCons tg tgs) := by
  intro r sa H0 O0 O σ δ δ' s H v d gd rp e Q q
  cases rp with
  | nil => cases e
  | cons rp rps =>
    obtain ⟨δ1, e1, e2⟩ := Option.bind_eq_some_iff.mp e
    refine ⟨_, _, rfl, h gd rp e1 _ fun σ1 gd1 h1 l1 => hs gd1 rps e2 _ fun σ2 gd2 h2 l2 => q σ2 gd2 (fun j hj => ?_) (l2.trans l1)⟩
    rw [h2 j fun z => hj (List.mem_append_right _ z), h1 j fun z => hj (List.mem_append_left _ z)]
theorem rg_tup {n : Nat} {ts : List Nat} {gs : TGs} {tgs : List D → En → Option En} (hs : RdGs B W ts gs tgs) : RdG B W ts (gTup B.K n gs) (tgTup n tgs) := by
  intro r sa H0 O0 O σ δ δ' s H v d gd rp e Q q
  unfold tgTup at e
  split at e
  · split at e
    · rename_i hl
      obtain ⟨a, vs, rfl, ha, hr⟩ := rp.inv_tup
      exact ⟨a, vs, rfl, sqT_le ha, by rw [hr.length]; exact hl, hs gd hr e Q q⟩
    · cases e
  · cases e

variable {t u : TS} {F G : En → M Fl} {te : TE} {fa : En → M D} {tc : TT} {fc : En → M Bool}
theorem rs_next : RdS B W E tNext cNext := by
  intro r sa H0 O0 O σ δ s H gd D h
  exact h O σ H gd (Same.refl _)
theorem rs_stuck {t : TS} : RdS B W E t cStuck := by
  intro r sa H0 O0 O σ δ s H gd D h
  exact h.elim
theorem rs_seq (h1 : RdS B W E t F) (h2 : RdS B W E u G) : RdS B W E (tSeq t u) (cSeq F G) := by
  intro r sa H0 O0 O σ δ s H gd D h
  refine h1 gd _ (post_mono (post_bind h) (fun fl s1 hx => ?_) (fun _ _ z => z))
  cases fl with
  | next δ' => exact fun O' σ' H' gd' sm => h2 gd' D (post_mono hx (fun fl s2 q => q.mono sm) (fun _ _ z => z))
  | ret d => exact hx
  | brk δ' => exact hx
  | cont δ' => exact hx
theorem rs_if (hc : RdT B W E tc fc) (h1 : RdS B W E t F) (h2 : RdS B W E u G) : RdS B W E (tIfS tc t u) (cIte fc F G) := by
  intro r sa H0 O0 O σ δ s H gd D h
  refine hc gd _ (post_mono (post_bind h) (fun b s1 hx H1 st ra => ?_) (fun _ _ z => z.up gd))
  have sm := st.hid gd.rO
  cases b with
  | true => exact h1 (gd.step st ra) D (post_mono hx (fun fl s2 q => q.mono sm) (fun _ _ z => z))
  | false => exact h2 (gd.step st ra) D (post_mono hx (fun fl s2 q => q.mono sm) (fun _ _ z => z))
/-- at a return all that is owned is let go -/
theorem Gd.free {r sa : Addr} {H0 : Hp} {O0 O : List Addr} {σ : St} {δ : En} {s : S} {H : Hp} (gd : Gd B r sa H0 O0 W O σ δ s H) : Gd B r sa H0 O0 [] O0 σ δ s H := by
  have sm : Same (hid H O) (hid H O0) := hid_sub gd.sub
  refine ⟨gd.len, gd.row, gd.r0, fun p hp => gd.dom p (gd.sub p hp), gd.dom0, fun _ h => h, fun _ h => .inl h, gd.stp, fun i d _ q => ?_, fun i d hi => (by cases hi), fun i _ _ _ _ hi => (by cases hi)⟩
  by_cases hi : i ∈ W
  · obtain ⟨p, vs, ds, rfl, h2, h3, h4, h5, h6⟩ := gd.own i d hi q
    exact ⟨_, h2, .lst (by rw [hid_out h4]; exact h5) (h6.mono sm)⟩
  · obtain ⟨v, h1, h2⟩ := gd.val i d hi q
    exact ⟨v, h1, h2.mono sm⟩
theorem rs_ret (ha : RdE B [] E te fa) : RdS B W E (tRet te) (cRet fa) := by
  intro r sa H0 O0 O σ δ s H gd D h
  have g0 := gd.free
  exact ha g0 _ (post_mono (post_bind h) (fun x s1 hx v H1 st ra rp => hx v H1 (gd.stp.trans st) ra rp) (fun _ _ z => z.up g0))
theorem rs_retN : RdS B W E tRetN (cRet (cC .non)) := by
  intro r sa H0 O0 O σ δ s H gd D h
  exact h .non H gd.stp gd.row .non
theorem rs_do (ha : RdE B W E te fa) : RdS B W E (tDrop te) (cDo fa) := by
  intro r sa H0 O0 O σ δ s H gd D h
  exact ha gd _ (post_mono (post_bind h) (fun x s1 hx v H1 st ra rp => hx O σ H1 (gd.step st ra) (st.hid gd.rO)) (fun _ _ z => z.up gd))
theorem rs_set {i : Nat} (ha : RdE B W E te fa) (hi : decide (i ∉ W) = true := by rfl) : RdS B W E (tAsg te (gName i)) (cSet i fa) := by
  intro r sa H0 O0 O σ δ s H gd D h
  exact ha gd _ (post_mono (post_bind h) (fun x s1 hx v H1 st ra rp => hx O _ H1 ((gd.step st ra).set (of_decide_eq_true hi) rp) (st.hid gd.rO)) (fun _ _ z => z.up gd))
theorem rs_asg {ts : List Nat} {g : TG} {tg : D → En → Option En} (ha : RdE B W E te fa) (hg : RdG B W ts g tg) : RdS B W E (tAsg te g) (cAsg fa tg) := by
  intro r sa H0 O0 O σ δ s H gd D h
  refine ha gd _ (post_mono (post_bind h) (fun x s1 hx v H1 st ra rp => ?_) (fun _ _ z => z.up gd))
  obtain ⟨δ', e, hd⟩ := post_lift (post_bind hx)
  exact hg (gd.step st ra) rp e _ fun σ' gd' _ _ => hd O σ' H1 gd' (st.hid gd.rO)
theorem join_some {δ : En} {i : Nat} {d : D} (e : δ[i]?.join = some d) : δ[i]? = some (some d) := by
  cases q : δ[i]? with
  | none => rw [q] at e; cases e
  | some o => rw [q] at e; cases o with
    | none => cases e
    | some d' => cases (Option.some.inj e : d' = d); rfl
theorem asI_some {d : D} {i : Int} (e : asI d = some i) : d = .int i := by cases d <;> simp [asI] at e; subst e; rfl
theorem rs_aug {i : Nat} {g : Int → Int → Int} (ha : RdE B W E te fa) (hi : decide (i ∉ W) = true := by rfl) : RdS B W E (tAug i te (ipI g)) (cAug i g fa) := by
  intro r sa H0 O0 O σ δ s H gd D h
  obtain ⟨x, e, h⟩ := post_lift (post_bind h)
  obtain ⟨dx, e1, e2⟩ := Option.bind_eq_some_iff.mp e
  cases asI_some e2
  obtain ⟨v, h1, h2⟩ := gd.val i _ (of_decide_eq_true hi) (join_some e1)
  cases h2
  refine ⟨_, h1, ha gd _ (post_mono (post_bind h) (fun y s1 hx v H1 st ra rp => ?_) (fun _ _ z => z.up gd))⟩
  obtain ⟨y', e3, hd⟩ := post_lift (post_bind hx)
  cases asI_some e3
  cases rp
  exact ⟨_, _, rfl, rfl, hd O _ H1 ((gd.step st ra).set (of_decide_eq_true hi) (.int _)) (st.hid gd.rO)⟩

/-! ### what is walked -/
def Wk (B : Bs) (r : Addr) (O : List Addr) (H1 : Hp) (J : It) (ds : List D) : Prop := ∀ O' H2, Same (hid H1 O) (hid H2 O') → (∀ p ∈ O', H2 p ≠ none) →
  (∀ i, i < ds.length → J.go i H2) ∧ J.stop ds.length H2 ∧ ∀ i x H3 d, ds[i]? = some d → J.yld i H2 x H3 → Same H2 H3 ∧ Rep B r (hid H3 O') x d
def RdI (B : Bs) (W : List Nat) (E : Option XK) (wi : TI) (f : En → M (List D)) : Prop :=
  ∀ {r sa : Addr} {H0 : Hp} {O0 O : List Addr} {σ : St} {δ : En} {s : S} {H : Hp}, Gd B r sa H0 O0 W O σ δ s H → ∀ R : It → Hp → Prop,
    (f δ s).post (fun ds s' => ∀ J H', Stp r H H' → RowAt B r sa H' s' → Wk B r O H' J ds → R J H') (EPost B E r sa H O) → wi σ H R
def asLst : D → Option (List D) | .lst ds => some ds | _ => none
def asTup : D → Option (List D) | .tup ds => some ds | _ => none
def cItL (f : En → M D) : En → M (List D) := fun δ s => (f δ s).bind fun d s1 => lift (asLst d) s1
def cItT (f : En → M D) : En → M (List D) := fun δ s => (f δ s).bind fun d s1 => lift (asTup d) s1
def cItU (f : En → M D) : En → M (List D) := fun δ s => (f δ s).bind fun d s1 => lift (seqD d) s1
def upto (lo : Int) (n : Nat) : List D := (List.range n).map fun (i : Nat) => D.int (lo + (i : Int))
def gR1 : List D → Option (List D) | [.int j] => if -(2 ^ 62) ≤ j ∧ j < 2 ^ 62 then some (upto 0 j.toNat) else none | _ => none
def gR2 : List D → Option (List D) | [.int i, .int j] => if -(2 ^ 62) ≤ i ∧ i < 2 ^ 62 ∧ -(2 ^ 62) ≤ j ∧ j < 2 ^ 62 then some (upto i (j - i).toNat) else none | _ => none
def cItA (g : List D → Option (List D)) (f : En → M (List D)) : En → M (List D) := fun δ s => (f δ s).bind fun ds s1 => lift (g ds) s1
theorem asLst_some {d : D} {ds : List D} (e : asLst d = some ds) : d = .lst ds := by cases d <;> simp [asLst] at e; subst e; rfl
theorem asTup_some {d : D} {ds : List D} (e : asTup d = some ds) : d = .tup ds := by cases d <;> simp [asTup] at e; subst e; rfl
theorem wk_list {r a : Addr} {O : List Addr} {H1 : Hp} {vs : List V} {ds : List D} (h : hid H1 O a = some (.lst vs)) (hr : Reps B r (hid H1 O) vs ds) : Wk B r O H1 (Itl B.K a) ds := by
  intro O' H2 sm hd
  have e : H2 a = some (.lst vs) := hid_le _ _ (sm _ _ h)
  have hl := hr.length
  refine ⟨fun i hi => ⟨vs, vs[i]'(by omega), SqL.of e, by simp [show i < vs.length by omega]⟩, ⟨vs, SqL.of e, by omega⟩, fun i x H3 d hi hy => ?_⟩
  obtain ⟨rfl, q⟩ := hy
  obtain ⟨v, h1, h2⟩ := hr.get i d hi
  have := (q vs (SqL.of e)).symm.trans h1
  cases this
  exact ⟨Same.refl _, h2.mono sm⟩
theorem wk_tup {r a : Addr} {O : List Addr} {H1 : Hp} {vs : List V} {ds : List D} (h : SqT B.K (hid H1 O) a vs) (hr : Reps B r (hid H1 O) vs ds) : Wk B r O H1 (Itt B.K a) ds := by
  intro O' H2 sm hd
  have e : SqT B.K H2 a vs := sqT_le (same_t sm h)
  have hl := hr.length
  refine ⟨fun i hi => ⟨vs, vs[i]'(by omega), e, by simp [show i < vs.length by omega]⟩, ⟨vs, e, by omega⟩, fun i x H3 d hi hy => ?_⟩
  obtain ⟨rfl, q⟩ := hy
  obtain ⟨v, h1, h2⟩ := hr.get i d hi
  have := (q vs e).symm.trans h1
  cases this
  exact ⟨Same.refl _, h2.mono sm⟩
theorem upto_get {lo : Int} {n i : Nat} {d : D} (h : (upto lo n)[i]? = some d) : i < n ∧ d = .int (lo + (i : Int)) := by
  unfold upto at h
  rw [List.getElem?_map] at h
  obtain ⟨j, h1, h2⟩ := Option.map_eq_some_iff.mp h
  obtain ⟨h3, h4⟩ := List.getElem?_eq_some_iff.mp h1
  rw [List.length_range] at h3
  rw [List.getElem_range] at h4
  subst h4
  exact ⟨h3, h2.symm⟩
@[simp] theorem upto_len {lo : Int} {n : Nat} : (upto lo n).length = n := by unfold upto; simp
theorem wk_range {r : Addr} {O : List Addr} {H1 : Hp} {lo : Int} {n : Nat} : Wk B r O H1 (Itr lo n) (upto lo n) := by
  intro O' H2 sm hd
  refine ⟨fun i hi => by rw [upto_len] at hi; exact hi, by rw [upto_len]; exact Nat.le_refl n, fun i x H3 d hi hy => ?_⟩
  obtain ⟨rfl, rfl⟩ := hy
  obtain ⟨_, rfl⟩ := upto_get hi
  exact ⟨Same.refl _, .int _⟩
theorem ri_list {tl : TE} {f : En → M D} (ha : RdE B W E tl f) : RdI B W E (iList B.K tl) (cItL f) := by
  intro r sa H0 O0 O σ δ s H gd R h
  refine ha gd _ (post_mono (post_bind h) (fun x s1 hx v H1 st ra rp => ?_) (fun _ _ z => z))
  obtain ⟨ds, e, hd⟩ := post_lift hx
  cases asLst_some e
  obtain ⟨a, vs, rfl, h1, h2⟩ := rp.inv_lst
  exact ⟨a, rfl, ⟨vs, SqL.of (hid_le _ _ h1)⟩, hd _ H1 st ra (wk_list h1 h2)⟩
theorem ri_tup {tl : TE} {f : En → M D} (ha : RdE B W E tl f) : RdI B W E (iTup B.K tl) (cItT f) := by
  intro r sa H0 O0 O σ δ s H gd R h
  refine ha gd _ (post_mono (post_bind h) (fun x s1 hx v H1 st ra rp => ?_) (fun _ _ z => z))
  obtain ⟨ds, e, hd⟩ := post_lift hx
  cases asTup_some e
  obtain ⟨a, vs, rfl, h1, h2⟩ := rp.inv_tup
  exact ⟨a, rfl, ⟨vs, sqT_le h1⟩, hd _ H1 st ra (wk_tup h1 h2)⟩
theorem ri_r1 {ta : TA} {f : En → M (List D)} (ha : RdA B W E ta f) : RdI B W E (iRng1 ta) (cItA gR1 f) := by
  intro r sa H0 O0 O σ δ s H gd R h
  refine ha gd _ (post_mono (post_bind h) (fun x s1 hx v H1 st ra rp => ?_) (fun _ _ z => z))
  obtain ⟨ds, e, hd⟩ := post_lift hx
  unfold gR1 at e
  split at e
  · split at e
    · rename_i hj
      cases e
      cases rp with | cons r1 r2 => cases r1; cases r2; exact ⟨_, rfl, hj.1, hj.2, hd _ H1 st ra wk_range⟩
    · cases e
  · cases e
theorem ri_r2 {ta : TA} {f : En → M (List D)} (ha : RdA B W E ta f) : RdI B W E (iRng2 ta) (cItA gR2 f) := by
  intro r sa H0 O0 O σ δ s H gd R h
  refine ha gd _ (post_mono (post_bind h) (fun x s1 hx v H1 st ra rp => ?_) (fun _ _ z => z))
  obtain ⟨ds, e, hd⟩ := post_lift hx
  unfold gR2 at e
  split at e
  · split at e
    · rename_i hj
      cases e
      cases rp with | cons r1 r2 => cases r1; cases r2 with | cons r1 r2 => cases r1; cases r2; exact ⟨_, _, rfl, hj, hd _ H1 st ra wk_range⟩
    · cases e
  · cases e

/-! ### loops -/
theorem rs_for {wi : TI} {src : En → M (List D)} {ts : List Nat} {g : TG} {tg : D → En → Option En} (hi : RdI B W E wi src) (hg : RdG B W ts g tg) (hb : RdS B W E t F) : RdS B W E (tFor wi g t) (cFor src tg F) := by
  intro r sa H0 O0 O σ δ s H gd D h
  refine hi gd _ (post_mono (post_bind h) (fun ds s1 hx J H1 st ra wk => ?_) (fun _ _ z => z.up gd))
  have gd1 := gd.step st ra
  refine ⟨fun i m σ2 H2 => m = ds.length - i ∧ i ≤ ds.length ∧ ∃ O2 δ2 s2, Gd B r sa H0 O0 W O2 σ2 δ2 s2 H2 ∧ Same (hid H1 O) (hid H2 O2) ∧ (forL tg F (ds.drop i) δ2 s2).post (FlP B r sa H0 O0 W O H D) (EPost B E r sa H0 O0),
    ⟨ds.length, by omega, by omega, O, δ, s1, gd1, Same.refl _, by rw [List.drop_zero]; exact hx⟩, ?_⟩
  rintro i m σ2 H2 ⟨rfl, hle, O2, δ2, s2, gd2, sm, hp⟩
  obtain ⟨w1, w2, w3⟩ := wk O2 H2 sm gd2.dom
  by_cases hlt : i < ds.length
  · refine .inr ⟨w1 i hlt, fun σ' H' => ∃ O3 δ3 s3, Gd B r sa H0 O0 W O3 σ' δ3 s3 H' ∧ Same (hid H1 O) (hid H' O3) ∧ (forL tg F (ds.drop (i + 1)) δ3 s3).post (FlP B r sa H0 O0 W O H D) (EPost B E r sa H0 O0),
      fun σ' H' ⟨O3, δ3, s3, a, b, c⟩ => ⟨ds.length - (i + 1), by omega, rfl, by omega, O3, δ3, s3, a, b, c⟩, fun x H' hy => ?_⟩
    obtain ⟨sm3, rp⟩ := w3 i x H' ds[i] (by simp [hlt]) hy
    have gd3 := gd2.step (Stp.of sm3) (gd2.row.same sm3)
    have smh := hid_same (O := O2) sm3
    rw [List.drop_eq_getElem_cons hlt] at hp
    obtain ⟨δ3, e, hp⟩ := post_lift (post_bind hp)
    refine hg gd3 rp e _ fun σ3 gd4 _ _ => hb gd4 _ (post_mono (post_bind hp) (fun fl s4 hq => ?_) (fun _ _ z => z))
    cases fl with
    | next δ4 => exact fun O' σ' H' g' sm' => ⟨O', δ4, s4, g', sm.trans (smh.trans sm'), hq⟩
    | cont δ4 => exact fun O' σ' H' g' sm' => ⟨O', δ4, s4, g', sm.trans (smh.trans sm'), hq⟩
    | brk δ4 => exact fun O' σ' H' g' sm' => hq O' σ' H' g' ((st.hid gd.rO).trans (sm.trans (smh.trans sm')))
    | ret d => exact hq
  · have e : i = ds.length := by omega
    subst e
    rw [List.drop_length] at hp
    exact .inl ⟨w2, hp O2 σ2 H2 gd2 ((st.hid gd.rO).trans sm)⟩
theorem rs_while {fuel : En → Nat} (hc : RdT B W E tc fc) (hb : RdS B W E t F) : RdS B W E (tWhile tc t) (cWhile fuel fc F) := by
  intro r sa H0 O0 O σ δ s H gd D h
  refine ⟨fun m σ2 H2 => ∃ O2 δ2 s2, Gd B r sa H0 O0 W O2 σ2 δ2 s2 H2 ∧ Same (hid H O) (hid H2 O2) ∧ (whileN fc F m δ2 s2).post (FlP B r sa H0 O0 W O H D) (EPost B E r sa H0 O0),
    ⟨fuel δ, O, δ, s, gd, Same.refl _, h⟩, ?_⟩
  rintro m σ2 H2 ⟨O2, δ2, s2, gd2, sm, hp⟩
  cases m with
  | zero => exact hp.elim
  | succ m =>
    refine hc gd2 _ (post_mono (post_bind hp) (fun b s3 hx H3 st ra => ?_) (fun _ _ z => z.up gd2))
    have gd3 := gd2.step st ra
    have sm3 := sm.trans (st.hid gd2.rO)
    cases b with
    | false => exact hx O2 σ2 H3 gd3 sm3
    | true =>
      refine ⟨fun σ' H' => ∃ O3 δ3 s3, Gd B r sa H0 O0 W O3 σ' δ3 s3 H' ∧ Same (hid H O) (hid H' O3) ∧ (whileN fc F m δ3 s3).post (FlP B r sa H0 O0 W O H D) (EPost B E r sa H0 O0),
        fun σ' H' q => ⟨m, Nat.lt_succ_self m, q⟩, hb gd3 _ (post_mono (post_bind hx) (fun fl s4 hq => ?_) (fun _ _ z => z))⟩
      cases fl with
      | next δ4 => exact fun O' σ' H' g' sm' => ⟨O', δ4, s4, g', sm3.trans sm', hq⟩
      | cont δ4 => exact fun O' σ' H' g' sm' => ⟨O', δ4, s4, g', sm3.trans sm', hq⟩
      | brk δ4 => exact fun O' σ' H' g' sm' => hq O' σ' H' g' (sm3.trans sm')
      | ret d => exact hq
end
end PV

namespace PV
open PySem L2
/-! ### owned lists -/
section
variable {B : Bs} {W : List Nat} {E : Option XK}
theorem Gd.setOwn {r sa : Addr} {H0 : Hp} {O0 O : List Addr} {σ : St} {δ : En} {s : S} {H : Hp} {i : Nat} {p : Addr} {vs : List V} {ds : List D} (g : Gd B r sa H0 O0 W O σ δ s H) (hi : i ∈ W) (hp : p ∈ O) (hp0 : p ∉ O0) (h : H p = some (.lst vs)) (hr : Reps B r (hid H O) vs ds)
    (hn : ∀ j d, j ∈ W → j ≠ i → δ[j]? = some (some d) → σ[j]? ≠ some (some (.ref p))) : Gd B r sa H0 O0 W O (σ.set i (some (.ref p))) (δ.set i (some (.lst ds))) s H := by
  refine ⟨by rw [List.length_set, List.length_set, g.len], g.row, g.r0, g.dom, g.dom0, g.sub, g.frsh, g.stp, fun j e hj q => ?_, fun j e hj q => ?_, fun j k p' e e' hj hk ne q1 q2 q3 q4 => ?_⟩
  · have z : i ≠ j := fun z => hj (z ▸ hi)
    rw [List.getElem?_set_ne z] at q ⊢
    exact g.val j e hj q
  · by_cases z : i = j
    · subst z
      have hl : i < δ.length := by
        rcases Nat.lt_or_ge i δ.length with h | h
        · exact h
        · rw [List.getElem?_eq_none (by rw [List.length_set]; exact h)] at q; cases q
      rw [List.getElem?_set_self hl] at q
      cases q
      exact ⟨p, vs, ds, rfl, by rw [List.getElem?_set_self (by rw [g.len]; exact hl)], hp, hp0, h, hr⟩
    · rw [List.getElem?_set_ne z] at q ⊢
      exact g.own j e hj q
  · by_cases z : i = j
    · have z' : i ≠ k := fun w => ne (z ▸ w ▸ rfl)
      subst z
      have hl : i < σ.length := by
        rcases Nat.lt_or_ge i σ.length with h | h
        · exact h
        · rw [List.getElem?_eq_none (by rw [List.length_set]; exact h)] at q3; cases q3
      rw [List.getElem?_set_self hl] at q3
      cases q3
      rw [List.getElem?_set_ne z'] at q2 q4
      exact hn k e' hk (Ne.symm z') q2 q4
    · by_cases z' : i = k
      · subst z'
        have hl : i < σ.length := by
          rcases Nat.lt_or_ge i σ.length with h | h
          · exact h
          · rw [List.getElem?_eq_none (by rw [List.length_set]; exact h)] at q4; cases q4
        rw [List.getElem?_set_self hl] at q4
        cases q4
        rw [List.getElem?_set_ne z] at q1 q3
        exact hn j e hj (Ne.symm z) q1 q3
      · rw [List.getElem?_set_ne z] at q1 q3
        rw [List.getElem?_set_ne z'] at q2 q4
        exact g.inj j k p' e e' hj hk ne q1 q2 q3 q4
/-- what is owned is written -/
theorem Gd.write {r sa : Addr} {H0 : Hp} {O0 O : List Addr} {σ : St} {δ : En} {s : S} {H : Hp} {i : Nat} {p : Addr} {d : D} {vs : List V} {ds : List D} (g : Gd B r sa H0 O0 W O σ δ s H) (hi : i ∈ W) (hd : δ[i]? = some (some d)) (hσ : σ[i]? = some (some (.ref p)))
    (hr : Reps B r (hid H O) vs ds) : Gd B r sa H0 O0 W O σ (δ.set i (some (.lst ds))) s (upd H p (.lst vs)) ∧ hid (upd H p (.lst vs)) O = hid H O := by
  obtain ⟨p', vs', ds', h1, h2, hp, hp0, h, hr'⟩ := g.own i d hi hd
  have e : p' = p := by rw [h2] at hσ; injection (Option.some.inj hσ) with z; injection z
  subst e
  have eh : hid (upd H p' (.lst vs)) O = hid H O := hid_upd hp
  have npr : p' ≠ r := fun z => hp0 (z ▸ g.r0)
  refine ⟨⟨by rw [List.length_set]; exact g.len, ⟨by rw [upd_ne (Ne.symm npr)]; exact g.row.1, g.row.2.elim (fun ⟨o, q⟩ => .inl ⟨o, by rw [upd_ne (ne_of q h (fun z => nomatch z))]; exact q⟩) .inr⟩, g.r0, fun q hq => ?_, g.dom0, g.sub, g.frsh, ?_, fun j e hj q => ?_, fun j e hj q => ?_, fun j k p2 e e' hj hk ne q1 q2 q3 q4 => ?_⟩, eh⟩
  · by_cases z : q = p'
    · rw [z, upd_same]; exact fun z => nomatch z
    · rw [upd_ne z]; exact g.dom q hq
  · intro a o na ha
    have : a ≠ p' := fun z => by
      subst z
      rcases g.frsh a hp with q | q
      · exact hp0 q
      · rw [q] at ha; cases ha
    rw [upd_ne this]; exact g.stp a o na ha
  · rw [eh]
    have z : i ≠ j := fun z => hj (z ▸ hi)
    rw [List.getElem?_set_ne z] at q
    exact g.val j e hj q
  · rw [eh]
    by_cases z : i = j
    · subst z
      have hl : i < δ.length := (List.getElem?_eq_some_iff.mp hd).1
      rw [List.getElem?_set_self hl] at q
      cases q
      exact ⟨p', vs, ds, rfl, hσ, hp, hp0, upd_same, hr⟩
    · rw [List.getElem?_set_ne z] at q
      obtain ⟨p2, vs2, ds2, q1, q2, q3, q4, q5, q6⟩ := g.own j e hj q
      have : p2 ≠ p' := fun w => by
        subst w
        exact g.inj i j p2 d e hi hj z hd q hσ q2
      exact ⟨p2, vs2, ds2, q1, q2, q3, q4, by rw [upd_ne this]; exact q5, q6⟩
  · have q1' : ∃ d1, δ[j]? = some (some d1) := by
      by_cases z : i = j
      · subst z; exact ⟨d, hd⟩
      · rw [List.getElem?_set_ne z] at q1; exact ⟨e, q1⟩
    have q2' : ∃ d1, δ[k]? = some (some d1) := by
      by_cases z : i = k
      · subst z; exact ⟨d, hd⟩
      · rw [List.getElem?_set_ne z] at q2; exact ⟨e', q2⟩
    obtain ⟨d1, z1⟩ := q1'
    obtain ⟨d2, z2⟩ := q2'
    exact g.inj j k p2 d1 d2 hj hk ne z1 z2 q3 q4
/-- a new list is owned -/
theorem Gd.grow {r sa : Addr} {H0 : Hp} {O0 O : List Addr} {σ : St} {δ : En} {s s' : S} {H H' : Hp} {p : Addr} {o : HO} (g : Gd B r sa H0 O0 W O σ δ s H) (st : Stp r H H') (ra : RowAt B r sa H' s') (hn : H p = none) (hp : H' p = some o) :
    Gd B r sa H0 O0 W (p :: O) σ δ s' H' ∧ Same (hid H O) (hid H' (p :: O)) := by
  have g1 := g.step st ra
  have sm : Same (hid H O) (hid H' (p :: O)) := fun a u e => by
    have ⟨h1, h2⟩ := hid_some e
    have na : a ≠ p := ne_of_none h2 hn
    rw [hid_out (by simp [na, h1])]
    exact st a u (fun z => h1 (z ▸ g.rO)) h2
  have n0 : H0 p = none := by
    cases q : H0 p with
    | none => rfl
    | some u =>
      by_cases z : p = r
      · subst z; rw [g.row.1] at hn; cases hn
      · rw [g.stp p u z q] at hn; cases hn
  refine ⟨⟨g.len, ra, g.r0, fun q hq => ?_, g.dom0, fun q hq => List.mem_cons_of_mem _ (g.sub q hq), fun q hq => ?_, g1.stp, fun i d hi q => ?_, fun i d hi q => ?_, g.inj⟩, sm⟩
  · rcases List.mem_cons.mp hq with z | z
    · rw [z, hp]; exact fun z => nomatch z
    · exact g1.dom q z
  · rcases List.mem_cons.mp hq with z | z
    · subst z; exact .inr n0
    · exact g.frsh q z
  · obtain ⟨v, h1, h2⟩ := g.val i d hi q
    exact ⟨v, h1, h2.mono sm⟩
  · obtain ⟨p', vs, ds, h1, h2, h3, h4, h5, h6⟩ := g.own i d hi q
    exact ⟨p', vs, ds, h1, h2, List.mem_cons_of_mem _ h3, h4, st p' _ (fun z => h4 (z ▸ g.r0)) h5, h6.mono sm⟩
theorem Gd.fresh0 {r sa : Addr} {H0 : Hp} {O0 O : List Addr} {σ : St} {δ : En} {s : S} {H : Hp} {p : Addr} (g : Gd B r sa H0 O0 W O σ δ s H) (hn : H p = none) : p ∉ O ∧ p ∉ O0 := ⟨fun z => g.dom p z hn, fun z => g.dom p (g.sub p z) hn⟩
/-- an expression that makes a new list -/
def RdL (B : Bs) (W : List Nat) (E : Option XK) (t : TE) (f : En → M (List D)) : Prop :=
  ∀ {r sa : Addr} {H0 : Hp} {O0 O : List Addr} {σ : St} {δ : En} {s : S} {H : Hp}, Gd B r sa H0 O0 W O σ δ s H → ∀ Q : VK,
    (f δ s).post (fun ds s' => ∀ p vs H', Stp r H H' → RowAt B r sa H' s' → H p = none → H' p = some (.lst vs) → Reps B r (hid H' (p :: O)) vs ds → Q (.ref p) H') (EPost B E r sa H O) → t σ H Q
def cOfL (f : En → M (List D)) : En → M D := fun δ s => (f δ s).bind fun ds s1 => .ok (.lst ds) s1
theorem rd_ofL {te : TE} {f : En → M (List D)} (h : RdL B W E te f) : RdE B W E te (cOfL f) := by
  intro r sa H0 O0 O σ δ s H gd Q hp
  refine h gd _ (post_mono (post_bind hp) (fun ds s1 hx p vs H' st ra hn hv hr => ?_) (fun _ _ z => z))
  have hpO := (gd.fresh0 hn).1
  exact hx _ _ st ra (.lst (by rw [hid_out hpO]; exact hv) (hr.mono (hid_sub fun a z => List.mem_cons_of_mem _ z)))
def cLstL (fa : En → M (List D)) : En → M (List D) := fun δ s => (fa δ s).bind fun ds s1 => if ds.length ≤ 100000 then .ok ds s1 else .stuck
theorem rl_lst {ta : TA} {fa : En → M (List D)} (ha : RdA B W E ta fa) : RdL B W E (tLst ta) (cLstL fa) := by
  intro r sa H0 O0 O σ δ s H gd Q h
  refine ha gd _ (post_mono (post_bind h) (fun x s1 hx v H1 st ra rp => ?_) (fun _ _ z => z))
  split at hx
  · rename_i hl
    refine ⟨Evl.sz_of (by rw [rp.length]; exact hl), fun p hp => ?_⟩
    have n0 : H p = none := by
      cases q : H p with
      | none => rfl
      | some u =>
        by_cases z : p = r
        · subst z; rw [ra.1] at hp; cases hp
        · rw [st p u z q] at hp; cases hp
    refine hx p v _ (st.trans (Stp.new hp)) (ra.new hp) n0 upd_same (rp.mono fun a u e => ?_)
    have ⟨h1, h2⟩ := hid_some e
    have na : a ≠ p := ne_of_none h2 hp
    rw [hid_out (by simp [na, h1]), upd_ne na]; exact h2
  · exact hx.elim
def cSetL (i : Nat) (f : En → M (List D)) : En → M Fl := fun δ s => (f δ s).bind fun ds s1 => .ok (.next (δ.set i (some (.lst ds)))) s1
theorem rs_own {i : Nat} {te : TE} {f : En → M (List D)} (h : RdL B W E te f) (hi : decide (i ∈ W) = true := by rfl) : RdS B W E (tAsg te (gName i)) (cSetL i f) := by
  intro r sa H0 O0 O σ δ s H gd D hp
  refine h gd _ (post_mono (post_bind hp) (fun ds s1 hx p vs H' st ra hn hv hr => ?_) (fun _ _ z => z.up gd))
  obtain ⟨g1, sm⟩ := gd.grow st ra hn hv
  have ⟨n1, n2⟩ := gd.fresh0 hn
  refine hx _ _ _ (g1.setOwn (of_decide_eq_true hi) List.mem_cons_self n2 hv hr fun j d hj _ q z => ?_) sm
  obtain ⟨p', _, _, _, h2, h3, _⟩ := gd.own j d hj q
  rw [z] at h2; injection (Option.some.inj h2) with w; injection w with w
  exact n1 (w ▸ h3)
/-- x.append(e) -/
def ownL (δ : En) (i : Nat) : Option (List D) := δ[i]?.join.bind asLst
def cApp (i : Nat) (f : En → M D) : En → M Fl := fun δ s => (lift (ownL δ i) s).bind fun ds s0 => (f δ s0).bind fun d s1 => if ds.length < 100000 then .ok (.next (δ.set i (some (.lst (ds ++ [d]))))) s1 else .stuck
theorem ownL_some {δ : En} {i : Nat} {ds : List D} (h : ownL δ i = some ds) : δ[i]? = some (some (.lst ds)) := by
  obtain ⟨d, e1, e2⟩ := Option.bind_eq_some_iff.mp h
  cases asLst_some e2
  exact join_some e1
theorem rs_app {i : Nat} {te : TE} {f : En → M D} (h : RdE B W E te f) (hi : decide (i ∈ W) = true := by rfl) : RdS B W E (tDrop (tBM B.K "list" rAppend (tVar i) (tCons te tNil))) (cApp i f) := by
  intro r sa H0 O0 O σ δ s H gd D hp
  obtain ⟨ds, e0, hp⟩ := post_lift (post_bind hp)
  have e1 := ownL_some e0
  obtain ⟨p, vs, ds', h1, h2, h3, h4, h5, h6⟩ := gd.own i _ (of_decide_eq_true hi) e1
  cases h1
  refine ⟨_, h2, .inl ⟨rfl, _, SqL.of h5⟩, h gd _ (post_mono (post_bind hp) (fun d s1 hx v H1 st ra rp => ?_) (fun _ _ z => z.up gd))⟩
  split at hx
  · rename_i hl
    have g1 := gd.step st ra
    have h5' := st p _ (fun z => h4 (z ▸ gd.r0)) h5
    have sm := st.hid gd.rO
    refine ⟨p, vs, v, rfl, rfl, h5', Evl.sz_lt (by rw [h6.length]; exact hl), ?_⟩
    obtain ⟨g2, eh⟩ := g1.write (of_decide_eq_true hi) e1 h2 ((h6.mono sm).append (.cons rp .nil))
    exact hx O σ _ g2 (by rw [eh]; exact sm)
  · exact hx.elim
/-- x.extend(e) of a list -/
def cExt (i : Nat) (f : En → M D) : En → M Fl := fun δ s => (lift (ownL δ i) s).bind fun ds s0 => (f δ s0).bind fun d s1 => (lift (asLst d) s1).bind fun es s2 => if ds.length + es.length ≤ 100000 then .ok (.next (δ.set i (some (.lst (ds ++ es))))) s2 else .stuck
theorem rs_ext {i : Nat} {te : TE} {f : En → M D} (h : RdE B W E te f) (hi : decide (i ∈ W) = true := by rfl) : RdS B W E (tDrop (tBM B.K "list" rExtend (tVar i) (tCons te tNil))) (cExt i f) := by
  intro r sa H0 O0 O σ δ s H gd D hp
  obtain ⟨ds, e0, hp⟩ := post_lift (post_bind hp)
  have e1 := ownL_some e0
  obtain ⟨p, vs, ds', h1, h2, h3, h4, h5, h6⟩ := gd.own i _ (of_decide_eq_true hi) e1
  cases h1
  refine ⟨_, h2, .inl ⟨rfl, _, SqL.of h5⟩, h gd _ (post_mono (post_bind hp) (fun d s1 hx v H1 st ra rp => ?_) (fun _ _ z => z.up gd))⟩
  obtain ⟨es, e2, hy⟩ := post_lift (post_bind hx)
  cases asLst_some e2
  obtain ⟨b, ws, rfl, hb, hw⟩ := rp.inv_lst
  split at hy
  · rename_i hl
    have g1 := gd.step st ra
    have h5' := st p _ (fun z => h4 (z ▸ gd.r0)) h5
    have sm := st.hid gd.rO
    refine ⟨p, b, vs, ws, rfl, rfl, h5', hid_le _ _ hb, Evl.sz_of (by rw [h6.length, hw.length]; exact hl), ?_⟩
    obtain ⟨g2, eh⟩ := g1.write (of_decide_eq_true hi) e1 h2 ((h6.mono sm).append hw)
    exact hy O σ _ g2 (by rw [eh]; exact sm)
  · exact hy.elim
/-- x.pop(), its value dropped -/
def cPop (i : Nat) : En → M Fl := fun δ s => (lift (ownL δ i) s).bind fun ds s0 => if ds ≠ [] then .ok (.next (δ.set i (some (.lst ds.dropLast)))) s0 else .stuck
theorem Reps.dropLast {r : Addr} {H : Hp} {vs : List V} {ds : List D} (h : Reps B r H vs ds) : Reps B r H vs.dropLast ds.dropLast := by
  rw [List.dropLast_eq_take, List.dropLast_eq_take, h.length]; exact h.take _
theorem rs_pop {i : Nat} (hi : decide (i ∈ W) = true := by rfl) : RdS B W E (tDrop (tBM0 B.K "list" rPop (tVar i))) (cPop i) := by
  intro r sa H0 O0 O σ δ s H gd D hp
  obtain ⟨ds, e0, hp⟩ := post_lift (post_bind hp)
  have e1 := ownL_some e0
  obtain ⟨p, vs, ds', h1, h2, h3, h4, h5, h6⟩ := gd.own i _ (of_decide_eq_true hi) e1
  cases h1
  split at hp
  · rename_i hl
    have hv : 0 < vs.length := by rw [h6.length]; cases ds with | nil => exact absurd rfl hl | cons _ _ => simp
    refine ⟨_, h2, .inl ⟨rfl, _, SqL.of h5⟩, p, vs, vs[vs.length - 1]'(by omega), rfl, rfl, h5, by simp [show vs.length - 1 < vs.length by omega], ?_⟩
    obtain ⟨g2, eh⟩ := gd.write (of_decide_eq_true hi) e1 h2 h6.dropLast
    exact hp O σ _ g2 (by rw [eh]; exact Same.refl _)
  · exact hp.elim
/-- x[i] = e -/
def cPut (i : Nat) (fi f : En → M D) : En → M Fl := fun δ s => (lift (ownL δ i) s).bind fun ds s0 => (f δ s0).bind fun d s1 => (fi δ s1).bind fun k s2 => (lift (asI k) s2).bind fun j s3 => (lift (ixN ds.length j) s3).bind fun m s4 => .ok (.next (δ.set i (some (.lst (ds.set m d))))) s4
theorem rs_put {i : Nat} {te ti : TE} {f fi : En → M D} (h : RdE B W E te f) (h' : RdE B W E ti fi) (hi : decide (i ∈ W) = true := by rfl) : RdS B W E (tAsg te (gSub (tVar i) ti rSetL)) (cPut i fi f) := by
  intro r sa H0 O0 O σ δ s H gd D hp
  obtain ⟨ds, e0, hp⟩ := post_lift (post_bind hp)
  have e1 := ownL_some e0
  obtain ⟨p, vs, ds', h1, h2, h3, h4, h5, h6⟩ := gd.own i _ (of_decide_eq_true hi) e1
  cases h1
  refine h gd _ (post_mono (post_bind hp) (fun d s1 hx v H1 st ra rp => ?_) (fun _ _ z => z.up gd))
  have g1 := gd.step st ra
  refine ⟨_, h2, h' g1 _ (post_mono (post_bind hx) (fun k s2 hx w H2 st2 ra2 rp2 => ?_) (fun _ _ z => z.up g1))⟩
  obtain ⟨j, e2, hy⟩ := post_lift (post_bind hx)
  cases asI_some e2
  cases rp2
  obtain ⟨m, e3, hz⟩ := post_lift (post_bind hy)
  have g2 := g1.step st2 ra2
  have h5' := (st.trans st2) p _ (fun z => h4 (z ▸ gd.r0)) h5
  have sm := (st.trans st2).hid gd.rO
  refine ⟨p, vs, _, m, rfl, rfl, h5', by rw [h6.length]; exact e3, ?_⟩
  obtain ⟨g3, eh⟩ := g2.write (of_decide_eq_true hi) e1 h2 ((h6.mono sm).set m (rp.mono (st2.hid gd.rO)))
  exact hz O σ _ g3 (by rw [eh]; exact sm)

/-! ### a, b = e, f -/
inductive Cell where
  | v (d : D)
  | n (ds : List D)
def CellR (B : Bs) (r : Addr) (H0 : Hp) (O0 O O' : List Addr) (H' : Hp) : V → Cell → Prop
  | v, .v d => Rep B r (hid H' O') v d
  | v, .n ds => ∃ p vs, v = .ref p ∧ p ∈ O' ∧ p ∉ O ∧ p ∉ O0 ∧ H' p = some (.lst vs) ∧ Reps B r (hid H' O') vs ds
/-- values, from the left: each a value or a new list -/
def RdP (B : Bs) (W : List Nat) (E : Option XK) (t : TE) (f : En → M Cell) : Prop :=
  ∀ {r sa : Addr} {H0 : Hp} {O0 O : List Addr} {σ : St} {δ : En} {s : S} {H : Hp}, Gd B r sa H0 O0 W O σ δ s H → ∀ Q : VK,
    (f δ s).post (fun c s' => ∀ v O' H', Gd B r sa H0 O0 W O' σ δ s' H' → Same (hid H O) (hid H' O') → (∀ a ∈ O, a ∈ O') → CellR B r H0 O0 O O' H' v c → (∀ a vs, a ∈ O → a ≠ r → H a = some (.lst vs) → H' a = some (.lst vs)) → Q v H') (EPost B E r sa H0 O0) → t σ H Q
def cV (f : En → M D) : En → M Cell := fun δ s => (f δ s).bind fun d s1 => .ok (.v d) s1
def cN (f : En → M (List D)) : En → M Cell := fun δ s => (f δ s).bind fun d s1 => .ok (.n d) s1
theorem rp_v {te : TE} {f : En → M D} (h : RdE B W E te f) : RdP B W E te (cV f) := by
  intro r sa H0 O0 O σ δ s H gd Q hp
  exact h gd _ (post_mono (post_bind hp) (fun x s1 hx v H1 st ra rp => hx v O H1 (gd.step st ra) (st.hid gd.rO) (fun _ z => z) rp fun a vs _ na ha => st a _ na ha) (fun _ _ z => z.up gd))
theorem rp_n {te : TE} {f : En → M (List D)} (h : RdL B W E te f) : RdP B W E te (cN f) := by
  intro r sa H0 O0 O σ δ s H gd Q hp
  refine h gd _ (post_mono (post_bind hp) (fun x s1 hx p vs H1 st ra hn hv hr => ?_) (fun _ _ z => z.up gd))
  obtain ⟨g1, sm⟩ := gd.grow st ra hn hv
  have ⟨n1, n2⟩ := gd.fresh0 hn
  exact hx _ _ _ g1 sm (fun a z => List.mem_cons_of_mem _ z) ⟨p, vs, rfl, List.mem_cons_self, n1, n2, hv, hr⟩ fun a vs _ na ha => st a _ na ha
def putC (W : List Nat) (i : Nat) (c : Cell) (δ : En) : Option En := match c with
  | .v d => if i ∈ W then none else some (δ.set i (some d))
  | .n ds => if i ∈ W then some (δ.set i (some (.lst ds))) else none
theorem putC_v {W : List Nat} {i : Nat} {d : D} {δ : En} : putC W i (.v d) δ = if i ∈ W then none else some (δ.set i (some d)) := rfl
theorem putC_n {W : List Nat} {i : Nat} {ds : List D} {δ : En} : putC W i (.n ds) δ = if i ∈ W then some (δ.set i (some (.lst ds))) else none := rfl
theorem Gd.putC {r sa : Addr} {H0 : Hp} {O0 O O' : List Addr} {σ : St} {δ δ' : En} {s : S} {H : Hp} {i : Nat} {v : V} {c : Cell} (g : Gd B r sa H0 O0 W O' σ δ s H) (hc : CellR B r H0 O0 O O' H v c)
    (hn : ∀ p, v = .ref p → p ∉ O → ∀ j d, j ∈ W → j ≠ i → δ[j]? = some (some d) → σ[j]? ≠ some (some (.ref p))) (e : putC W i c δ = some δ') : Gd B r sa H0 O0 W O' (σ.set i (some v)) δ' s H := by
  cases c with
  | v d =>
    rw [putC_v] at e
    split at e
    · cases e
    · rename_i h; cases e; exact g.set h hc
  | n ds =>
    rw [putC_n] at e
    split at e
    · rename_i h; cases e
      obtain ⟨p, vs, rfl, h1, h2, h3, h4, h5⟩ := hc
      exact g.setOwn h h1 h3 h4 h5 (hn p rfl h2)
    · cases e
def setAll : St → List Nat → List V → St
  | σ, i :: is, v :: vs => setAll (σ.set i (some v)) is vs
  | σ, _, _ => σ
/-- values from the left, then all the slots -/
def RdPs (B : Bs) (W : List Nat) (E : Option XK) (ta : TA) (is : List Nat) (F : En → En → M En) : Prop :=
  ∀ {r sa : Addr} {H0 : Hp} {O0 O : List Addr} {σ σa : St} {δ δa : En} {s : S} {H : Hp}, Gd B r sa H0 O0 W O σ δ s H → Gd B r sa H0 O0 W O σa δa s H → ∀ Q : List V → Hp → Prop,
    (F δ δa s).post (fun δ' s' => ∀ vs O' H', Gd B r sa H0 O0 W O' (setAll σa is vs) δ' s' H' → Same (hid H O) (hid H' O') → vs.length = is.length → Q vs H') (EPost B E r sa H0 O0) → ta σ H Q
def pNil : En → En → M En := fun _ δa s => .ok δa s
def pCons (W : List Nat) (i : Nat) (f : En → M Cell) (F : En → En → M En) : En → En → M En := fun δ δa s => (f δ s).bind fun c s1 => (lift (putC W i c δa) s1).bind fun δb s2 => F δ δb s2
theorem rps_nil : RdPs B W E tNil [] pNil := by
  intro r sa H0 O0 O σ σa δ δa s H gd ga Q h
  exact h [] O H ga (Same.refl _) rfl
/-- behind a cell: the other slots stand too -/
theorem Gd.cell {r sa : Addr} {H0 : Hp} {O0 O O' : List Addr} {σ σa : St} {δ δa : En} {s s' : S} {H H' : Hp} (g : Gd B r sa H0 O0 W O σa δa s H) (g' : Gd B r sa H0 O0 W O' σ δ s' H') (sm : Same (hid H O) (hid H' O')) (sb : ∀ a ∈ O, a ∈ O') (kp : ∀ a vs, a ∈ O → a ≠ r → H a = some (.lst vs) → H' a = some (.lst vs)) :
    Gd B r sa H0 O0 W O' σa δa s' H' := by
  refine ⟨g.len, g'.row, g.r0, g'.dom, g.dom0, g'.sub, g'.frsh, g'.stp, fun j e hj q => ?_, fun j e hj q => ?_, g.inj⟩
  · obtain ⟨v, h1, h2⟩ := g.val j e hj q
    exact ⟨v, h1, h2.mono sm⟩
  · obtain ⟨p, vs, ds, h1, h2, h3, h4, h5, h6⟩ := g.own j e hj q
    exact ⟨p, vs, ds, h1, h2, sb p h3, h4, kp p vs h3 (fun z => h4 (z ▸ g.r0)) h5, h6.mono sm⟩
theorem rps_cons {te : TE} {tr : TA} {i : Nat} {is : List Nat} {f : En → M Cell} {F : En → En → M En} (h1 : RdP B W E te f) (h2 : RdPs B W E tr is F) : RdPs B W E (tCons te tr) (i :: is) (pCons W i f F) := by
  intro r sa H0 O0 O σ σa δ δa s H gd ga Q hp
  refine h1 gd _ (post_mono (post_bind hp) (fun c s1 hx v O1 H1 g1 sm1 sb1 c1 k1 => ?_) (fun _ _ z => z))
  obtain ⟨δb, e, hy⟩ := post_lift (post_bind hx)
  have ga1 := ga.cell g1 sm1 sb1 k1
  have ga2 := ga1.putC (i := i) c1 (fun p _ hnp k d hk _ q z => by
    obtain ⟨p', _, _, _, q2, q3, _⟩ := ga.own k d hk q
    rw [z] at q2; injection (Option.some.inj q2) with w; injection w with w
    exact hnp (w ▸ q3)) e
  refine h2 g1 ga2 _ (post_mono hy (fun δ' s2 hz vs O' H' g' sm' hl => ?_) (fun _ _ z => z))
  exact hz (v :: vs) O' H' g' (sm1.trans sm') (by rw [List.length_cons, List.length_cons, hl])
def cPar (F : En → En → M En) : En → M Fl := fun δ s => (F δ δ s).bind fun δ' s1 => .ok (.next δ') s1
theorem rs_par {i j : Nat} {ta : TA} {F : En → En → M En} (h : RdPs B W E ta [i, j] F) : RdS B W E (tPar i j ta) (cPar F) := by
  intro r sa H0 O0 O σ δ s H gd D hp
  refine h gd gd _ (post_mono (post_bind hp) (fun δ' s1 hx vs O' H' g' sm' hl => ?_) (fun _ _ z => z))
  match vs, hl with
  | [v, w], _ => exact ⟨v, w, rfl, hx O' _ H' g' sm'⟩
theorem rs_par3 {i j l : Nat} {ta : TA} {F : En → En → M En} (h : RdPs B W E ta [i, j, l] F) : RdS B W E (tPar3 i j l ta) (cPar F) := by
  intro r sa H0 O0 O σ δ s H gd D hp
  refine h gd gd _ (post_mono (post_bind hp) (fun δ' s1 hx vs O' H' g' sm' hl => ?_) (fun _ _ z => z))
  match vs, hl with
  | [u, v, w], _ => exact ⟨u, v, w, rfl, hx O' _ H' g' sm'⟩
def gNames : List Nat → TGs
  | [] => gNil
  | i :: is => gCons (gName i) (gNames is)
theorem gNames_all : ∀ (is : List Nat) (vs : List V) (σ : St) (H : Hp) (Q : St → Hp → Prop), vs.length = is.length → Q (setAll σ is vs) H → gNames is vs σ H Q
  | [], [], σ, H, Q, _, q => ⟨rfl, q⟩
  | i :: is, v :: vs, σ, H, Q, hl, q => ⟨v, vs, rfl, gNames_all is vs (σ.set i (some v)) H Q (by simpa using hl) q⟩
theorem rs_parT {is : List Nat} {ta : TA} {F : En → En → M En} (h : RdPs B W E ta is F) (hz : is.length ≤ 100000 := by decide) : RdS B W E (tAsg (tTup ta) (gTup B.K is.length (gNames is))) (cPar F) := by
  intro r sa H0 O0 O σ δ s H gd D hp
  refine h gd gd _ (post_mono (post_bind hp) (fun δ' s1 hx vs O' H' g' sm' hl => ⟨Evl.sz_of (by omega), fun p hn => ?_⟩) (fun _ _ z => z))
  refine ⟨p, vs, rfl, SqT.of upd_same, hl, gNames_all is vs σ _ _ hl (hx O' _ _ (g'.step (Stp.new hn) (g'.row.new hn)) (sm'.trans (hid_new hn g'.dom).1))⟩
end
end PV

namespace PV
open PySem L2
/-! ### comprehensions -/
def wipeD (δ : En) : List Nat → En
  | [] => δ
  | v :: vs => (wipeD δ vs).set v none
theorem wipeD_len (δ : En) : ∀ vs, (wipeD δ vs).length = δ.length
  | [] => rfl
  | v :: vs => by unfold wipeD; rw [List.length_set, wipeD_len δ vs]
theorem wipeD_some {δ : En} {i : Nat} {d : D} : ∀ {vs : List Nat}, (wipeD δ vs)[i]? = some (some d) → δ[i]? = some (some d) ∧ i ∉ vs
  | [], h => ⟨h, by simp⟩
  | v :: vs, h => by
    unfold wipeD at h
    by_cases e : v = i
    · subst e
      rw [List.getElem?_set] at h
      split at h
      · split at h <;> cases h
      · rename_i z; exact absurd rfl z
    · rw [List.getElem?_set_ne e] at h
      have ⟨h1, h2⟩ := wipeD_some h
      exact ⟨h1, by simp [h2, Ne.symm e]⟩
theorem wipe_get {σ : St} {i : Nat} : ∀ {vs : List Nat}, i ∉ vs → (wipe σ vs)[i]? = σ[i]?
  | [], _ => rfl
  | v :: vs, h => by
    unfold wipe
    have ⟨h1, h2⟩ : i ≠ v ∧ i ∉ vs := by simpa using h
    rw [List.getElem?_set_ne (Ne.symm h1), wipe_get h2]
theorem wipe_at {σ : St} {i : Nat} : ∀ {vs : List Nat}, i ∈ vs → i < σ.length → (wipe σ vs)[i]? = some none
  | [], h, _ => by cases h
  | v :: vs, h, hl => by
    unfold wipe
    by_cases e : v = i
    · subst e; rw [List.getElem?_set_self (by rw [wipe_length]; exact hl)]
    · rw [List.getElem?_set_ne e]
      exact wipe_at (by simpa [Ne.symm e] using h) hl
theorem wipe_ext {σ σ' : St} {vs : List Nat} (hl : σ'.length = σ.length) (h : ∀ i, i ∉ vs → σ'[i]? = σ[i]?) : wipe σ' vs = wipe σ vs := by
  refine List.ext_getElem? fun i => ?_
  by_cases hi : i ∈ vs
  · rcases Nat.lt_or_ge i σ.length with q | q
    · rw [wipe_at hi q, wipe_at hi (by omega)]
    · rw [List.getElem?_eq_none (by rw [wipe_length]; omega), List.getElem?_eq_none (by rw [wipe_length]; omega)]
  · rw [wipe_get hi, wipe_get hi, h i hi]
section
variable {B : Bs} {W : List Nat} {E : Option XK}
theorem Gd.wipe {r sa : Addr} {H0 : Hp} {O0 O : List Addr} {σ : St} {δ : En} {s : S} {H : Hp} (g : Gd B r sa H0 O0 W O σ δ s H) (vs : List Nat) : Gd B r sa H0 O0 W O (L2.wipe σ vs) (wipeD δ vs) s H := by
  refine ⟨by rw [wipe_length, wipeD_len, g.len], g.row, g.r0, g.dom, g.dom0, g.sub, g.frsh, g.stp, fun j e hj q => ?_, fun j e hj q => ?_, fun j k p e e' hj hk ne q1 q2 q3 q4 => ?_⟩
  · have ⟨h1, h2⟩ := wipeD_some q
    rw [wipe_get h2]; exact g.val j e hj h1
  · have ⟨h1, h2⟩ := wipeD_some q
    rw [wipe_get h2]; exact g.own j e hj h1
  · have ⟨h1, h2⟩ := wipeD_some q1
    have ⟨h3, h4⟩ := wipeD_some q2
    rw [wipe_get h2] at q3
    rw [wipe_get h4] at q4
    exact g.inj j k p e e' hj hk ne h1 h3 q3 q4
def compL (tg : D → En → Option En) (c : En → M Bool) (f : En → M D) (δ : En) : List D → M (List D)
  | [], s => .ok [] s
  | d :: ds, s => (lift (tg d δ) s).bind fun δ1 s1 => (c δ1 s1).bind fun b s2 => if b then (f δ1 s2).bind fun y s3 => (compL tg c f δ ds s3).bind fun ys s4 => .ok (y :: ys) s4 else compL tg c f δ ds s2
def cComp (vs : List Nat) (src : En → M (List D)) (tg : D → En → Option En) (c : En → M Bool) (f : En → M D) : En → M (List D) := fun δ s => (src δ s).bind fun ds s1 => if ds.length ≤ 100000 then compL tg c f (wipeD δ vs) ds s1 else .stuck
def cYes : En → M Bool := fun _ s => .ok true s
theorem rt_yes : RdT B W E tYes cYes := by
  intro r sa H0 O0 O σ δ s H gd Q h
  exact h H (Stp.refl H) gd.row
theorem post_bind' {α β : Type} {o : Out α} {k : α → S → Out β} {P : β → S → Prop} {R : Err → S → Prop} (h : o.post (fun a s => (k a s).post P R) R) : (o.bind k).post P R := by
  cases o <;> exact h
theorem rl_comp {wi : TI} {src : En → M (List D)} {ts vs : List Nat} {g : TG} {tg : D → En → Option En} {tt : TT} {c : En → M Bool} {te : TE} {f : En → M D} (hi : RdI B W none wi src) (hg : RdG B W ts g tg) (ht : RdT B W none tt c) (he : RdE B W none te f) (hs : (ts.all fun i => decide (i ∈ vs)) = true := by rfl) :
    RdL B W none (tLc wi g tt te vs) (cComp vs src tg c f) := by
  intro r sa H0 O0 O σ δ s H gd Q h
  refine hi gd _ (post_mono (post_bind h) (fun ds s1 hx J H1 st ra wk Dl hD => ?_) (fun _ _ z => z))
  have gd1 := gd.step st ra
  have nD : H Dl = none := by
    cases q : H Dl with
    | none => rfl
    | some u =>
      by_cases z : Dl = r
      · subst z; rw [ra.1] at hD; cases hD
      · rw [st Dl u z q] at hD; cases hD
  have ⟨nO, n0⟩ := gd1.fresh0 hD
  have nr : Dl ≠ r := fun z => nO (z ▸ gd.rO)
  obtain ⟨gd2, sm2⟩ := gd1.grow (p := Dl) (o := .lst []) (Stp.new hD) (ra.new hD) hD upd_same
  split at hx
  · rename_i hlen
    refine ⟨fun i m H2 => m = ds.length - i ∧ i ≤ ds.length ∧ ∃ acc ws s2, acc.length ≤ i ∧ Gd B r sa H0 O0 W (Dl :: O) σ δ s2 H2 ∧ H2 Dl = some (.lst ws) ∧ Reps B r (hid H2 (Dl :: O)) ws acc ∧ Stp r H1 H2 ∧ Same (hid H1 O) (hid H2 (Dl :: O)) ∧
        (compL tg c f (wipeD δ vs) (ds.drop i) s2).post (fun ys s' => ∀ p vs H', Stp r H H' → RowAt B r sa H' s' → H p = none → H' p = some (.lst vs) → Reps B r (hid H' (p :: O)) vs (acc ++ ys) → Q (.ref p) H') (fun _ _ => False),
      ⟨ds.length, by omega, by omega, [], [], s1, Nat.le_refl _, gd2, upd_same, .nil, Stp.new hD, sm2, by rw [List.drop_zero]; exact hx⟩, ?_⟩
    rintro i m H2 ⟨rfl, hle, acc, ws, s2, hal, g2, hD2, rws, st2, sm, hp⟩
    obtain ⟨w1, w2, w3⟩ := wk (Dl :: O) H2 sm g2.dom
    by_cases hlt : i < ds.length
    · refine .inr ⟨w1 i hlt, fun H' => ∃ acc ws s2, acc.length ≤ i + 1 ∧ Gd B r sa H0 O0 W (Dl :: O) σ δ s2 H' ∧ H' Dl = some (.lst ws) ∧ Reps B r (hid H' (Dl :: O)) ws acc ∧ Stp r H1 H' ∧ Same (hid H1 O) (hid H' (Dl :: O)) ∧
        (compL tg c f (wipeD δ vs) (ds.drop (i + 1)) s2).post (fun ys s' => ∀ p vs H', Stp r H H' → RowAt B r sa H' s' → H p = none → H' p = some (.lst vs) → Reps B r (hid H' (p :: O)) vs (acc ++ ys) → Q (.ref p) H') (fun _ _ => False),
        fun H' ⟨acc, ws, s2, a, b⟩ => ⟨ds.length - (i + 1), by omega, rfl, by omega, acc, ws, s2, a, b⟩, fun x H' hy => ?_⟩
      obtain ⟨sm3, rp⟩ := w3 i x H' ds[i] (by simp [hlt]) hy
      have g3 := g2.step (Stp.of sm3) (g2.row.same sm3)
      have smh := hid_same (O := Dl :: O) sm3
      rw [List.drop_eq_getElem_cons hlt] at hp
      obtain ⟨δ3, e, hp⟩ := post_lift (post_bind hp)
      refine hg (g3.wipe vs) rp e _ fun σ3 g4 ag lg => ?_
      refine ⟨by rw [wipe_ext lg fun j hj => ag j fun z => hj (of_decide_eq_true (List.all_eq_true.mp hs j z)), wipe_ext (wipe_length σ vs) fun j hj => wipe_get hj], ?_⟩
      refine ht g4 _ (post_mono (post_bind hp) (fun b s3 hq H3 st3 ra3 => ?_) (fun _ _ z => z))
      have g5 := g4.step st3 ra3
      have st13 : Stp r H2 H3 := (Stp.of sm3).trans st3
      have smf := smh.trans (st3.hid g2.rO)
      cases b with
      | false =>
        show ∃ acc ws s2, _
        exact ⟨acc, ws, s3, by omega, g2.step st13 ra3, st13 Dl _ nr hD2, rws.mono smf, st2.trans st13, sm.trans smf, hq⟩
      | true =>
        show te σ3 H3 _
        refine he g5 _ (post_mono (post_bind hq) (fun y s4 hq y' H4 st4 ra4 rp4 => ?_) (fun _ _ z => z))
        have st14 : Stp r H2 H4 := st13.trans st4
        have sm4 := smf.trans (st4.hid g2.rO)
        have g6 := g2.step st14 ra4
        have hD4 := st14 Dl _ nr hD2
        refine ⟨ws, hD4, Evl.sz_lt (by rw [rws.length]; omega), acc ++ [y], ws ++ [y'], s4, by simp; omega, ?_, upd_same, ?_, ?_, ?_, ?_⟩
        · have eh : hid (upd H4 Dl (.lst (ws ++ [y']))) (Dl :: O) = hid H4 (Dl :: O) := hid_upd List.mem_cons_self
          refine ⟨g6.len, ⟨by rw [upd_ne (Ne.symm nr)]; exact g6.row.1, g6.row.2.elim (fun ⟨o, q⟩ => .inl ⟨o, by rw [upd_ne (ne_of q hD4 (fun z => nomatch z))]; exact q⟩) .inr⟩, g6.r0, fun q hq => ?_, g6.dom0, g6.sub, g6.frsh, fun a o na ha => ?_, fun j d hj q => ?_, fun j d hj q => ?_, g6.inj⟩
          · by_cases z : q = Dl
            · rw [z, upd_same]; exact fun z => nomatch z
            · rw [upd_ne z]; exact g6.dom q hq
          · have : a ≠ Dl := fun z => by
              subst z
              have := gd.stp a o na ha
              rw [nD] at this; cases this
            rw [upd_ne this]; exact g6.stp a o na ha
          · rw [eh]; exact g6.val j d hj q
          · rw [eh]
            obtain ⟨p', vs', ds', q1, q2, q3, q4, q5, q6⟩ := g6.own j d hj q
            obtain ⟨p2, _, _, _, q2', q3', _⟩ := gd.own j d hj q
            have ep : p2 = p' := by rw [q2] at q2'; injection (Option.some.inj q2') with w; injection w with w; exact w.symm
            have : p' ≠ Dl := fun z => nO (z ▸ ep ▸ q3')
            exact ⟨p', vs', ds', q1, q2, q3, q4, by rw [upd_ne this]; exact q5, q6⟩
        · rw [hid_upd List.mem_cons_self]
          exact (rws.mono sm4).append (.cons rp4 .nil)
        · intro a o na ha
          have : a ≠ Dl := ne_of_none ha hD
          rw [upd_ne this]; exact (st2.trans st14) a o na ha
        · rw [hid_upd List.mem_cons_self]; exact sm.trans sm4
        · refine post_mono (post_bind hq) (fun ys s5 hz p vs H' a b c d e => hz p vs H' a b c d ?_) (fun _ _ z => z)
          rw [List.append_assoc] at e; exact e
    · have e : i = ds.length := by omega
      subst e
      rw [List.drop_length] at hp
      refine .inl ⟨w2, hp Dl ws H2 (st.trans st2) g2.row nD hD2 (by rw [List.append_nil]; exact rws)⟩
  · exact hx.elim
def cLc (vs : List Nat) (src : En → M (List D)) (tg : D → En → Option En) (c : En → M Bool) (f : En → M D) : En → M D := cOfL (cComp vs src tg c f)
theorem rd_comp {wi : TI} {src : En → M (List D)} {ts vs : List Nat} {g : TG} {tg : D → En → Option En} {tt : TT} {c : En → M Bool} {te : TE} {f : En → M D} (hi : RdI B W none wi src) (hg : RdG B W ts g tg) (ht : RdT B W none tt c) (he : RdE B W none te f) (hs : (ts.all fun i => decide (i ∈ vs)) = true := by rfl) :
    RdE B W none (tLc wi g tt te vs) (cLc vs src tg c f) := rd_ofL (rl_comp hi hg ht he hs)

/-! ### defs -/
def startD (n : Nat) (ds : List D) : En := ds.map some ++ List.replicate (n - ds.length) none
def endD : Fl → S → Out D
  | .ret d, s => .ok d s
  | .next _, s => .ok .non s
  | _, _ => .stuck
def runD (np n : Nat) (body : En → M Fl) : List D → M D := fun ds s => if ds.length = np then (body (startD n ds) s).bind endD else .stuck
def spD (B : Bs) (np : Nat) (F : List D → M D) : Sp := fun vs H Q _ => vs.length = np ∧ ∃ (r sa : Addr) (O : List Addr) (ds : List D) (s : S), RowAt B r sa H s ∧ r ∈ O ∧ (∀ p ∈ O, H p ≠ none) ∧ Reps B r (hid H O) vs ds ∧ (F ds s).post (OkV B r sa H O Q) (fun _ _ => False)
def cCall (np : Nat) (F : List D → M D) (fr : En → M (List D)) : En → M D := fun δ s => (fr δ s).bind fun ds s1 => if ds.length = np then F ds s1 else .stuck
theorem rd_call {np : Nat} {F : List D → M D} {tr : TA} {fr : En → M (List D)} (ha : RdA B W none tr fr) : RdE B W none (tCall (spD B np F) [] E0 tr) (cCall np F fr) := by
  intro r sa H0 O0 O σ δ s H gd Q h
  refine ha gd _ (post_mono (post_bind h) (fun x s1 hx v H1 st ra rp => ?_) (fun _ _ z => z))
  split at hx
  · rename_i hl
    rw [List.append_nil]
    exact ⟨by rw [rp.length]; exact hl, r, sa, O, x, s1, ra, gd.rO, (gd.step st ra).dom, rp, post_mono hx (fun d s2 q w H2 st2 ra2 rp2 => q w H2 (st.trans st2) ra2 rp2) (fun _ _ z => z)⟩
  · exact hx.elim
theorem start_get {N : List Str} {vs : List V} {i : Nat} : (L2.start N vs)[i]? = if i < vs.length then vs[i]?.map some else if i < vs.length + (N.length - vs.length) then some none else none := by
  unfold L2.start
  split
  · rename_i h
    rw [List.getElem?_append_left (by rw [List.length_map]; exact h), List.getElem?_map]
  · rename_i h
    rw [List.getElem?_append_right (by rw [List.length_map]; omega), List.length_map, List.getElem?_replicate]
    split
    · rw [if_pos (by omega)]
    · rw [if_neg (by omega)]
theorem startD_some {n : Nat} {ds : List D} {i : Nat} {d : D} (h : (startD n ds)[i]? = some (some d)) : ds[i]? = some d := by
  unfold startD at h
  rcases Nat.lt_or_ge i ds.length with q | q
  · rw [List.getElem?_append_left (by rw [List.length_map]; exact q), List.getElem?_map] at h
    obtain ⟨d', h1, h2⟩ := Option.map_eq_some_iff.mp h
    cases h2; exact h1
  · rw [List.getElem?_append_right (by rw [List.length_map]; exact q), List.getElem?_replicate] at h
    split at h <;> cases h
theorem fn_ok {P : Program} {w : World} {mg : Str → Option Value} {base : Heap} {x qual : Str} {st : Stmt} {f : Addr} {fd : FuncData} {N ps : List Str} {k : Nat} {body : En → M Fl} (F : Fun B.K x qual st f fd) (Sc : FnScope N ps (defScope st)) (hW : (W.all fun i => decide (ps.length ≤ i)) = true)
    (hb : ∀ (cdv : Value) (A : Around) (outer : List Env) (s : Shared) (H : Hp) (E : XK), Room k (A.deeper (PyProof.Rows.envOfC qual (defScope st) s.heap.objs.size f cdv)) →
      ∃ t, PSs (cxOf CX0 P w B.K mg base N qual (defScope st) f cdv A outer s H E).nox (defBody st) t ∧ RdS B W none t body) : FnOk P w B.K mg base CX0 (k + 1) f fd ps (spD B ps.length (runD ps.length N.length body)) := by
  refine F.ok Sc (fun vs H Q E h => h.1) (fun cdv A outer s H vs Q E hr h => ?_)
  obtain ⟨t, hP, hR⟩ := hb cdv A outer s H E hr
  obtain ⟨hl, r, sa, O, ds, s0, ra, hrO, hdom, rp, hp⟩ := h
  refine ⟨t, hP, ?_⟩
  have hds : ds.length = ps.length := by rw [← rp.length]; exact hl
  have hp : ((body (startD N.length ds) s0).bind endD).post (OkV B r sa H O Q) (fun _ _ => False) := by
    have e : runD ps.length N.length body ds s0 = (body (startD N.length ds) s0).bind endD := by unfold runD; rw [if_pos hds]
    rw [← e]; exact hp
  have gd : Gd B r sa H O W O (L2.start N vs) (startD N.length ds) s0 H := by
    refine ⟨?_, ra, hrO, hdom, hdom, fun _ h => h, fun _ h => .inl h, Stp.refl H, fun i d hi q => ?_, fun i d hi q => ?_, fun i j p d e hi hj ne q => ?_⟩
    · unfold L2.start startD; simp [rp.length]
    · obtain ⟨v, h1, h2⟩ := rp.get i d (startD_some q)
      refine ⟨v, ?_, h2⟩
      rw [start_get, if_pos (List.getElem?_eq_some_iff.mp h1).1, h1]; rfl
    · have h1 := startD_some q
      have h2 := (List.getElem?_eq_some_iff.mp h1).1
      have h3 := of_decide_eq_true (List.all_eq_true.mp hW i hi)
      omega
    · have h1 := startD_some q
      have h2 := (List.getElem?_eq_some_iff.mp h1).1
      have h3 := of_decide_eq_true (List.all_eq_true.mp hW i hi)
      omega
  refine hR gd _ (post_mono (post_bind hp) (fun fl s1 hx => ?_) (fun _ _ z => z))
  cases fl with
  | next δ' => exact fun O' σ' H' g' _ => hx .non H' g'.stp g'.row .non
  | ret d => exact fun v H' st' ra' rp' => hx v H' st' ra' rp'
  | brk δ' => exact hx.elim
  | cont δ' => exact hx.elim
end
end PV

namespace PV
open PySem L2
/-! ### built-ins -/
section
variable {B : Bs}
def gLen : List D → Option D
  | [.lst ds] => some (.int ds.length)
  | [.tup ds] => some (.int ds.length)
  | [.str z] => if z.length ≤ 100000 then some (.int z.length) else none
  | _ => none
theorem Reps.one {r : Addr} {H : Hp} {xs : List V} {d : D} (h : Reps B r H xs [d]) : ∃ v, xs = [v] ∧ Rep B r H v d := by cases h with | cons h hs => cases hs; exact ⟨_, rfl, h⟩
theorem Reps.two {r : Addr} {H : Hp} {xs : List V} {d e : D} (h : Reps B r H xs [d, e]) : ∃ v w, xs = [v, w] ∧ Rep B r H v d ∧ Rep B r H w e := by cases h with | cons h hs => cases hs with | cons h' hs => cases hs; exact ⟨_, _, rfl, h, h'⟩
theorem cs_len : CaS B (fun xs H Q => ∃ x n, xs = [x] ∧ LenV B.K x H n ∧ Q (.int n) H) gLen := by
  intro r O H xs ds d Q hd rp e q
  unfold gLen at e
  split at e
  · cases e
    obtain ⟨v, rfl, rq⟩ := rp.one
    obtain ⟨a, vs, rfl, h1, h2⟩ := rq.inv_lst
    exact ⟨_, _, rfl, .inl ⟨vs, SqL.of (hid_le _ _ h1), rfl⟩, by rw [h2.length]; exact q _ H (Same.refl H) (.int _)⟩
  · cases e
    obtain ⟨v, rfl, rq⟩ := rp.one
    obtain ⟨a, vs, rfl, h1, h2⟩ := rq.inv_tup
    exact ⟨_, _, rfl, .inr ⟨vs, sqT_le h1, rfl⟩, by rw [h2.length]; exact q _ H (Same.refl H) (.int _)⟩
  · split at e
    · rename_i hz
      cases e
      obtain ⟨v, rfl, rq⟩ := rp.one
      cases rq
      exact ⟨_, _, rfl, ⟨Evl.sz_of hz, rfl⟩, q _ H (Same.refl H) (.int _)⟩
    · cases e
  · cases e
def gAbs : List D → Option D | [.int i] => some (.int (if i < 0 then -i else i)) | _ => none
theorem cs_abs : CaS B (fun xs H Q => ∃ i, xs = [.int i] ∧ Q (.int (if i < 0 then -i else i)) H) gAbs := by
  intro r O H xs ds d Q hd rp e q
  unfold gAbs at e
  split at e
  · cases e; obtain ⟨v, rfl, rq⟩ := rp.one; cases rq
    exact ⟨_, rfl, q _ H (Same.refl H) (.int _)⟩
  · cases e
def gInt : List D → Option D | [.int i] => some (.int i) | [.bl b] => some (.int (if b then 1 else 0)) | _ => none
theorem cs_int : CaS B (fun xs H Q => (∃ i, xs = [.int i] ∧ Q (.int i) H) ∨ ∃ k, xs = [.bl k] ∧ Q (.int (if k then 1 else 0)) H) gInt := by
  intro r O H xs ds d Q hd rp e q
  unfold gInt at e
  split at e
  · cases e; obtain ⟨v, rfl, rq⟩ := rp.one; cases rq
    exact .inl ⟨_, rfl, q _ H (Same.refl H) (.int _)⟩
  · cases e; obtain ⟨v, rfl, rq⟩ := rp.one; cases rq
    exact .inr ⟨_, rfl, q _ H (Same.refl H) (.int _)⟩
  · cases e
def gMin2 : List D → Option D | [.int i, .int j] => some (.int (if j < i then j else i)) | _ => none
theorem cs_min2 : CaS B (fun xs H Q => ∃ i j, xs = [.int i, .int j] ∧ Q (.int (if j < i then j else i)) H) gMin2 := by
  intro r O H xs ds d Q hd rp e q
  unfold gMin2 at e
  split at e
  · cases e; obtain ⟨v, w, rfl, r1, r2⟩ := rp.two; cases r1; cases r2
    exact ⟨_, _, rfl, q _ H (Same.refl H) (.int _)⟩
  · cases e
def gMax2 : List D → Option D | [.int i, .int j] => some (.int (if j > i then j else i)) | _ => none
theorem cs_max2 : CaS B (fun xs H Q => ∃ i j, xs = [.int i, .int j] ∧ Q (.int (if j > i then j else i)) H) gMax2 := by
  intro r O H xs ds d Q hd rp e q
  unfold gMax2 at e
  split at e
  · cases e; obtain ⟨v, w, rfl, r1, r2⟩ := rp.two; cases r1; cases r2
    exact ⟨_, _, rfl, q _ H (Same.refl H) (.int _)⟩
  · cases e
def asInts : List D → Option (List Int)
  | [] => some []
  | .int i :: ds => (asInts ds).map (i :: ·)
  | _ :: _ => none
theorem asInts_some : ∀ {ds : List D} {ns : List Int}, asInts ds = some ns → ds = ns.map D.int
  | [], _, e => by cases e; rfl
  | .int i :: ds, ns, e => by
    obtain ⟨ms, h1, h2⟩ := Option.map_eq_some_iff.mp (e : (asInts ds).map (i :: ·) = some ns)
    subst h2; rw [asInts_some h1]; rfl
  | .non :: _, _, e | .bl _ :: _, _, e | .str _ :: _, _, e | .tup _ :: _, _, e | .lst _ :: _, _, e | .dic _ _ :: _, _, e | .sal _ _ :: _, _, e | .row :: _, _, e => by cases e
@[simp] theorem asInts_map (ns : List Int) : asInts (ns.map D.int) = some ns := by
  induction ns with
  | nil => rfl
  | cons n ns ih => show (asInts (ns.map D.int)).map (n :: ·) = _; rw [ih]; rfl
def asBls : List D → Option (List Bool)
  | [] => some []
  | .bl i :: ds => (asBls ds).map (i :: ·)
  | _ :: _ => none
theorem asBls_some : ∀ {ds : List D} {ns : List Bool}, asBls ds = some ns → ds = ns.map D.bl
  | [], _, e => by cases e; rfl
  | .bl i :: ds, ns, e => by
    obtain ⟨ms, h1, h2⟩ := Option.map_eq_some_iff.mp (e : (asBls ds).map (i :: ·) = some ns)
    subst h2; rw [asBls_some h1]; rfl
  | .non :: _, _, e | .int _ :: _, _, e | .str _ :: _, _, e | .tup _ :: _, _, e | .lst _ :: _, _, e | .dic _ _ :: _, _, e | .sal _ _ :: _, _, e | .row :: _, _, e => by cases e
@[simp] theorem asBls_map (ns : List Bool) : asBls (ns.map D.bl) = some ns := by
  induction ns with
  | nil => rfl
  | cons n ns ih => show (asBls (ns.map D.bl)).map (n :: ·) = _; rw [ih]; rfl
def gSum : List D → Option D | [.lst ds] => (asInts ds).map fun ns => .int ns.sum | _ => none
theorem cs_sum : CaS B (rSum B.K) gSum := by
  intro r O H xs ds d Q hd rp e q
  unfold gSum at e
  split at e
  · obtain ⟨ns, h1, h2⟩ := Option.map_eq_some_iff.mp e
    subst h2
    obtain ⟨v, rfl, rq⟩ := rp.one
    obtain ⟨a, vs, rfl, h3, h4⟩ := rq.inv_lst
    rw [asInts_some h1] at h4
    rw [h4.ints] at h3
    exact ⟨a, ns, rfl, SqL.of (hid_le _ _ h3), q _ H (Same.refl H) (.int _)⟩
  · cases e
def gAll : List D → Option D | [.lst ds] => (asBls ds).map fun ns => .bl (ns.all id) | _ => none
theorem cs_all : CaS B (rAll B.K) gAll := by
  intro r O H xs ds d Q hd rp e q
  unfold gAll at e
  split at e
  · obtain ⟨ns, h1, h2⟩ := Option.map_eq_some_iff.mp e
    subst h2
    obtain ⟨v, rfl, rq⟩ := rp.one
    obtain ⟨a, vs, rfl, h3, h4⟩ := rq.inv_lst
    rw [asBls_some h1] at h4
    rw [h4.bls] at h3
    exact ⟨a, ns, rfl, SqL.of (hid_le _ _ h3), q _ H (Same.refl H) (.bl _)⟩
  · cases e
def gAny : List D → Option D | [.lst ds] => (asBls ds).map fun ns => .bl (ns.any id) | _ => none
theorem cs_any : CaS B (rAny B.K) gAny := by
  intro r O H xs ds d Q hd rp e q
  unfold gAny at e
  split at e
  · obtain ⟨ns, h1, h2⟩ := Option.map_eq_some_iff.mp e
    subst h2
    obtain ⟨v, rfl, rq⟩ := rp.one
    obtain ⟨a, vs, rfl, h3, h4⟩ := rq.inv_lst
    rw [asBls_some h1] at h4
    rw [h4.bls] at h3
    exact ⟨a, ns, rfl, SqL.of (hid_le _ _ h3), q _ H (Same.refl H) (.bl _)⟩
  · cases e
def maxL : List Int → Int | [] => 0 | n :: ns => ns.foldl max n
theorem foldl_max : ∀ (ns : List Int) (n : Int), ns.foldl max n ∈ n :: ns ∧ ∀ y ∈ n :: ns, y ≤ ns.foldl max n
  | [], n => ⟨by simp, by simp⟩
  | m :: ns, n => by
    have ⟨h1, h2⟩ := foldl_max ns (max n m)
    show ns.foldl max (max n m) ∈ _ ∧ ∀ y ∈ n :: m :: ns, y ≤ ns.foldl max (max n m)
    have h3 := h2 (max n m) (by simp)
    refine ⟨?_, fun y hy => ?_⟩
    · rcases List.mem_cons.mp h1 with e | e
      · rw [e]
        rcases Int.le_total n m with z | z
        · rw [Int.max_eq_right z]; simp
        · rw [Int.max_eq_left z]; simp
      · simp [e]
    · rcases List.mem_cons.mp hy with e | e
      · subst e; omega
      · rcases List.mem_cons.mp e with e | e
        · subst e; omega
        · exact h2 y (by simp [e])
theorem maxL_spec {ns : List Int} (h : ns ≠ []) : maxL ns ∈ ns ∧ ∀ y ∈ ns, y ≤ maxL ns := by
  cases ns with
  | nil => exact absurd rfl h
  | cons n ns => exact foldl_max ns n
def gMaxL : List D → Option D | [.lst ds] => (match asInts ds with | some (n :: ns) => some (.int (maxL (n :: ns))) | _ => none) | _ => none
theorem cs_maxL : CaS B (rMax B.K) gMaxL := by
  intro r O H xs ds d Q hd rp e q
  unfold gMaxL at e
  split at e
  · split at e
    · rename_i n ns h1
      cases e
      obtain ⟨v, rfl, rq⟩ := rp.one
      obtain ⟨a, vs, rfl, h3, h4⟩ := rq.inv_lst
      rw [asInts_some h1] at h4
      rw [h4.ints] at h3
      refine ⟨a, n :: ns, rfl, SqL.of (hid_le _ _ h3), by simp, fun m hm hy => ?_⟩
      have ⟨z1, z2⟩ := maxL_spec (ns := n :: ns) (by simp)
      have : m = maxL (n :: ns) := Int.le_antisymm (z2 m hm) (hy _ z1)
      subst this
      exact q _ H (Same.refl H) (.int _)
    · cases e
  · cases e
def gTuple : List D → Option D | [.lst ds] => some (.tup ds) | [.tup ds] => some (.tup ds) | _ => none
theorem cs_tuple : CaS B (fun xs H Q => ∃ p ys, xs = [.ref p] ∧ ((SqL B.K H p ys ∧ ∀ l, H l = none → Q (.ref l) (upd H l (.tup ys))) ∨ (SqT B.K H p ys ∧ Q (.ref p) H))) gTuple := by
  intro r O H xs ds d Q hd rp e q
  unfold gTuple at e
  split at e
  · cases e
    obtain ⟨v, rfl, rq⟩ := rp.one
    obtain ⟨a, vs, rfl, h3, h4⟩ := rq.inv_lst
    exact ⟨a, vs, rfl, .inl ⟨SqL.of (hid_le _ _ h3), fun p hp => q _ _ (same_new hp) (new_tup hp hd h4)⟩⟩
  · cases e
    obtain ⟨v, rfl, rq⟩ := rp.one
    obtain ⟨a, vs, rfl, h3, h4⟩ := rq.inv_tup
    exact ⟨a, vs, rfl, .inr ⟨sqT_le h3, q _ H (Same.refl H) (.tup h3 h4)⟩⟩
  · cases e
def gList : List D → Option D | [.lst ds] => some (.lst ds) | [.tup ds] => some (.lst ds) | _ => none
theorem cs_list : CaS B (fun xs H Q => ∃ p ys, xs = [.ref p] ∧ (SqL B.K H p ys ∨ SqT B.K H p ys) ∧ ∀ l, H l = none → Q (.ref l) (upd H l (.lst ys))) gList := by
  intro r O H xs ds d Q hd rp e q
  unfold gList at e
  split at e
  · cases e
    obtain ⟨v, rfl, rq⟩ := rp.one
    obtain ⟨a, vs, rfl, h3, h4⟩ := rq.inv_lst
    exact ⟨a, vs, rfl, .inl (SqL.of (hid_le _ _ h3)), fun p hp => q _ _ (same_new hp) (new_lst hp hd h4)⟩
  · cases e
    obtain ⟨v, rfl, rq⟩ := rp.one
    obtain ⟨a, vs, rfl, h3, h4⟩ := rq.inv_tup
    exact ⟨a, vs, rfl, .inr (sqT_le h3), fun p hp => q _ _ (same_new hp) (new_lst hp hd h4)⟩
  · cases e
/-! ### isinstance with a built-in type -/
def tyD : D → Option String
  | .non => some "NoneType" | .bl _ => some "bool" | .int _ => some "int" | .str _ => some "str" | .tup _ => some "tuple" | .lst _ => some "list" | .dic _ _ => some "dict" | _ => none
def gIsi (T : String) (d : D) : Option D := match tyD d with | some t => (kitB t T).map .bl | none => none
def cIsi (T : String) (f : En → M D) : En → M D := cUn (gIsi T) f
theorem rep_ty {r : Addr} {H : Hp} {v : V} {d : D} {t : String} (h : Rep B r H v d) (e : tyD d = some t) : TyX B.K H v (.type t) := by
  cases h with
  | non => cases e; exact .base .non
  | bl b => cases e; exact .base (.bl b)
  | int b => cases e; exact .base (.int b)
  | str b => cases e; exact .base (.str b)
  | tup h _ =>
    cases e
    rcases h with (h | ⟨o, h⟩) | ⟨o, its, n, h1, h2, _⟩
    · exact .base (.tup h)
    · exact .fTuple h
    · exact .kTuple h1 h2
  | lst h _ => cases e; exact .base (.lst h)
  | dic h _ _ _ => cases e; exact .base (.dK h)
  | sal _ _ _ => cases e
  | row => cases e
theorem rd_isi {W : List Nat} {E : Option XK} {ta : TE} {fa : En → M D} {T : String} (ha : RdE B W E ta fa) : RdE B W E (tCB (rIsi B.K) (tCons ta (tCons (tC (.ty T)) tNil))) (cIsi T fa) := by
  intro r sa H0 O0 O σ δ s H gd Q h
  refine ha gd _ (post_mono (post_bind h) (fun x s1 hx v H1 st ra rp => ?_) (fun _ _ z => z))
  obtain ⟨d, e, hd⟩ := post_lift hx
  unfold gIsi at e
  split at e
  · rename_i t ht
    obtain ⟨b, h1, h2⟩ := Option.map_eq_some_iff.mp e
    subst h2
    exact ⟨v, .ty T, .type t, .type T, b, rfl, .ty T, rep_ty (rp.mono hid_le) ht, kit_ty h1, hd _ H1 st ra (.bl b)⟩
  · cases e
/-! ### xs.index(x) -/
def gIndex : D → List D → Option D
  | .lst ds, [x] => if scal x && ds.all scal then (ds.findIdx? (eqS · x)).map fun (j : Nat) => .int (j : Int) else none
  | _, _ => none
def cMt (g : D → List D → Option D) (f : En → M D) (fr : En → M (List D)) : En → M D := fun δ s => (f δ s).bind fun d s1 => (fr δ s1).bind fun ds s2 => lift (g d ds) s2
theorem rd_index {W : List Nat} {E : Option XK} {ta : TE} {fa : En → M D} {tr : TA} {fr : En → M (List D)} (ha : RdE B W E ta fa) (hr : RdA B W E tr fr) (hl : ∀ δ s d s1, fa δ s = .ok d s1 → ∃ ds, d = .lst ds) :
    RdE B W E (tBM B.K "list" (rIndex B.K) ta tr) (cMt gIndex fa fr) := by
  intro r sa H0 O0 O σ δ s H gd Q h
  have h' := post_bind h
  have hl := hl δ s
  refine ha gd _ (?_ : (fa δ s).post _ _)
  cases q : fa δ s with
  | stuck => rw [q] at h'; exact h'
  | err e s' => rw [q] at h'; exact h'
  | ok x s1 =>
    rw [q] at h'
    obtain ⟨ds, rfl⟩ := hl x s1 q
    intro v H1 st ra rp
    obtain ⟨a, vs, rfl, h3, h4⟩ := rp.inv_lst
    refine ⟨.inl ⟨rfl, vs, SqL.of (hid_le _ _ h3)⟩, hr (gd.step st ra) _ (post_mono (post_bind h') (fun ys s2 hy w H2 st2 ra2 rp2 => ?_) (fun _ _ z => z.mono st))⟩
    obtain ⟨d, e, hd⟩ := post_lift hy
    have sm := st2.hid gd.rO
    unfold gIndex at e
    split at e
    · rename_i es y hz
      cases hz
      split at e
      · rename_i hf
        rw [Bool.and_eq_true] at hf
        obtain ⟨j, h5, h6⟩ := Option.map_eq_some_iff.mp e
        subst h6
        obtain ⟨y', rfl, ry⟩ := rp2.one
        have h4' := h4.mono sm
        obtain ⟨hj, hj1, hj2⟩ := List.findIdx?_eq_some_iff_getElem.mp h5
        obtain ⟨z, z1, z2⟩ := h4'.get j ds[j] (by simp [hj])
        refine ⟨a, vs, y', j, z, rfl, rfl, SqL.of (hid_le _ _ (sm _ _ h3)), by rw [← rep_flat ry]; exact hf.1, by rw [← reps_all h4']; exact hf.2, z1, by rw [rep_eqV z2 ry]; exact hj1, fun m z' hm hz' => ?_, hd _ H2 (st.trans st2) ra2 (.int _)⟩
        obtain ⟨dm, dm1, dm2⟩ := h4'.get' m z' hz'
        rw [rep_eqV dm2 ry]
        have hml : m < ds.length := by omega
        have e3 : ds[m] = dm := by
          have := List.getElem?_eq_getElem hml
          rw [this] at dm1; exact Option.some.inj dm1
        have := hj2 m hm
        rw [e3] at this
        simpa using this
      · cases e
    · cases e
end
end PV

namespace PV
open PySem L2
/-! ### for x in a list or a tuple -/
def iSeq (K : PySem.W.Frag) (tl : TE) : TI := fun σ H R => tl σ H fun x H1 => ∃ a, x = .ref a ∧ (((∃ xs, SqL K H1 a xs) ∧ R (Itl K a) H1) ∨ ((∃ xs, SqT K H1 a xs) ∧ R (Itt K a) H1))
theorem pi_seq {X : Cx} {tg l : Expr} {tl : TE} (hl : PE X l tl) : PI X tg l (iSeq X.K tl) := by
  refine ⟨fun pins s σ H R I h => ?_⟩
  refine thn (hl.run pins s σ H _ I h) fun v s1 ⟨x, H1, I1, r1, q1⟩ => ?_
  obtain ⟨a, e, q1⟩ := q1
  subst e
  cases r1
  rcases q1 with ⟨⟨xs, hq⟩, q⟩ | ⟨⟨xs, hq⟩, q⟩
  · obtain ⟨its, rv, p, hz⟩ := I1.list hq
    refine wpAny_pyIter_list p.isList ?_
    refine ⟨s1.heap.objs.size, [s1.heap.objs.size], _, _, H1, rfl, I1.kept (t' := s1.toks) fun b o e => Heap.get?_push_of_some _ e, turn_list a _, ⟨_, Heap.get?_push_size _ rfl, rfl, rfl⟩, fun b hb => ?_, q⟩
    have e : b = s1.heap.objs.size := by simpa using hb
    subst e
    exact I1.fpOk (Nat.le_refl _) (I1.hok.fresh (Nat.le_refl _))
  · obtain ⟨its, rv, p, hz⟩ := I1.tuple hq
    refine wpAny_pyIter_tuple (show s1.heap.IsTuple a its.toArray from p) ?_
    refine ⟨s1.heap.objs.size, [s1.heap.objs.size], _, _, H1, rfl, I1.kept (t' := s1.toks) fun b o e => Heap.get?_push_of_some _ e, turn_tuple a _, ⟨_, Heap.get?_push_size _ rfl, rfl, rfl⟩, fun b hb => ?_, q⟩
    have e : b = s1.heap.objs.size := by simpa using hb
    subst e
    exact I1.fpOk (Nat.le_refl _) (I1.hok.fresh (Nat.le_refl _))
section
variable {B : Bs} {W : List Nat} {E : Option XK}
theorem ri_seq {tl : TE} {f : En → M D} (ha : RdE B W E tl f) : RdI B W E (iSeq B.K tl) (cItU f) := by
  intro r sa H0 O0 O σ δ s H gd R h
  refine ha gd _ (post_mono (post_bind h) (fun x s1 hx v H1 st ra rp => ?_) (fun _ _ z => z))
  obtain ⟨ds, e, hd⟩ := post_lift hx
  cases x <;> simp [seqD] at e
  · subst e
    obtain ⟨a, vs, rfl, h1, h2⟩ := rp.inv_tup
    exact ⟨a, rfl, .inr ⟨⟨vs, sqT_le h1⟩, hd _ H1 st ra (wk_tup h1 h2)⟩⟩
  · subst e
    obtain ⟨a, vs, rfl, h1, h2⟩ := rp.inv_lst
    exact ⟨a, rfl, .inl ⟨⟨vs, SqL.of (hid_le _ _ h1)⟩, hd _ H1 st ra (wk_list h1 h2)⟩⟩
/-- a value that is a list -/
def cAsL (f : En → M D) : En → M D := fun δ s => (f δ s).bind fun d s1 => (lift (asLst d) s1).bind fun ds s2 => .ok (.lst ds) s2
theorem rd_asL {te : TE} {f : En → M D} (h : RdE B W E te f) : RdE B W E te (cAsL f) := by
  intro r sa H0 O0 O σ δ s H gd Q hp
  refine h gd _ (post_mono (post_bind hp) (fun x s1 hx v H1 st ra rp => ?_) (fun _ _ z => z))
  obtain ⟨ds, e, hd⟩ := post_lift (post_bind hx)
  cases asLst_some e
  exact hd v H1 st ra rp
theorem cAsL_lst {f : En → M D} {δ : En} {s s1 : S} {d : D} (h : cAsL f δ s = .ok d s1) : ∃ ds, d = .lst ds := by
  unfold cAsL at h
  cases e : f δ s with
  | stuck => rw [e] at h; cases h
  | err x y => rw [e] at h; cases h
  | ok x y =>
    rw [e] at h
    cases q : asLst x with
    | none => rw [bind_ok, q] at h; cases h
    | some ds => rw [bind_ok, q] at h; cases h; exact ⟨ds, rfl⟩
theorem rd_index' {ta : TE} {fa : En → M D} {tr : TA} {fr : En → M (List D)} (ha : RdE B W E ta fa) (hr : RdA B W E tr fr) : RdE B W E (tBM B.K "list" (rIndex B.K) ta tr) (cMt gIndex (cAsL fa) fr) :=
  rd_index (rd_asL ha) hr fun _ _ _ _ h => cAsL_lst h
end
end PV

namespace PV
open PySem L2
/-! ### the draws -/
def draw (s : S) (m : Int) : Int × S :=
  if 0 < s.rest then (s.rest % m, { s with rest := s.rest / m })
  else if s.ns.length < s.pos + 1 then
    let mx := (s.mix * 48271 + 11) % 2147483647
    (mx / 7 % m, { s with pos := s.pos + 1, mix := mx })
  else
    let c := s.ns.getD s.pos 0
    (c % m, { s with pos := s.pos + 1, mix := (s.mix * 48271 + c + 11) % 2147483647, rest := if 10 ^ 18 ≤ c then c / m else s.rest })
theorem draw_lt (s : S) {m : Int} (h : 0 < m) : 0 ≤ (draw s m).1 ∧ (draw s m).1 < m := by
  unfold draw
  split
  · exact ⟨Int.emod_nonneg _ (by omega), Int.emod_lt_of_pos _ h⟩
  · split
    · exact ⟨Int.emod_nonneg _ (by omega), Int.emod_lt_of_pos _ h⟩
    · exact ⟨Int.emod_nonneg _ (by omega), Int.emod_lt_of_pos _ h⟩
def drawF : List D → M D := fun ds s => match ds with
  | [.row, .int m] => if 0 < m ∧ m < 1073741824 then .ok (.int (draw s m).1) (draw s m).2 else .stuck
  | _ => .stuck
section
variable (K : PySem.W.Frag)
abbrev tk_ix (k : Int) : TE := tOp (rIxL K) (tVar 0) (tC (.int k))
abbrev tk_int (t : TE) : TE := tCB (fun xs H Q => (∃ i, xs = [.int i] ∧ Q (.int i) H) ∨ ∃ k, xs = [.bl k] ∧ Q (.int (if k then 1 else 0)) H) (tCons t tNil)
abbrev tk_mod (a b : TE) : TE := tOp (rI (fun _ j => 0 < j) fun i j => .int (i % j)) a b
abbrev tk_div (a b : TE) : TE := tOp (rI CDiv fun i j => .int (i / j)) a b
abbrev tk_add (a b : TE) : TE := tOp (rI0 fun i j => .int (i + j)) a b
abbrev tk_sub (a b : TE) : TE := tOp (rI0 fun i j => .int (i - j)) a b
abbrev tk_mul (a b : TE) : TE := tOp (rI CMul fun i j => .int (i * j)) a b
abbrev tk_put (k : Int) (t : TE) : TS := tAsg t (gSub (tVar 0) (tC (.int k)) rSetL)
abbrev tk_len (t : TE) : TE := tCB (fun xs H Q => ∃ p ys, xs = [.ref p] ∧ (SqL K H p ys ∨ SqT K H p ys) ∧ Q (.int ys.length) H) (tCons t tNil)
abbrev tk_pow : TE := tOp (rI CPow fun i j => .int (i ^ j.toNat)) (tC (.int 10)) (tC (.int 18))
def t_taken : TS :=
  tSeq (tIfS (tTest (tOp (rI0 fun i j => .bl (decide (j < i))) (tk_ix K 3) (tC (.int 0))))
    (tSeq (tAsg (tk_mod (tk_int (tk_ix K 3)) (tVar 1)) (gName 2)) (tSeq (tk_put 3 (tk_div (tk_ix K 3) (tVar 1))) (tRet (tVar 2)))) tNext)
  (tSeq (tk_put 1 (tk_add (tk_ix K 1) (tC (.int 1))))
  (tSeq (tIfS (tTest (tOp (rI0 fun i j => .bl (decide (j < i))) (tk_ix K 1) (tk_len K (tk_ix K 0))))
    (tSeq (tk_put 2 (tk_mod (tk_int (tk_add (tk_mul (tk_ix K 2) (tC (.int 48271))) (tC (.int 11)))) (tC (.int 2147483647)))) (tRet (tk_mod (tk_int (tk_div (tk_ix K 2) (tC (.int 7)))) (tVar 1)))) tNext)
  (tSeq (tAsg (tOp (rIxL K) (tk_ix K 0) (tk_sub (tk_ix K 1) (tC (.int 1)))) (gName 3))
  (tSeq (tk_put 2 (tk_mod (tk_int (tk_add (tk_add (tk_mul (tk_ix K 2) (tC (.int 48271))) (tVar 3)) (tC (.int 11)))) (tC (.int 2147483647))))
  (tSeq (tIfS (tTest (tOp (rI0 fun i j => .bl (decide (j ≤ i))) (tVar 3) tk_pow)) (tk_put 3 (tk_div (tVar 3) (tVar 1))) tNext)
  (tRet (tk_mod (tk_int (tVar 3)) (tVar 1))))))))
end
theorem ix4 {K : PySem.W.Frag} {H : Hp} {r : Addr} {a b c d : V} (h : H r = some (.lst [a, b, c, d])) : SqL K H r [a, b, c, d] := SqL.of h
theorem Scr.upd {K : PySem.W.Frag} {H : Hp} {sa r : Addr} {xs vs ws : List V} (h : Scr K H sa xs) (hr : H r = some (.lst vs)) : Scr K (upd H r (.lst ws)) sa xs :=
  h.elim (fun ⟨o, q⟩ => .inl ⟨o, by rw [upd_ne (ne_of q hr (fun z => nomatch z))]; exact q⟩) .inr
theorem Stp.row {r : Addr} {H H' : Hp} {o : HO} (h : Stp r H H') : Stp r H (upd H' r o) := fun a u na e => by rw [upd_ne na]; exact h a u na e
theorem taken_rd {B : Bs} {r sa : Addr} {H : Hp} {s : S} {m : Int} {D : Ends} {σ : St} (hσ : σ = [some (.ref r), some (.int m), none, none]) (h0 : 0 < m) (h1 : m < 1073741824) (ra : RowAt B r sa H s)
    (q : ∀ H', Stp r H H' → RowAt B r sa H' (draw s m).2 → D.rt (.int (draw s m).1) H') : t_taken B.K D σ H := by
  subst hσ
  obtain ⟨hr, hs⟩ := ra
  refine ⟨_, rfl, _, _, _, _, rfl, rfl, ix4 hr, rfl, _, _, rfl, rfl, _, rfl, ite2 (fun c1' => ?_) (fun c1' => ?_)⟩
  · have c1 : 0 < s.rest := of_decide_eq_true c1'
    have ed : draw s m = (s.rest % m, { s with rest := s.rest / m }) := by unfold draw; rw [if_pos c1]
    rw [ed] at q
    refine ⟨_, rfl, _, _, _, _, rfl, rfl, ix4 hr, rfl, .inl ⟨_, rfl, _, rfl, _, _, rfl, rfl, h0, ?_⟩⟩
    refine ⟨_, rfl, _, _, _, _, rfl, rfl, ix4 hr, rfl, _, rfl, _, _, rfl, rfl, ⟨h0, h1⟩, _, rfl, r, _, _, 3, rfl, rfl, hr, rfl, ?_⟩
    exact ⟨_, rfl, q _ (Stp.refl H).row ⟨upd_same, hs.upd hr⟩⟩
  · have c1 : ¬ 0 < s.rest := fun z => c1' (decide_eq_true z)
    refine ⟨_, rfl, _, _, _, _, rfl, rfl, ix4 hr, rfl, _, _, rfl, rfl, _, rfl, r, _, _, 1, rfl, rfl, hr, rfl, ?_⟩
    have hr1 : upd H r (.lst ([V.ref sa, .int (s.pos : Int), .int s.mix, .int s.rest].set 1 (.int ((s.pos : Int) + 1)))) r = some (.lst [.ref sa, .int ((s.pos : Int) + 1), .int s.mix, .int s.rest]) := upd_same
    have hs1 := hs.upd (ws := [V.ref sa, .int (s.pos : Int), .int s.mix, .int s.rest].set 1 (.int ((s.pos : Int) + 1))) hr
    have st1 : Stp r H (upd H r (.lst ([V.ref sa, .int (s.pos : Int), .int s.mix, .int s.rest].set 1 (.int ((s.pos : Int) + 1))))) := (Stp.refl H).row
    revert hr1 hs1 st1
    generalize upd H r (.lst ([V.ref sa, .int (s.pos : Int), .int s.mix, .int s.rest].set 1 (.int ((s.pos : Int) + 1)))) = H1
    intro hr1 hs1 st1
    refine ⟨_, rfl, _, _, _, _, rfl, rfl, ix4 hr1, rfl, _, rfl, _, _, _, _, rfl, rfl, ix4 hr1, rfl, _, _, rfl, .inl hs1.sq, _, _, rfl, rfl, _, rfl, ite2 (fun c2' => ?_) (fun c2' => ?_)⟩
    · have c2 : s.ns.length < s.pos + 1 := by
        have := of_decide_eq_true c2'
        rw [List.length_map] at this
        omega
      have ed : draw s m = ((s.mix * 48271 + 11) % 2147483647 / 7 % m, { s with pos := s.pos + 1, mix := (s.mix * 48271 + 11) % 2147483647 }) := by unfold draw; rw [if_neg c1, if_pos c2]
      rw [ed] at q
      refine ⟨_, rfl, _, _, _, _, rfl, rfl, ix4 hr1, rfl, _, _, rfl, rfl, .inr ⟨by decide, by decide⟩, _, _, rfl, rfl, .inl ⟨_, rfl, _, _, rfl, rfl, (show (0 : Int) < 2147483647 by decide), _, rfl, r, _, _, 2, rfl, rfl, hr1, rfl, ?_⟩⟩
      refine ⟨_, rfl, _, _, _, _, rfl, rfl, ix4 upd_same, rfl, _, _, rfl, rfl, ⟨by decide, by decide⟩, .inl ⟨_, rfl, _, rfl, _, _, rfl, rfl, h0, ?_⟩⟩
      exact q _ st1.row ⟨upd_same, hs1.upd hr1⟩
    · have c2 : ¬ s.ns.length < s.pos + 1 := fun z => c2' (decide_eq_true (by rw [List.length_map]; omega))
      have ed : draw s m = (s.ns.getD s.pos 0 % m, { s with pos := s.pos + 1, mix := (s.mix * 48271 + s.ns.getD s.pos 0 + 11) % 2147483647, rest := if 10 ^ 18 ≤ s.ns.getD s.pos 0 then s.ns.getD s.pos 0 / m else s.rest }) := by unfold draw; rw [if_neg c1, if_neg c2]
      rw [ed] at q
      have hp : s.pos < s.ns.length := by omega
      have hat : atI (s.ns.map V.int) ((s.pos : Int) + 1 - 1) = some (.int (s.ns.getD s.pos 0)) := by
        have : (s.pos : Int) + 1 - 1 = ((s.pos : Nat) : Int) := by omega
        rw [this]
        refine atI_nat ?_
        rw [List.getElem?_map, List.getElem?_eq_getElem hp, List.getD_eq_getElem?_getD, List.getElem?_eq_getElem hp]; rfl
      generalize s.ns.getD s.pos 0 = c at q hat
      refine ⟨_, rfl, _, _, _, _, rfl, rfl, ix4 hr1, rfl, _, rfl, _, _, _, _, rfl, rfl, ix4 hr1, rfl, _, _, rfl, rfl, _, _, _, _, rfl, rfl, hs1.sq, hat, ?_⟩
      refine ⟨_, rfl, _, _, _, _, rfl, rfl, ix4 hr1, rfl, _, _, rfl, rfl, .inr ⟨by decide, by decide⟩, _, rfl, _, _, rfl, rfl, _, _, rfl, rfl, .inl ⟨_, rfl, _, _, rfl, rfl, (show (0 : Int) < 2147483647 by decide), _, rfl, r, _, _, 2, rfl, rfl, hr1, rfl, ?_⟩⟩
      have hr2 : upd H1 r (.lst ([V.ref sa, .int ((s.pos : Int) + 1), .int s.mix, .int s.rest].set 2 (.int ((s.mix * 48271 + c + 11) % 2147483647)))) r = some (.lst [.ref sa, .int ((s.pos : Int) + 1), .int ((s.mix * 48271 + c + 11) % 2147483647), .int s.rest]) := upd_same
      have hs2 := hs1.upd (ws := [V.ref sa, .int ((s.pos : Int) + 1), .int s.mix, .int s.rest].set 2 (.int ((s.mix * 48271 + c + 11) % 2147483647))) hr1
      have st2 : Stp r H (upd H1 r (.lst ([V.ref sa, .int ((s.pos : Int) + 1), .int s.mix, .int s.rest].set 2 (.int ((s.mix * 48271 + c + 11) % 2147483647))))) := st1.row
      revert hr2 hs2 st2
      generalize upd H1 r (.lst ([V.ref sa, .int ((s.pos : Int) + 1), .int s.mix, .int s.rest].set 2 (.int ((s.mix * 48271 + c + 11) % 2147483647)))) = H2
      intro hr2 hs2 st2
      refine ⟨_, rfl, _, _, rfl, rfl, ⟨by decide, by decide, by decide⟩, _, _, rfl, rfl, _, rfl, ite2 (fun c3' => ?_) (fun c3' => ?_)⟩
      · have c3 : (10 : Int) ^ 18 ≤ c := of_decide_eq_true c3'
        rw [if_pos c3] at q
        refine ⟨_, rfl, _, rfl, _, _, rfl, rfl, ⟨h0, h1⟩, _, rfl, r, _, _, 3, rfl, rfl, hr2, rfl, ?_⟩
        refine ⟨_, rfl, .inl ⟨_, rfl, _, rfl, _, _, rfl, rfl, h0, ?_⟩⟩
        exact q _ st2.row ⟨upd_same, hs2.upd hr2⟩
      · have c3 : ¬ (10 : Int) ^ 18 ≤ c := fun z => c3' (decide_eq_true z)
        rw [if_neg c3] at q
        refine ⟨_, rfl, .inl ⟨_, rfl, _, rfl, _, _, rfl, rfl, h0, ?_⟩⟩
        exact q _ st2 ⟨hr2, hs2⟩
theorem taken_ok {B : Bs} {P : Program} {w : World} {mg : Str → Option Value} {base : Heap} {x qual : Str} {st : Stmt} {f : Addr} {fd : FuncData} {N : List Str} {ps : List Str} {k : Nat} (F : Fun B.K x qual st f fd) (Sc : FnScope N ps (defScope st)) (hN : N.length = 4) (hp : ps.length = 2)
    (hb : ∀ (cdv : Value) (A : Around) (outer : List Env) (s : Shared) (H : Hp) (E : XK), Room k (A.deeper (PyProof.Rows.envOfC qual (defScope st) s.heap.objs.size f cdv)) →
      PSs (cxOf CX0 P w B.K mg base N qual (defScope st) f cdv A outer s H E).nox (defBody st) (t_taken B.K)) : FnOk P w B.K mg base CX0 (k + 1) f fd ps (spD B 2 drawF) := by
  refine F.ok Sc (fun vs H Q E h => h.1.trans hp.symm) (fun cdv A outer s H vs Q E hr h => ⟨_, hb cdv A outer s H E hr, ?_⟩)
  obtain ⟨hl, r, sa, O, ds, s0, ra, hrO, hdom, rp, hq⟩ := h
  unfold drawF at hq
  split at hq
  · rename_i m
    obtain ⟨v, w', rfl, r1, r2⟩ := rp.two
    cases r1
    cases r2
    split at hq
    · rename_i hm
      exact taken_rd (by unfold L2.start; rw [hN]; rfl) hm.1 hm.2 ra fun H' st' ra' => hq _ H' st' ra' (.int _)
    · exact hq.elim
  · exact hq.elim
/-! ### the greatest common divisor, by recursion -/
theorem sh_int (i : Int) : SeqAt.shaped (.int i) = true := by simp [SeqAt.shaped, PyData.canLay0, PyData.depth]
theorem eqv_int (i j : Int) : PyData.eqv (.int i) (.int j) = (i == j) := by simp [PyData.eqv]
def egs : Nat → Int → Int → Option Int
  | 0, a, b => if b = 0 then some (if a < 0 then -a else a) else none
  | n + 1, a, b => if b = 0 then some (if a < 0 then -a else a) else if 0 < b then egs n b (a % b) else none
def gcdF (L : Nat) : List D → M D := fun ds s => match ds with
  | [.int a, .int b] => lift ((egs L a b).map D.int) s
  | _ => .stuck
def t_gcd (K : PySem.W.Frag) (tr : TE) : TS := tRet (tIf (tTest (tOp (rEqD K) (tVar 1) (tC (.int 0)))) (tCB (fun xs H Q => ∃ i, xs = [.int i] ∧ Q (.int (if i < 0 then -i else i)) H) (tCons (tVar 0) tNil)) tr)
def t_gcdR (B : Bs) (n : Nat) : TE := tCall (spD B 2 (gcdF n)) [] E0 (tCons (tVar 1) (tCons (tOp (rI (fun _ j => 0 < j) fun i j => .int (i % j)) (tVar 0) (tVar 1)) tNil))
theorem gcd_ok {B : Bs} {P : Program} {w : World} {mg : Str → Option Value} {base : Heap} {x qual : Str} {st : Stmt} {f : Addr} {fd : FuncData} {N ps : List Str} (F : Fun B.K x qual st f fd) (Sc : FnScope N ps (defScope st)) (hN : N.length = 2) (hp : ps.length = 2)
    (hb : ∀ (n : Nat) (t : TE) (cdv : Value) (A : Around) (outer : List Env) (s : Shared) (H : Hp) (E : XK), Room n (A.deeper (PyProof.Rows.envOfC qual (defScope st) s.heap.objs.size f cdv)) →
      (n = 0 ∧ t = (fun _ _ _ => False) ∨ ∃ k, n = k + 1 ∧ FnOk P w B.K mg base CX0 n f fd ps (spD B 2 (gcdF k)) ∧ t = t_gcdR B k) →
      PSs (cxOf CX0 P w B.K mg base N qual (defScope st) f cdv A outer s H E).nox (defBody st) (t_gcd B.K t)) : ∀ L, FnOk P w B.K mg base CX0 (L + 1) f fd ps (spD B 2 (gcdF L)) := by
  intro L
  induction L with
  | zero =>
    refine F.ok Sc (fun vs H Q E h => h.1.trans hp.symm) (fun cdv A outer s H vs Q E hr h => ⟨_, hb 0 _ cdv A outer s H E hr (.inl ⟨rfl, rfl⟩), ?_⟩)
    obtain ⟨hl, r, sa, O, ds, s0, ra, hrO, hdom, rp, hq⟩ := h
    unfold gcdF at hq
    split at hq
    · rename_i a b
      obtain ⟨v, w', rfl, r1, r2⟩ := rp.two
      cases r1; cases r2
      obtain ⟨d, e, hq⟩ := post_lift hq
      obtain ⟨g, e1, e2⟩ := Option.map_eq_some_iff.mp e
      subst e2
      unfold egs at e1
      split at e1
      · rename_i hb0
        subst hb0
        cases e1
        have hs : L2.start N [V.int a, V.int 0] = [some (.int a), some (.int 0)] := by unfold L2.start; rw [hN]; rfl
        rw [hs]
        refine ⟨_, rfl, _, _, .int 0, .int 0, sh_int 0, sh_int 0, true, by rw [eqv_int]; rfl, iteT ?_⟩
        exact ⟨_, rfl, a, rfl, hq _ H (Stp.refl H) ra (.int _)⟩
      · cases e1
    · exact hq.elim
  | succ L ih =>
    refine F.ok Sc (fun vs H Q E h => h.1.trans hp.symm) (fun cdv A outer s H vs Q E hr h => ⟨_, hb (L + 1) _ cdv A outer s H E hr (.inr ⟨L, rfl, ih, rfl⟩), ?_⟩)
    obtain ⟨hl, r, sa, O, ds, s0, ra, hrO, hdom, rp, hq⟩ := h
    unfold gcdF at hq
    split at hq
    · rename_i a b
      obtain ⟨v, w', rfl, r1, r2⟩ := rp.two
      cases r1; cases r2
      obtain ⟨d, e, hq⟩ := post_lift hq
      obtain ⟨g, e1, e2⟩ := Option.map_eq_some_iff.mp e
      subst e2
      have hs : L2.start N [V.int a, V.int b] = [some (.int a), some (.int b)] := by unfold L2.start; rw [hN]; rfl
      rw [hs]
      unfold egs at e1
      split at e1
      · rename_i hb0
        subst hb0
        cases e1
        refine ⟨_, rfl, _, _, .int 0, .int 0, sh_int 0, sh_int 0, true, by rw [eqv_int]; rfl, iteT ?_⟩
        exact ⟨_, rfl, a, rfl, hq _ H (Stp.refl H) ra (.int _)⟩
      · rename_i hb0
        split at e1
        · rename_i hb1
          refine ⟨_, rfl, _, _, .int b, .int 0, sh_int b, sh_int 0, false, by rw [eqv_int, beq_eq_false_iff_ne.mpr hb0], iteF ?_⟩
          · refine ⟨_, rfl, _, rfl, _, rfl, _, _, rfl, rfl, hb1, ?_⟩
            refine ⟨rfl, r, sa, O, [.int b, .int (a % b)], s0, ra, hrO, hdom, .cons (.int _) (.cons (.int _) .nil), ?_⟩
            show (lift ((egs L b (a % b)).map D.int) s0).post _ _
            rw [e1]
            exact hq
        · cases e1
    · exact hq.elim
/-! ### the law's own def -/
def lawEn (n : Nat) : En := none :: some .row :: List.replicate (n - 2) none
def spLaw (K : PySem.W.Frag) : Sp := fun vs H Q _ => ∃ (a : Addr) (ns : List Int), vs = [.ref a] ∧ SqL K H a (ns.map V.int) ∧ Only H ∧ ns.length ≤ 63 ∧ ∀ H', Q (.bl true) H'
theorem law_ok {B : Bs} {W : List Nat} {P : Program} {w : World} {mg : Str → Option Value} {base : Heap} {x qual : Str} {st : Stmt} {f : Addr} {fd : FuncData} {N ps : List Str} {k : Nat} {seed : Int} {body : En → M Fl} (F : Fun B.K x qual st f fd) (Sc : FnScope N ps (defScope st)) (hN : 2 ≤ N.length) (hps : ps.length = 1) (hW : 1 ∉ W)
    (hb : ∀ (cdv : Value) (A : Around) (outer : List Env) (s : Shared) (H : Hp) (E : XK), Room k (A.deeper (PyProof.Rows.envOfC qual (defScope st) s.heap.objs.size f cdv)) →
      ∃ t, PSs (cxOf CX0 P w B.K mg base N qual (defScope st) f cdv A outer s H E).nox (defBody st) (tSeq (tAsg (tLst (tCons (tVar 0) (tCons (tC (.int 0)) (tCons (tC (.int seed)) (tCons (tC (.int 0)) tNil))))) (gName 1)) t) ∧ RdS B W none t body)
    (hl : ∀ ns : List Int, ns.length ≤ 63 → ∃ s', body (lawEn N.length) ⟨ns, 0, seed, 0⟩ = .ok (.ret (.bl true)) s') : FnOk P w B.K mg base CX0 (k + 1) f fd ps (spLaw B.K) := by
  refine F.ok Sc (fun vs H Q E h => ?_) (fun cdv A outer s H vs Q E hr h => ?_)
  · obtain ⟨a, ns, rfl, _⟩ := h; exact hps.symm
  obtain ⟨t, hP, hR⟩ := hb cdv A outer s H E hr
  obtain ⟨a, ns, rfl, hS, hO, hn, q⟩ := h
  refine ⟨_, hP, ?_⟩
  have hst : L2.start N [V.ref a] = some (.ref a) :: none :: List.replicate (N.length - 2) none := by
    unfold L2.start
    obtain ⟨m, hm⟩ : ∃ m, N.length = m + 2 := ⟨N.length - 2, by omega⟩
    rw [hm]
    show some (V.ref a) :: ([] ++ List.replicate (m + 2 - 1) none) = _
    rw [show m + 2 - 1 = m + 1 by omega, show m + 2 - 2 = m by omega, List.replicate_succ]; rfl
  rw [hst]
  refine ⟨_, rfl, by show 4 ≤ sizeLine; decide, fun r hr0 => ?_⟩
  have scr : Scr B.K H a (ns.map V.int) := by
    rcases hS with (h | ⟨o, h⟩) | h
    · rcases hO a with z | ⟨o, xs, z⟩
      · rw [z] at h; cases h
      · rw [z] at h; cases h
    · exact .inl ⟨o, h⟩
    · exact .inr fun H' => .inr h
  have ra : RowAt B r a (upd H r (.lst [.ref a, .int 0, .int seed, .int 0])) ⟨ns, 0, seed, 0⟩ := by
    refine ⟨upd_same, scr.elim (fun ⟨o, e⟩ => .inl ⟨o, ?_⟩) .inr⟩
    rw [upd_ne (ne_of_none e hr0)]; exact e
  have gd : Gd B r a (upd H r (.lst [.ref a, .int 0, .int seed, .int 0])) [r] W [r] (some (.ref a) :: some (.ref r) :: List.replicate (N.length - 2) none) (lawEn N.length) ⟨ns, 0, seed, 0⟩ (upd H r (.lst [.ref a, .int 0, .int seed, .int 0])) := by
    have key : ∀ i d, (lawEn N.length)[i]? = some (some d) → i = 1 ∧ d = .row := fun i d e => by
      unfold lawEn at e
      match i, e with
      | 0, e => cases e
      | 1, e => cases e; exact ⟨rfl, rfl⟩
      | i + 2, e =>
        have e : (List.replicate (N.length - 2) (none : Option D))[i]? = some (some d) := e
        rw [List.getElem?_replicate] at e
        split at e <;> cases e
    refine ⟨by unfold lawEn; simp, ra, by simp, fun p hp => ?_, fun p hp => ?_, fun _ h => h, fun _ h => .inl h, Stp.refl _, fun i d hi e => ?_, fun i d hi e => ?_, fun i j p d e hi hj ne z1 z2 _ _ => ?_⟩
    · have : p = r := by simpa using hp
      rw [this, upd_same]; exact fun z => nomatch z
    · have : p = r := by simpa using hp
      rw [this, upd_same]; exact fun z => nomatch z
    · obtain ⟨rfl, rfl⟩ := key i d e
      exact ⟨_, rfl, .row⟩
    · obtain ⟨rfl, rfl⟩ := key i d e
      exact absurd hi hW
    · have h1 := (key i d z1).1
      have h2 := (key j e z2).1
      exact ne (h1.trans h2.symm)
  obtain ⟨s', e⟩ := hl ns hn
  refine hR gd _ ?_
  rw [e]
  exact fun v H' _ _ rp => by cases rp; exact q H'
def fuelI (i : Nat) : En → Nat := fun δ => match δ[i]?.join with | some (.int n) => n.natAbs + 1 | _ => 0
def fuelL (i : Nat) : En → Nat := fun δ => match δ[i]?.join with | some (.lst n) => n.length + 1 | _ => 0
end PV

namespace PV
open PySem L2
/-! ### reckoning with the plain functions -/
section
variable {δ : En} {s : S}
@[simp] theorem e_var (i : Nat) : cVar i δ s = lift (δ[i]?.join) s := rfl
@[simp] theorem e_c (d : D) : cC d δ s = .ok d s := rfl
@[simp] theorem e_op (g) (fa fb : En → M D) : cOp g fa fb δ s = (fa δ s).bind fun x s1 => (fb δ s1).bind fun y s2 => lift (g x y) s2 := rfl
@[simp] theorem e_un (g) (fa : En → M D) : cUn g fa δ s = (fa δ s).bind fun x s1 => lift (g x) s1 := rfl
@[simp] theorem e_nil : cNil δ s = .ok [] s := rfl
@[simp] theorem e_cons (fa : En → M D) (fr) : cCons fa fr δ s = (fa δ s).bind fun x s1 => (fr δ s1).bind fun xs s2 => .ok (x :: xs) s2 := rfl
@[simp] theorem e_b (g) (fr) : cB g fr δ s = (fr δ s).bind fun ds s1 => lift (g ds) s1 := rfl
@[simp] theorem e_tst (fa : En → M D) : cTst fa δ s = (fa δ s).bind fun d s1 => lift (asB d) s1 := rfl
@[simp] theorem e_and (fa fb : En → M Bool) : cAnd fa fb δ s = (fa δ s).bind fun b s1 => if b then fb δ s1 else .ok false s1 := rfl
@[simp] theorem e_or (fa fb : En → M Bool) : cOr fa fb δ s = (fa δ s).bind fun b s1 => if b then .ok true s1 else fb δ s1 := rfl
@[simp] theorem e_not (fa : En → M Bool) : cNot fa δ s = (fa δ s).bind fun b s1 => .ok (!b) s1 := rfl
@[simp] theorem e_andV (fa fb : En → M D) : cAndV fa fb δ s = (fa δ s).bind fun d s1 => (lift (asB d) s1).bind fun b s2 => if b then fb δ s2 else .ok (.bl false) s2 := rfl
@[simp] theorem e_orV (fa fb : En → M D) : cOrV fa fb δ s = (fa δ s).bind fun d s1 => (lift (asB d) s1).bind fun b s2 => if b then .ok (.bl true) s2 else fb δ s2 := rfl
@[simp] theorem e_notV (fa : En → M D) : cNotV fa δ s = (fa δ s).bind fun d s1 => (lift (asB d) s1).bind fun b s2 => .ok (.bl (!b)) s2 := rfl
@[simp] theorem e_if (c) (fa fb : En → M D) : cIf c fa fb δ s = (c δ s).bind fun b s1 => if b then fa δ s1 else fb δ s1 := rfl
@[simp] theorem e_tup (fa) : cTup fa δ s = (fa δ s).bind fun ds s1 => if ds.length ≤ 100000 then .ok (.tup ds) s1 else .stuck := rfl
@[simp] theorem e_lst (fa) : cLst fa δ s = (fa δ s).bind fun ds s1 => if ds.length ≤ 100000 then .ok (.lst ds) s1 else .stuck := rfl
@[simp] theorem e_lstL (fa) : cLstL fa δ s = (fa δ s).bind fun ds s1 => if ds.length ≤ 100000 then .ok ds s1 else .stuck := rfl
@[simp] theorem e_chain (g g') (fa fb fc : En → M D) : cChain g g' fa fb fc δ s = (fa δ s).bind fun x s1 => (fb δ s1).bind fun y s2 => (lift (g x y) s2).bind fun z s3 => (lift (asB z) s3).bind fun b s4 => if b then (fc δ s4).bind fun w s5 => lift (g' y w) s5 else .ok (.bl false) s4 := rfl
@[simp] theorem e_call (n F fr) : cCall n F fr δ s = (fr δ s).bind fun ds s1 => if ds.length = n then F ds s1 else .stuck := rfl
@[simp] theorem e_isi (T) (fa : En → M D) : cIsi T fa δ s = (fa δ s).bind fun x s1 => lift (gIsi T x) s1 := rfl
@[simp] theorem e_next : cNext δ s = .ok (.next δ) s := rfl
@[simp] theorem e_ret (f : En → M D) : cRet f δ s = (f δ s).bind fun d s1 => .ok (.ret d) s1 := rfl
@[simp] theorem e_do (f : En → M D) : cDo f δ s = (f δ s).bind fun _ s1 => .ok (.next δ) s1 := rfl
@[simp] theorem e_ite (c F G) : cIte c F G δ s = (c δ s).bind fun b s1 => if b then F δ s1 else G δ s1 := rfl
@[simp] theorem e_set (i) (f : En → M D) : cSet i f δ s = (f δ s).bind fun d s1 => .ok (.next (δ.set i (some d))) s1 := rfl
@[simp] theorem e_setL (i) (f : En → M (List D)) : cSetL i f δ s = (f δ s).bind fun d s1 => .ok (.next (δ.set i (some (.lst d)))) s1 := rfl
@[simp] theorem e_asg (f : En → M D) (tg) : cAsg f tg δ s = (f δ s).bind fun d s1 => (lift (tg d δ) s1).bind fun δ' s2 => .ok (.next δ') s2 := rfl
@[simp] theorem e_aug (i g) (f : En → M D) : cAug i g f δ s = (lift (δ[i]?.join.bind asI) s).bind fun x s0 => (f δ s0).bind fun d s1 => (lift (asI d) s1).bind fun y s2 => .ok (.next (δ.set i (some (.int (g x y))))) s2 := rfl
@[simp] theorem e_stuck : cStuck δ s = .stuck := rfl
@[simp] theorem e_for (src tg F) : cFor src tg F δ s = (src δ s).bind fun ds s1 => forL tg F ds δ s1 := rfl
@[simp] theorem e_while (fu c F) : cWhile fu c F δ s = whileN c F (fu δ) δ s := rfl
@[simp] theorem e_ofL (f : En → M (List D)) : cOfL f δ s = (f δ s).bind fun ds s1 => .ok (.lst ds) s1 := rfl
@[simp] theorem e_lc (vs src tg c) (f : En → M D) : cLc vs src tg c f δ s = (src δ s).bind fun ds s1 => if ds.length ≤ 100000 then (compL tg c f (wipeD δ vs) ds s1).bind fun ds s2 => .ok (.lst ds) s2 else .stuck := by
  unfold cLc cOfL cComp
  cases src δ s with
  | ok ds s1 => simp only [bind_ok]; split <;> rfl
  | stuck => rfl
  | err e s => rfl
@[simp] theorem e_comp (vs src tg c) (f : En → M D) : cComp vs src tg c f δ s = (src δ s).bind fun ds s1 => if ds.length ≤ 100000 then compL tg c f (wipeD δ vs) ds s1 else .stuck := rfl
@[simp] theorem e_yes : cYes δ s = .ok true s := rfl
@[simp] theorem e_itU (f : En → M D) : cItU f δ s = (f δ s).bind fun d s1 => lift (seqD d) s1 := rfl
@[simp] theorem e_itA (g f) : cItA g f δ s = (f δ s).bind fun ds s1 => lift (g ds) s1 := rfl
@[simp] theorem e_app (i) (f : En → M D) : cApp i f δ s = (lift (ownL δ i) s).bind fun ds s0 => (f δ s0).bind fun d s1 => if ds.length < 100000 then .ok (.next (δ.set i (some (.lst (ds ++ [d]))))) s1 else .stuck := rfl
@[simp] theorem e_no : cNo δ s = .ok none s := rfl
@[simp] theorem e_part (f : En → M D) : cPart f δ s = (f δ s).bind fun d s1 => (lift (asI d) s1).bind fun i s2 => .ok (some i) s2 := rfl
@[simp] theorem e_sl (f : En → M D) (fl fh) : cSl f fl fh δ s = (f δ s).bind fun d s1 => (fl δ s1).bind fun lo s2 => (fh δ s2).bind fun hi s3 => lift (gSl d lo hi) s3 := rfl
@[simp] theorem e_mt (g) (f : En → M D) (fr) : cMt g f fr δ s = (f δ s).bind fun d s1 => (fr δ s1).bind fun ds s2 => lift (g d ds) s2 := rfl
@[simp] theorem e_asL (f : En → M D) : cAsL f δ s = (f δ s).bind fun d s1 => (lift (asLst d) s1).bind fun ds s2 => .ok (.lst ds) s2 := rfl
@[simp] theorem e_scal (f : En → M D) : cScal f δ s = calmO scal (f δ s) := rfl
@[simp] theorem e_pk (f : En → M Bool) : cPk f δ s = calmO (fun _ => true) (f δ s) := rfl
@[simp] theorem calm_ok {α : Type} (p : α → Bool) (a : α) : calmO p (.ok a s) = if p a then .ok a s else .stuck := rfl
@[simp] theorem e_par (F) : cPar F δ s = (F δ δ s).bind fun δ' s1 => .ok (.next δ') s1 := rfl
@[simp] theorem e_pnil (δa : En) : pNil δ δa s = .ok δa s := rfl
@[simp] theorem e_pcons (W i f F) (δa : En) : pCons W i f F δ δa s = (f δ s).bind fun c s1 => (lift (putC W i c δa) s1).bind fun δb s2 => F δ δb s2 := rfl
@[simp] theorem e_cV (f : En → M D) : cV f δ s = (f δ s).bind fun d s1 => .ok (.v d) s1 := rfl
@[simp] theorem e_cN (f : En → M (List D)) : cN f δ s = (f δ s).bind fun d s1 => .ok (.n d) s1 := rfl
@[simp] theorem e_seq (F G) : cSeq F G δ s = (F δ s).bind fun fl s1 => match fl with | .next δ' => G δ' s1 | fl => .ok fl s1 := rfl
end
@[simp] theorem g_add (i j : Int) : gAdd (.int i) (.int j) = some (.int (i + j)) := rfl
theorem g_addL (x y : List D) (h : x.length + y.length ≤ 100000) : gAdd (.lst x) (.lst y) = some (.lst (x ++ y)) := by simp [gAdd, h]
theorem g_addT (x y : List D) (h : x.length + y.length ≤ 100000) : gAdd (.tup x) (.tup y) = some (.tup (x ++ y)) := by simp [gAdd, h]
@[simp] theorem g_dif (i j : Int) : gDif (.int i) (.int j) = some (.int (i - j)) := rfl
@[simp] theorem g_lt (i j : Int) : gLt (.int i) (.int j) = some (.bl (decide (i < j))) := rfl
@[simp] theorem g_le (i j : Int) : gLe (.int i) (.int j) = some (.bl (decide (i ≤ j))) := rfl
@[simp] theorem g_gt (i j : Int) : gGt (.int i) (.int j) = some (.bl (decide (j < i))) := rfl
@[simp] theorem g_ge (i j : Int) : gGe (.int i) (.int j) = some (.bl (decide (j ≤ i))) := rfl
@[simp] theorem g_neg (i : Int) : gNeg (.int i) = some (.int (-i)) := rfl
@[simp] theorem g_asB (b : Bool) : asB (.bl b) = some b := rfl
@[simp] theorem g_asI (i : Int) : asI (.int i) = some i := rfl
@[simp] theorem g_asLst (l : List D) : asLst (.lst l) = some l := rfl
@[simp] theorem g_seqL (l : List D) : seqD (.lst l) = some l := rfl
@[simp] theorem g_seqT (l : List D) : seqD (.tup l) = some l := rfl
@[simp] theorem g_lenL (l : List D) : gLen [.lst l] = some (.int l.length) := rfl
@[simp] theorem g_lenT (l : List D) : gLen [.tup l] = some (.int l.length) := rfl
@[simp] theorem g_abs (i : Int) : gAbs [.int i] = some (.int i.natAbs) := by
  show some (D.int (if i < 0 then -i else i)) = _
  congr 2; split <;> omega
@[simp] theorem g_int (i : Int) : gInt [.int i] = some (.int i) := rfl
@[simp] theorem g_min2 (i j : Int) : gMin2 [.int i, .int j] = some (.int (min i j)) := by
  show some (D.int (if j < i then j else i)) = _
  congr 2; split <;> omega
@[simp] theorem g_max2 (i j : Int) : gMax2 [.int i, .int j] = some (.int (max i j)) := by
  show some (D.int (if j > i then j else i)) = _
  congr 2; split <;> omega
@[simp] theorem g_sum (ns : List Int) : gSum [.lst (ns.map D.int)] = some (.int ns.sum) := by simp [gSum]
@[simp] theorem g_all (ns : List Bool) : gAll [.lst (ns.map D.bl)] = some (.bl (ns.all id)) := by simp [gAll]
@[simp] theorem g_any (ns : List Bool) : gAny [.lst (ns.map D.bl)] = some (.bl (ns.any id)) := by simp [gAny]
@[simp] theorem g_tupL (l : List D) : gTuple [.lst l] = some (.tup l) := rfl
@[simp] theorem g_tupT (l : List D) : gTuple [.tup l] = some (.tup l) := rfl
@[simp] theorem g_ixT (l : List D) (i : Int) : gIx (.tup l) (.int i) = atI l i := rfl
@[simp] theorem g_ixL (l : List D) (i : Int) : gIx (.lst l) (.int i) = atI l i := rfl
@[simp] theorem at_nat {α : Type} (l : List α) (n : Nat) : atI l (n : Int) = l[n]? := by
  unfold atI ixN
  rw [if_pos (by omega)]
  split
  · simp
  · rename_i h
    rw [List.getElem?_eq_none (by omega)]; rfl
@[simp] theorem at_0 {α : Type} (l : List α) : atI l 0 = l[0]? := at_nat l 0
@[simp] theorem at_1 {α : Type} (l : List α) : atI l 1 = l[1]? := at_nat l 1
@[simp] theorem at_2 {α : Type} (l : List α) : atI l 2 = l[2]? := at_nat l 2
@[simp] theorem at_3 {α : Type} (l : List α) : atI l 3 = l[3]? := at_nat l 3
theorem at_m1 {α : Type} (l : List α) : atI l (-1) = l.getLast? := by
  rcases List.eq_nil_or_concat l with h | ⟨m, a, h⟩
  · subst h; rfl
  · subst h; rw [List.concat_eq_append, atI_last]; simp
@[simp] theorem kB_ii : kitB "int" "int" = some true := by decide +kernel
@[simp] theorem kB_ib : kitB "int" "bool" = some false := by decide +kernel
@[simp] theorem kB_it : kitB "int" "tuple" = some false := by decide +kernel
@[simp] theorem kB_tt : kitB "tuple" "tuple" = some true := by decide +kernel
@[simp] theorem kB_tb : kitB "tuple" "bool" = some false := by decide +kernel
@[simp] theorem kB_ti : kitB "tuple" "int" = some false := by decide +kernel
@[simp] theorem gi_int (T : String) (i : Int) : gIsi T (.int i) = (kitB "int" T).map .bl := rfl
@[simp] theorem gi_tup (T : String) (i : List D) : gIsi T (.tup i) = (kitB "tuple" T).map .bl := rfl
@[simp] theorem tg_name (i : Nat) (d : D) (δ : En) : tgName i d δ = some (δ.set i (some d)) := rfl
@[simp] theorem tg_nil (δ : En) : tgNil [] δ = some δ := rfl
@[simp] theorem tg_cons (t u d ds) (δ : En) : tgCons t u (d :: ds) δ = (t d δ).bind fun δ' => u ds δ' := rfl
@[simp] theorem tg_tup (n t ds) (δ : En) : tgTup n t (.tup ds) δ = if ds.length = n then t ds δ else none := rfl
@[simp] theorem wp_nil (δ : En) : wipeD δ [] = δ := rfl
@[simp] theorem wp_cons (δ : En) (v vs) : wipeD δ (v :: vs) = (wipeD δ vs).set v none := rfl
@[simp] theorem pc_v (W : List Nat) (i : Nat) (d : D) (δ : En) : putC W i (.v d) δ = if i ∈ W then none else some (δ.set i (some d)) := rfl
@[simp] theorem pc_n (W : List Nat) (i : Nat) (d : List D) (δ : En) : putC W i (.n d) δ = if i ∈ W then some (δ.set i (some (.lst d))) else none := rfl
@[simp] theorem ed_ret (d : D) (s : S) : endD (.ret d) s = .ok d s := rfl
@[simp] theorem ed_next (d : En) (s : S) : endD (.next d) s = .ok .non s := rfl
@[simp] theorem isN_non (d : D) : gIsN d .non = some (.bl (isNonB d)) := rfl
@[simp] theorem notN_non (d : D) : gNotN d .non = some (.bl (!isNonB d)) := rfl
@[simp] theorem isNon1 : isNonB .non = true := rfl
@[simp] theorem isNon2 (l : List D) : isNonB (.tup l) = false := rfl
@[simp] theorem isNon3 (l : Int) : isNonB (.int l) = false := rfl
@[simp] theorem ow_eq (δ : En) (i : Nat) : ownL δ i = δ[i]?.join.bind asLst := rfl
/-! ### sizes -/
/-- of at most n bits -/
def Bd (n : Nat) (x : Int) : Prop := x.natAbs < 2 ^ n
theorem Bd.mono {n m : Nat} {x : Int} (h : Bd n x) (hm : n ≤ m) : Bd m x := Nat.lt_of_lt_of_le h (Nat.pow_le_pow_right (by decide) hm)
theorem Bd.mul {n m : Nat} {x y : Int} (h : Bd n x) (h' : Bd m y) : Bd (n + m) (x * y) := by
  unfold Bd at *
  rw [Int.natAbs_mul, Nat.pow_add]; exact Nat.mul_lt_mul'' h h'
theorem Bd.log {n : Nat} {x : Int} (h : Bd n x) : x.natAbs.log2 ≤ n := by
  cases e : x.natAbs with
  | zero => simp
  | succ k =>
    have h1 : x.natAbs < 2 ^ n := h
    have := (Nat.log2_lt (by omega : x.natAbs ≠ 0)).mpr h1
    rw [e] at this; omega
theorem g_mul {n m : Nat} {i j : Int} (h : Bd n i) (h' : Bd m j) (hz : n + m < 1000000) : gMul (.int i) (.int j) = some (.int (i * j)) := by
  show (if okMul i j then some (D.int (i * j)) else none) = _
  unfold okMul
  rw [if_pos (decide_eq_true (by have := h.log; have := h'.log; omega))]
theorem g_fdiv {m : Nat} {i j : Int} (h0 : 0 < j) (h' : Bd m j) (hz : m < 9000) : gFdiv (.int i) (.int j) = some (.int (i / j)) := by
  show (if okDiv i j then some (D.int (i / j)) else none) = _
  unfold okDiv
  rw [if_pos (decide_eq_true ⟨h0, by have := h'.log; omega⟩)]
theorem g_mod {i j : Int} (h0 : 0 < j) : gMod (.int i) (.int j) = some (.int (i % j)) := by
  show (if okMod i j then some (D.int (i % j)) else none) = _
  unfold okMod
  rw [if_pos (decide_eq_true h0)]
@[simp] theorem g_pow (i j : Nat) (h : decide (j ≤ 1000000 ∧ i < 2 ^ 64) = true := by decide) : gPow (.int i) (.int j) = some (.int ((i : Int) ^ j)) := by
  have h := of_decide_eq_true h
  show (if okPow i j then some (D.int ((i : Int) ^ (j : Int).toNat)) else none) = _
  unfold okPow
  rw [if_pos (decide_eq_true ⟨by omega, by omega, by omega⟩)]; simp
/-! ### walks -/
theorem run_eq {np n : Nat} {body : En → M Fl} {ds : List D} {s : S} (h : ds.length = np) : runD np n body ds s = (body (startD n ds) s).bind endD := by unfold runD; rw [if_pos h]
theorem comp_pure {α : Type} {tg c f δ} {enc : α → D} {p : α → Bool} {e : α → D} : ∀ {xs : List α} {s : S}, (∀ x ∈ xs, ∃ δ1, tg (enc x) δ = some δ1 ∧ (∀ s, c δ1 s = .ok (p x) s) ∧ (p x = true → ∀ s, f δ1 s = .ok (e x) s)) → compL tg c f δ (xs.map enc) s = .ok ((xs.filter p).map e) s
  | [], s, _ => rfl
  | x :: xs, s, h => by
    obtain ⟨δ1, h1, h2, h3⟩ := h x (by simp)
    have ih := comp_pure (xs := xs) (s := s) (fun y hy => h y (by simp [hy]))
    rw [List.map_cons, compL, h1, lift_some, bind_ok, h2, bind_ok]
    cases hp : p x with
    | true => rw [if_pos rfl, h3 hp, bind_ok, ih, bind_ok, List.filter_cons, if_pos hp]; rfl
    | false => rw [if_neg (by simp), ih, List.filter_cons, if_neg (by simp [hp])]
theorem comp_map {α : Type} {tg f δ} {enc : α → D} {e : α → D} {xs : List α} {s : S} (h : ∀ x ∈ xs, ∃ δ1, tg (enc x) δ = some δ1 ∧ ∀ s, f δ1 s = .ok (e x) s) : compL tg cYes f δ (xs.map enc) s = .ok (xs.map e) s := by
  rw [comp_pure (p := fun _ => true) (e := e) fun x hx => by
    obtain ⟨δ1, h1, h2⟩ := h x hx
    exact ⟨δ1, h1, fun _ => rfl, fun _ => h2⟩]
  rw [List.filter_eq_self.mpr (fun _ _ => rfl)]
theorem for_inv {α : Type} {tg F} {enc : α → D} {xs : List α} (I : List α → En → S → Prop) {δ : En} {s : S} (h0 : I [] δ s)
    (hs : ∀ pre x post δ s, xs = pre ++ x :: post → I pre δ s → ∃ δ1 δ2 s2, tg (enc x) δ = some δ1 ∧ F δ1 s = .ok (.next δ2) s2 ∧ I (pre ++ [x]) δ2 s2) : ∃ δ' s', forL tg F (xs.map enc) δ s = .ok (.next δ') s' ∧ I xs δ' s' := by
  have key : ∀ (post pre : List α) (δ : En) (s : S), xs = pre ++ post → I pre δ s → ∃ δ' s', forL tg F (post.map enc) δ s = .ok (.next δ') s' ∧ I xs δ' s' := by
    intro post
    induction post with
    | nil => intro pre δ s e h; rw [List.append_nil] at e; subst e; exact ⟨δ, s, rfl, h⟩
    | cons x post ih =>
      intro pre δ s e h
      obtain ⟨δ1, δ2, s2, h1, h2, h3⟩ := hs pre x post δ s e h
      obtain ⟨δ', s', h4, h5⟩ := ih (pre ++ [x]) δ2 s2 (by rw [e]; simp) h3
      refine ⟨δ', s', ?_, h5⟩
      rw [List.map_cons, forL, h1, lift_some, bind_ok, h2, bind_ok]; exact h4
  exact key xs [] δ s rfl h0
end PV

namespace PV
open PySem L2
/-! ### numbers: divisors, fractions -/
theorem gcd_em (a b : Int) : Int.gcd b (a % b) = Int.gcd a b := by
  conv => rhs; rw [← Int.mul_ediv_add_emod a b]
  rw [Int.gcd_mul_left_add_left, Int.gcd_comm]
theorem egs_spec : ∀ (k : Nat) (a b : Int), 0 ≤ b → b < 2 ^ k → egs (2 * k) a b = some (Int.gcd a b)
  | 0, a, b, h0, h1 => by
    have : b = 0 := by omega
    subst this
    show (if (0 : Int) = 0 then some (if a < 0 then -a else a) else none) = _
    rw [if_pos rfl, Int.gcd_zero_right]; congr 1; split <;> omega
  | k + 1, a, b, h0, h1 => by
    show egs (2 * k + 1 + 1) a b = _
    by_cases hb : b = 0
    · subst hb
      show (if (0 : Int) = 0 then some (if a < 0 then -a else a) else _) = _
      rw [if_pos rfl, Int.gcd_zero_right]; congr 1; split <;> omega
    · have hb0 : 0 < b := by omega
      show (if b = 0 then _ else if 0 < b then egs (2 * k + 1) b (a % b) else none) = _
      rw [if_neg hb, if_pos hb0]
      have e1 : Int.gcd a b = Int.gcd b (a % b) := (gcd_em a b).symm
      have r0 := Int.emod_nonneg a hb
      have r1 := Int.emod_lt_of_pos a hb0
      rw [e1]
      generalize a % b = c at *
      by_cases hc : c = 0
      · subst hc
        show (if (0 : Int) = 0 then some (if b < 0 then -b else b) else _) = _
        rw [if_pos rfl, Int.gcd_zero_right]; congr 1; split <;> omega
      · have hc0 : 0 < c := by omega
        show (if c = 0 then _ else if 0 < c then egs (2 * k) c (b % c) else none) = _
        rw [if_neg hc, if_pos hc0]
        have q0 := Int.emod_nonneg b hc
        have q1 := Int.emod_lt_of_pos b hc0
        have q2 : b % c < 2 ^ k := by
          have e := Int.mul_ediv_add_emod b c
          have d1 : 1 ≤ b / c := by
            have := Int.ediv_le_ediv hc0 (show c ≤ b by omega)
            rw [Int.ediv_self (by omega)] at this; exact this
          have : c * 1 ≤ c * (b / c) := Int.mul_le_mul_of_nonneg_left d1 (by omega)
          rw [Int.pow_succ] at h1
          omega
        rw [egs_spec k c (b % c) q0 q2]
        rw [gcd_em]
def frD (q : Rat) : D := .tup [.int q.num, .int q.den]
theorem q_num {a b : Int} (hb : 0 < b) : (Rat.divInt a b).num = a / Int.gcd a b := by
  rw [Rat.num_divInt, Int.sign_eq_one_of_pos hb, Int.one_mul, Int.gcd_comm]
theorem q_den {a b : Int} (hb : 0 < b) : ((Rat.divInt a b).den : Int) = b / Int.gcd a b := by
  rw [Rat.den_divInt, if_neg (by omega), Int.gcd_comm]
  rw [Int.natCast_ediv]; congr 1; omega
theorem q_lt {a b c d : Int} (hb : 0 < b) (hd : 0 < d) : Rat.divInt a b < Rat.divInt c d ↔ a * d < c * b := by
  rw [Rat.divInt_eq_div, Rat.divInt_eq_div]
  have hb' : (0 : Rat) < (b : Rat) := by exact_mod_cast hb
  have hd' : (0 : Rat) < (d : Rat) := by exact_mod_cast hd
  rw [Rat.lt_div_iff hd']
  have : ((a * d : Int) : Rat) < ((c * b : Int) : Rat) ↔ a * d < c * b := Rat.intCast_lt_intCast
  rw [← this, Rat.intCast_mul, Rat.intCast_mul]
  have e : (a : Rat) / b * d * b = a * d := by grind
  constructor
  · intro h
    have := Rat.mul_lt_mul_of_pos_right h hb'
    rwa [e] at this
  · intro h
    refine Rat.not_le.mp fun z => ?_
    have := Rat.mul_le_mul_of_nonneg_right z (Rat.le_of_lt hb')
    rw [e] at this
    exact Rat.not_le.mpr h this
theorem q_eq {a b c d : Int} (hb : 0 < b) (hd : 0 < d) : Rat.divInt a b = Rat.divInt c d ↔ a * d = c * b := Rat.divInt_eq_divInt_iff (by omega) (by omega)
theorem q_le {a b c d : Int} (hb : 0 < b) (hd : 0 < d) : Rat.divInt a b ≤ Rat.divInt c d ↔ a * d ≤ c * b := by
  rw [← Rat.not_lt, q_lt hd hb]; omega
theorem q_self (q : Rat) : Rat.divInt q.num q.den = q := Rat.num_divInt_den q
/-! ### == -/
mutual
/-- data of ints, None, tuples and lists, at most n deep -/
def Sm : Nat → D → Prop
  | _, .non => True
  | _, .int _ => True
  | n + 1, .tup ds => Sms n ds
  | n + 1, .lst ds => Sms n ds
  | _, _ => False
def Sms : Nat → List D → Prop
  | _, [] => True
  | n, d :: ds => Sm n d ∧ Sms n ds
end
theorem Sms_iff {n : Nat} : ∀ {ds : List D}, Sms n ds ↔ ∀ d ∈ ds, Sm n d
  | [] => by simp [Sms]
  | d :: ds => by simp [Sms, Sms_iff (ds := ds)]
mutual
theorem Sm.py : ∀ {n : Nat} {d : D}, Sm n d → ∃ p, toPy d = some p ∧ p.canLay0 = true ∧ p.depth ≤ n
  | _, .non, _ => ⟨.none, rfl, by simp [PyData.canLay0], by simp [PyData.depth]⟩
  | _, .int i, _ => ⟨.int i, rfl, by simp [PyData.canLay0], by simp [PyData.depth]⟩
  | n + 1, .tup ds, h => by
    obtain ⟨ps, h1, h2, h3⟩ := Sms.py (n := n) (ds := ds) (by simpa [Sm] using h)
    exact ⟨.tuple ps, by simp [toPy, h1], by simpa [PyData.canLay0] using h2, by simp [PyData.depth]; omega⟩
  | n + 1, .lst ds, h => by
    obtain ⟨ps, h1, h2, h3⟩ := Sms.py (n := n) (ds := ds) (by simpa [Sm] using h)
    exact ⟨.list ps, by simp [toPy, h1], by simpa [PyData.canLay0] using h2, by simp [PyData.depth]; omega⟩
  | 0, .tup _, h | 0, .lst _, h => by simp [Sm] at h
  | _, .bl _, h | _, .str _, h | _, .dic _ _, h | _, .sal _ _, h | _, .row, h => by simp [Sm] at h
theorem Sms.py : ∀ {n : Nat} {ds : List D}, Sms n ds → ∃ ps, toPys ds = some ps ∧ PyData.canLayAll0 ps = true ∧ PyData.depthAll ps ≤ n
  | _, [], _ => ⟨[], rfl, by simp [PyData.canLayAll0], by simp [PyData.depthAll]⟩
  | n, d :: ds, h => by
    have h' : Sm n d ∧ Sms n ds := by simpa [Sms] using h
    obtain ⟨p, a1, a2, a3⟩ := Sm.py h'.1
    obtain ⟨ps, b1, b2, b3⟩ := Sms.py h'.2
    exact ⟨p :: ps, by simp [toPys, a1, b1], by simp [PyData.canLayAll0, a2, b2], by simp [PyData.depthAll]; omega⟩
end
mutual
theorem eqv_iff : ∀ {n m : Nat} {d e : D} {p q : PyData}, Sm n d → Sm m e → toPy d = some p → toPy e = some q → (PyData.eqv p q = true ↔ d = e)
  | n, m, .non, e, p, q, h1, h2, e1, e2 => by
    cases e with
    | non => cases e1; cases e2; simp [PyData.eqv]
    | int j => cases e1; cases e2; simp [PyData.eqv]
    | tup es => cases e1; simp [toPy] at e2; obtain ⟨ps, _, rfl⟩ := e2; simp [PyData.eqv]
    | lst es => cases e1; simp [toPy] at e2; obtain ⟨ps, _, rfl⟩ := e2; simp [PyData.eqv]
    | _ => simp [Sm] at h2
  | n, m, .int i, e, p, q, h1, h2, e1, e2 => by
    cases e with
    | non => cases e1; cases e2; simp [PyData.eqv]
    | int j => cases e1; cases e2; simp [PyData.eqv]
    | tup es => cases e1; simp [toPy] at e2; obtain ⟨ps, _, rfl⟩ := e2; simp [PyData.eqv]
    | lst es => cases e1; simp [toPy] at e2; obtain ⟨ps, _, rfl⟩ := e2; simp [PyData.eqv]
    | _ => simp [Sm] at h2
  | n, m, .tup ds, e, p, q, h1, h2, e1, e2 => by
    simp [toPy] at e1
    obtain ⟨ps, p1, rfl⟩ := e1
    cases e with
    | non => cases e2; simp [PyData.eqv]
    | int j => cases e2; simp [PyData.eqv]
    | tup es =>
      simp [toPy] at e2; obtain ⟨qs, q1, rfl⟩ := e2
      cases n with
      | zero => simp [Sm] at h1
      | succ n =>
        cases m with
        | zero => simp [Sm] at h2
        | succ m =>
          rw [show PyData.eqv (.tuple ps) (.tuple qs) = PyData.eqvAll ps qs by simp [PyData.eqv]]
          rw [eqvs_iff (n := n) (m := m) (by simpa [Sm] using h1) (by simpa [Sm] using h2) p1 q1]
          simp
    | lst es => simp [toPy] at e2; obtain ⟨qs, _, rfl⟩ := e2; simp [PyData.eqv]
    | _ => simp [Sm] at h2
  | n, m, .lst ds, e, p, q, h1, h2, e1, e2 => by
    simp [toPy] at e1
    obtain ⟨ps, p1, rfl⟩ := e1
    cases e with
    | non => cases e2; simp [PyData.eqv]
    | int j => cases e2; simp [PyData.eqv]
    | lst es =>
      simp [toPy] at e2; obtain ⟨qs, q1, rfl⟩ := e2
      cases n with
      | zero => simp [Sm] at h1
      | succ n =>
        cases m with
        | zero => simp [Sm] at h2
        | succ m =>
          rw [show PyData.eqv (.list ps) (.list qs) = PyData.eqvAll ps qs by simp [PyData.eqv]]
          rw [eqvs_iff (n := n) (m := m) (by simpa [Sm] using h1) (by simpa [Sm] using h2) p1 q1]
          simp
    | tup es => simp [toPy] at e2; obtain ⟨qs, _, rfl⟩ := e2; simp [PyData.eqv]
    | _ => simp [Sm] at h2
  | _, _, .bl _, _, _, _, h, _, _, _ | _, _, .str _, _, _, _, h, _, _, _ | _, _, .dic _ _, _, _, _, h, _, _, _ | _, _, .sal _ _, _, _, _, h, _, _, _ | _, _, .row, _, _, _, h, _, _, _ => by simp [Sm] at h
theorem eqvs_iff : ∀ {n m : Nat} {ds es : List D} {ps qs : List PyData}, Sms n ds → Sms m es → toPys ds = some ps → toPys es = some qs → (PyData.eqvAll ps qs = true ↔ ds = es)
  | n, m, [], [], ps, qs, _, _, e1, e2 => by cases e1; cases e2; simp [PyData.eqvAll]
  | n, m, [], e :: es, ps, qs, _, h2, e1, e2 => by
    cases e1
    cases qs with
    | nil => simp [toPys] at e2; split at e2 <;> simp at e2
    | cons a b => simp [PyData.eqvAll]
  | n, m, d :: ds, [], ps, qs, h1, _, e1, e2 => by
    cases e2
    cases ps with
    | nil => simp [toPys] at e1; split at e1 <;> simp at e1
    | cons a b => simp [PyData.eqvAll]
  | n, m, d :: ds, e :: es, ps, qs, h1, h2, e1, e2 => by
    have h1' : Sm n d ∧ Sms n ds := by simpa [Sms] using h1
    have h2' : Sm m e ∧ Sms m es := by simpa [Sms] using h2
    obtain ⟨p, a1, _⟩ := Sm.py h1'.1
    obtain ⟨ps', a2, _⟩ := Sms.py h1'.2
    obtain ⟨q, b1, _⟩ := Sm.py h2'.1
    obtain ⟨qs', b2, _⟩ := Sms.py h2'.2
    simp [toPys, a1, a2] at e1
    simp [toPys, b1, b2] at e2
    subst e1 e2
    simp only [PyData.eqvAll, Bool.and_eq_true]
    rw [eqv_iff h1'.1 h2'.1 a1 b1, eqvs_iff h1'.2 h2'.2 a2 b2]
    simp
end
open Classical in
theorem eq_sm {d e : D} (h1 : Sm 60 d) (h2 : Sm 60 e) : eqD d e = some (decide (d = e)) := by
  obtain ⟨p, a1, a2, a3⟩ := h1.py
  obtain ⟨q, b1, b2, b3⟩ := h2.py
  have s1 : SeqAt.shaped p = true := by unfold SeqAt.shaped; rw [a2]; simp; omega
  have s2 : SeqAt.shaped q = true := by unfold SeqAt.shaped; rw [b2]; simp; omega
  have e1 : pyOk d = some p := by unfold pyOk; rw [a1]; simp [s1]
  have e2 : pyOk e = some q := by unfold pyOk; rw [b1]; simp [s2]
  unfold eqD
  rw [e1, e2]
  have := eqv_iff h1 h2 a1 b1
  simp only [Option.some.injEq]
  by_cases z : d = e
  · rw [this.mpr z]; simp [z]
  · have : PyData.eqv p q ≠ true := fun w => z (this.mp w)
    simp [z, this]
open Classical in
theorem gEq_sm {d e : D} (h1 : Sm 60 d) (h2 : Sm 60 e) : gEq d e = some (.bl (decide (d = e))) := by unfold gEq; rw [eq_sm h1 h2]; rfl
open Classical in
theorem gNe_sm {d e : D} (h1 : Sm 60 d) (h2 : Sm 60 e) : gNe d e = some (.bl (!decide (d = e))) := by unfold gNe; rw [eq_sm h1 h2]; rfl
@[simp] theorem g_eqI (i j : Int) : gEq (.int i) (.int j) = some (.bl (decide (i = j))) := by
  rw [gEq_sm (by simp [Sm]) (by simp [Sm])]; simp
@[simp] theorem g_neI (i j : Int) : gNe (.int i) (.int j) = some (.bl (!decide (i = j))) := by
  rw [gNe_sm (by simp [Sm]) (by simp [Sm])]; simp
theorem map_int_inj {xs ys : List Int} (h : xs.map D.int = ys.map D.int) : xs = ys := by
  induction xs generalizing ys with
  | nil => cases ys with | nil => rfl | cons => cases h
  | cons x xs ih => cases ys with
    | nil => cases h
    | cons y ys => simp at h; obtain ⟨h1, h2⟩ := h; rw [h1, ih (by simpa using h2)]
theorem sms_ints (n : Nat) (xs : List Int) : Sms n (xs.map D.int) := Sms_iff.mpr fun d hd => by
  obtain ⟨i, _, rfl⟩ := List.mem_map.mp hd
  simp [Sm]
theorem g_neIs (xs ys : List Int) : gNe (.lst (xs.map D.int)) (.lst (ys.map D.int)) = some (.bl (!decide (xs = ys))) := by
  rw [gNe_sm (by simpa [Sm] using sms_ints 59 xs) (by simpa [Sm] using sms_ints 59 ys)]
  congr 2
  by_cases h : xs = ys
  · simp [h]
  · have : ¬ xs.map D.int = ys.map D.int := fun z => h (map_int_inj z)
    simp [h, this]
theorem egs_more {a b : Int} {g : Int} : ∀ {k L : Nat}, k ≤ L → egs k a b = some g → egs L a b = some g := by
  intro k
  induction k generalizing a b with
  | zero =>
    intro L _ h
    unfold egs at h
    split at h
    · rename_i hb
      cases L with
      | zero => unfold egs; rw [if_pos hb]; exact h
      | succ L => unfold egs; rw [if_pos hb]; exact h
    · cases h
  | succ k ih =>
    intro L hL h
    obtain ⟨L, rfl⟩ : ∃ m, L = m + 1 := ⟨L - 1, by omega⟩
    unfold egs at h ⊢
    split at h
    · rename_i hb; rw [if_pos hb]; exact h
    · rename_i hb
      rw [if_neg hb]
      split at h
      · rename_i hb1; rw [if_pos hb1]; exact ih (by omega) h
      · cases h
theorem law_gcd_is {L k : Nat} {a b : Int} (s : S) (h0 : 0 ≤ b) (h1 : b < 2 ^ k) (hL : 2 * k ≤ L) : gcdF L [.int a, .int b] s = .ok (.int (Int.gcd a b)) s := by
  show lift ((egs L a b).map D.int) s = _
  rw [egs_more hL (egs_spec k a b h0 h1)]; rfl
@[simp] theorem g_allM {α : Type} (xs : List α) (e : α → Bool) : gAll [.lst (xs.map fun x => .bl (e x))] = some (.bl (xs.all e)) := by
  have : (xs.map fun x => D.bl (e x)) = (xs.map e).map D.bl := by rw [List.map_map]; rfl
  rw [this, g_all]; simp
@[simp] theorem g_anyM {α : Type} (xs : List α) (e : α → Bool) : gAny [.lst (xs.map fun x => .bl (e x))] = some (.bl (xs.any e)) := by
  have : (xs.map fun x => D.bl (e x)) = (xs.map e).map D.bl := by rw [List.map_map]; rfl
  rw [this, g_any]; simp
@[simp] theorem g_sumM {α : Type} (xs : List α) (e : α → Int) : gSum [.lst (xs.map fun x => .int (e x))] = some (.int (xs.map e).sum) := by
  have : (xs.map fun x => D.int (e x)) = (xs.map e).map D.int := by rw [List.map_map]; rfl
  rw [this, g_sum]
theorem upto_map (lo : Int) (n : Nat) : upto lo n = (List.range n).map fun (i : Nat) => D.int (lo + (i : Int)) := rfl
theorem upto0 (n : Nat) : upto 0 n = (List.range n).map fun (i : Nat) => D.int (i : Int) := by rw [upto_map]; congr 1; funext i; simp
theorem g_r1 (n : Nat) (h : n ≤ 100000) : gR1 [.int (n : Int)] = some (upto 0 n) := by
  simp only [gR1]
  rw [if_pos ⟨by omega, by omega⟩, Int.toNat_natCast]
theorem g_r2 (a b : Int) (h : -100000 ≤ a ∧ a ≤ 100000 ∧ -100000 ≤ b ∧ b ≤ 100000) : gR2 [.int a, .int b] = some (upto a (b - a).toNat) := by
  simp only [gR2]
  rw [if_pos ⟨by omega, by omega, by omega, by omega⟩]
end PV

namespace PV
open PySem L2
/-! ### enumerate of a list or a tuple -/
section
open Sem (wp)
theorem enumNew {vv : Value} {oo : Obj} {HH : Heap → Prop} (BB : Begins vv oo HH) :
    Meets (Builtin.«enumerate.__new__» ⟨[.type "enumerate", vv], []⟩) (fun _ RR ss => HH ss.heap ∧
      RR (.ok (.ret (.ref (ss.heap.push oo).objs.size))) { ss with heap := (ss.heap.push oo).push { cls := .type "enumerate", data := .fields #[.none, .bool false, .ref ss.heap.objs.size, rawInt 0, .none, .none] } }) :=
  .of_wp fun pr ww AA RR ss hh => by
    obtain ⟨hp, gg, dd, tk, oz⟩ := ss
    obtain ⟨k1, hh⟩ := hh
    have sube := sub_enumerate
    have qq : ∀ {A' : Around} {E : Value → Shared → Prop} {Q : Value → Shared → Prop}, Q (.ref hp.objs.size) ⟨hp.push oo, gg, dd, tk, oz⟩ → wpAny (model pr ww) A' (pyIter vv) Q E ⟨hp, gg, dd, tk, oz⟩ := fun z => BB.iter pr ww _ _ ⟨hp, gg, dd, tk, oz⟩ _ k1 z
    wp_walk using qq
    refine wpAny_stack_any fun stk => wpAny_pure ?_
    split
    · rename_i cc _ _ _ _ _
      cases (cc == Value.type "enumerate") <;> (wp_walk using qq; exact ⟨_, rfl, hh⟩)
    · wp_walk using qq
      exact ⟨_, rfl, hh⟩
theorem enumCall {pr : Program} {ww : World} {AA : Around} {EE : Value → Shared → Prop} {ss : Shared} {vv : Value} {oo : Obj} {HH : Heap → Prop} {QQ : Value → Shared → Prop} (BB : Begins vv oo HH) (k1 : HH ss.heap)
    (hh : ∀ h', IsEnum h' (ss.heap.objs.size + 1) ss.heap.objs.size 0 .none → h'.get? ss.heap.objs.size = some oo → (∀ b o, ss.heap.get? b = some o → h'.get? b = some o) → QQ (.ref (ss.heap.objs.size + 1)) { ss with heap := h' }) :
    wpAny (model pr ww) AA (call (.type "enumerate") [vv]) QQ EE ss := by
  refine callType_new F.called_enumerate (by decide) (F.typeCall_enumerate_1 _) (F.newCall_enumerate_1 _) (fun ob => F.args_object_init_2 ob _) F.entry_enumerate_new (enumNew BB) ⟨k1, ?_⟩
  have z1 : (ss.heap.push oo).objs.size = ss.heap.objs.size + 1 := Heap.size_push ..
  show _ ∧ _
  rw [z1]
  have en : IsEnum ((ss.heap.push oo).push { cls := .type "enumerate", data := .fields #[.none, .bool false, .ref ss.heap.objs.size, rawInt 0, .none, .none] }) (ss.heap.objs.size + 1) ss.heap.objs.size 0 .none := by
    have g1 := Heap.get?_push_size (ss.heap.push oo) (o := { cls := .type "enumerate", data := .fields #[.none, .bool false, .ref ss.heap.objs.size, rawInt 0, .none, .none] }) rfl
    rw [z1] at g1
    exact g1
  exact ⟨⟨_, en, rfl⟩, hh _ en (Heap.get?_push_of_some _ (Heap.get?_push_size _ BB.free)) fun b o x => Heap.get?_push_of_some _ (Heap.get?_push_of_some _ x)⟩
end
/-- the tuple at a, each item in a new pair -/
def IteT (K : PySem.W.Frag) (a : Addr) (n : Nat) : It :=
  ⟨fun i H => i < n ∧ ∃ (xs : List V) (x : V), SqT K H a xs ∧ xs.length = n ∧ xs[i]? = some x, fun i H v H' => ∃ T x, v = .ref T ∧ H T = none ∧ H' = upd H T (.tup [.int (i : Nat), x]) ∧ ∀ xs, SqT K H a xs → xs[i]? = some x, fun i H => i = n ∧ ∃ xs : List V, SqT K H a xs ∧ xs.length = n⟩
theorem turn_enumT {P : Program} {w : World} {K : PySem.W.Frag} {elts : List Expr} {kk : Nat} {tpos : Pos} (a e it : Addr) (n : Nat) :
    Turn P w K (.Tuple elts kk tpos) (IteT K a n) [e, it] e (fun i h => (∃ old, IsEnum h e it ((i : Nat) : Int) old) ∧ h.IsTupleIter it a i ∧ e ≠ it) where
  mem := by simp
  obj := fun i h st b hb => by
    obtain ⟨⟨old, he⟩, ⟨o, ho, hc, hd⟩, _⟩ := st
    rcases (by simpa using hb : b = e ∨ b = it) with z | z
    · rw [z]; exact ⟨_, he, fun v q => nomatch q⟩
    · rw [z]; exact ⟨o, ho, fun v q => by rw [hd] at q; cases q⟩
  keep := fun i h h' st k => by
    obtain ⟨⟨old, he⟩, hi, hne⟩ := st
    exact ⟨⟨old, k e (by simp) _ he⟩, hi.at fun o q => k it (by simp) o q, hne⟩
  item := by
    intro X hP hw hK hc i pins s σ H E I hf st hg
    subst hP hw hK
    obtain ⟨⟨old, he⟩, hit, hne⟩ := st
    obtain ⟨hin, xs, x, hq, hxl, hx⟩ := hg
    obtain ⟨its, rv, p, hz⟩ := I.tuple hq
    obtain ⟨u, hu, ru⟩ := rv.get hx
    have hel : e < s.heap.objs.size := Heap.lt_size he
    have hil : it < s.heap.objs.size := by obtain ⟨_, q, _⟩ := hit; exact Heap.lt_size q
    have hne2 : a ≠ it := fun z => by
      obtain ⟨oo, o1, o2, _⟩ := hit
      obtain ⟨op, p1, p2, _⟩ := p
      rw [z, o1] at p1; cases p1
      rw [o2] at p2
      injection p2 with z2
      exact absurd z2 (by decide)
    have hea : e ≠ a := fun z => by
      obtain ⟨op, p1, p2, _⟩ := p
      rw [← z] at p1
      have he' : s.heap.get? e = some _ := he
      rw [he'] at p1; cases p1
      injection p2 with z2
      exact absurd z2 (by decide)
    have hsz : its.toArray.size = n := by rw [List.size_toArray, ← rv.length]; exact hxl
    have DD := Draws.tuple (prog := X.prog) (w := X.w) (A := X.A.in1) (by have := I.ok.hd hc; exact this) it a hne2 its.toArray
    refine wpAny_pyNext_enum_itemD DD he ⟨hit, p⟩ (by rw [hsz]; exact hin) hne (by simp [hne, hea]) fun y h' tk hy ho hst' hT hsz' hk => ?_
    have ey : y = u := by
      have h1 : its.toArray[i]? = some y := hy
      have h2 : its.toArray[i]? = some u := by simpa using hu
      exact Option.some.inj (h1.symm.trans h2)
    subst ey
    refine ⟨_, rfl, wpAny_letOwnedTupleGo_enum (s := { s with heap := h', toks := tk + 1 }) ho fun h'' he' sb => ?_⟩
    have hT2 : h''.get? s.heap.objs.size = some { cls := .type "tuple", data := .seq #[.int i tk, y] } := (sb.2 _ (Nat.ne_of_gt hel)).trans hT
    have new : ObjOk X.prog X.w (upd H s.heap.objs.size (.tup [.int (i : Nat), x])) h'' s.heap.objs.size (.tup [.int (i : Nat), x]) :=
      ⟨by show 2 ≤ sizeLine; decide, [.int i tk, y], .cons ⟨_, rfl⟩ (.cons ru .nil), ⟨_, hT2, rfl, _, rfl⟩⟩
    have I1 : Inv X pins σ (upd H s.heap.objs.size (.tup [.int (i : Nat), x])) { s with heap := h'', toks := tk + 1 } :=
      I.turnedNew (ch := [e, it]) (fun b ob hb q => (sb.2 b (fun z => hb (by simp [z]))).trans (hk b ob (fun z => hb (by simp [z])) (fun z => hb (by simp [z])) q)) hf (Nat.le_refl _) new
    refine ⟨.ref s.heap.objs.size, _, I1, rfl, ⟨_, x, rfl, I.hok.fresh (Nat.le_refl _), rfl, fun ys hy => by rw [I.tuple_inj hy hq]; exact hx⟩, ⟨⟨y, ?_⟩, hst'.1.at fun o q => (sb.2 it (Ne.symm hne)).trans q, hne⟩, fun b hb => ?_⟩
    · rw [show ((i + 1 : Nat) : Int) = (i : Int) + 1 by omega]; exact he'
    · have hb' : b < s.heap.objs.size := by
        rcases (by simpa using hb : b = e ∨ b = it) with z | z
        · rw [z]; exact hel
        · rw [z]; exact hil
      rw [upd_ne (Nat.ne_of_lt hb')]
      exact (hf b hb).1
  done := by
    intro X hP hw hK hc i pins s σ H E I hf st hg
    subst hP hw hK
    obtain ⟨⟨old, he⟩, hit, hne⟩ := st
    obtain ⟨hin, xs, hq, hxl⟩ := hg
    obtain ⟨its, rv, p, hz⟩ := I.tuple hq
    obtain ⟨f0, f1, f2, f3, f4, f5⟩ := hf it (by simp)
    have hne2 : a ≠ it := fun z => by
      obtain ⟨oo, o1, o2, _⟩ := hit
      obtain ⟨op, p1, p2, _⟩ := p
      rw [z, o1] at p1; cases p1
      rw [o2] at p2
      injection p2 with z2
      exact absurd z2 (by decide)
    have hsz : its.toArray.size = i := by rw [List.size_toArray, ← rv.length, hin]; exact hxl
    have DD := Draws.tuple (prog := X.prog) (w := X.w) (A := X.A.in1) (by have := I.ok.hd hc; exact this) it a hne2 its.toArray
    exact wpAny_pyNext_enum_endD DD he ⟨by rw [hsz]; exact hit, p⟩ fun h' eb => ⟨rfl, I.turned (t' := s.toks) (fun b o hb q => eb b o hb q) f0 f1 f3 f4 f5⟩
  self := fun A i s Q E st h => by
    obtain ⟨⟨_, he⟩, _⟩ := st
    exact wpAny_pyIter_enum he h
def iEnumU (K : PySem.W.Frag) (te : TE) : TI := fun σ H R => te σ H fun v H1 => ∃ (a : Addr) (xs : List V), v = .ref a ∧ ((SqL K H1 a xs ∧ R (Ite K a) H1) ∨ (SqT K H1 a xs ∧ R (IteT K a xs.length) H1))
theorem pi_enumU {X : Cx} {e : Expr} {te : TE} {p pos tpos : Pos} {elts : List Expr} {kk : Nat} (hg : Gl X "enumerate") (hm : X.mg "enumerate" = none) (he : PE X e te) (hs : starEach [e] X.env = (false, eval e X.env) :: starEach [] X.env := by rfl) :
    PI X (.Tuple elts kk tpos) (.Call (.Name "enumerate" p) [e] [] pos) (iEnumU X.K te) := by
  refine ⟨fun pins s σ H R I h => ?_⟩
  refine PyProof.Rows.Call_ (ld_blt I hg hm PyProof.Rows.boot_enumerate (PyProof.Rows.callWith_type1 (PyProof.Rows.args_cons (thn (he.run pins s σ H _ I h) fun u s1 ⟨v, H1, I1, r1, q1⟩ => PyProof.Rows.args_nil ?_) hs) hs rfl))
  obtain ⟨a, xs, ev, q⟩ := q1
  subst ev
  obtain rfl : u = Value.ref a := r1
  have fin : ∀ {J : It} {tn : Nat → Heap → Prop} {h' : Heap}, (∀ b o, s1.heap.get? b = some o → h'.get? b = some o) → IsEnum h' (s1.heap.objs.size + 1) s1.heap.objs.size 0 .none → Turn X.prog X.w X.K (.Tuple elts kk tpos) J [s1.heap.objs.size + 1, s1.heap.objs.size] (s1.heap.objs.size + 1) tn → tn 0 h' → R J H1 →
      wpAny (model X.prog X.w) X.A (pyIter (.ref (s1.heap.objs.size + 1))) (PIE X pins σ (.Tuple elts kk tpos) R) X.xe { s1 with heap := h' } := fun {J tn h'} hk hen ht h0 hR => by
    refine wpAny_pyIter_enum hen ?_
    have I2 : Inv X pins σ H1 { s1 with heap := h' } := I1.kept (t' := s1.toks) hk
    refine ⟨s1.heap.objs.size + 1, [s1.heap.objs.size + 1, s1.heap.objs.size], tn, J, H1, rfl, I2, ht, h0, fun b hb => ?_, hR⟩
    have hle : s1.heap.objs.size ≤ b := by
      rcases (by simpa using hb : b = s1.heap.objs.size + 1 ∨ b = s1.heap.objs.size) with z | z
      · rw [z]; exact Nat.le_succ _
      · rw [z]; exact Nat.le_refl _
    exact I1.fpOk hle (I1.hok.fresh hle)
  rcases q with ⟨hq, q⟩ | ⟨hq, q⟩
  · obtain ⟨its, rv, p', hz⟩ := I1.list hq
    exact enumCall (begins_list a its.toArray) p'.isList fun h' hen ho hk => fin hk hen (turn_enum a _ _) ⟨⟨.none, hen⟩, ⟨_, ho, rfl, rfl⟩, Nat.succ_ne_self _⟩ q
  · obtain ⟨its, rv, p', hz⟩ := I1.tuple hq
    exact enumCall (begins_tuple a its.toArray) p' fun h' hen ho hk => fin hk hen (turn_enumT a _ _ xs.length) ⟨⟨.none, hen⟩, ⟨_, ho, rfl, rfl⟩, Nat.succ_ne_self _⟩ q
section
variable {B : Bs} {W : List Nat} {E : Option XK}
def enumD (ds : List D) : List D := (List.range ds.length).map fun (i : Nat) => D.tup [.int (i : Int), ds.getD i .non]
@[simp] theorem enumD_len (ds : List D) : (enumD ds).length = ds.length := by unfold enumD; simp
theorem enumD_get {ds : List D} {i : Nat} {d : D} (h : (enumD ds)[i]? = some d) : ∃ e, ds[i]? = some e ∧ d = .tup [.int (i : Int), e] := by
  unfold enumD at h
  rw [List.getElem?_map] at h
  obtain ⟨j, h1, h2⟩ := Option.map_eq_some_iff.mp h
  obtain ⟨h3, h4⟩ := List.getElem?_eq_some_iff.mp h1
  rw [List.length_range] at h3
  rw [List.getElem_range] at h4
  subst h4
  refine ⟨ds[i], List.getElem?_eq_getElem h3, ?_⟩
  rw [← h2, List.getD_eq_getElem?_getD, List.getElem?_eq_getElem h3]; rfl
def cItE (f : En → M D) : En → M (List D) := fun δ s => (f δ s).bind fun d s1 => (lift (seqD d) s1).bind fun ds s2 => .ok (enumD ds) s2
theorem new_pair {r : Addr} {O : List Addr} {H : Hp} {T : Addr} {x y : V} {d e : D} (hT : H T = none) (hd : ∀ p ∈ O, H p ≠ none) (h1 : Rep B r (hid H O) x d) (h2 : Rep B r (hid H O) y e) : Same H (upd H T (.tup [x, y])) ∧ Rep B r (hid (upd H T (.tup [x, y])) O) (.ref T) (.tup [d, e]) :=
  ⟨same_new hT, new_tup hT hd (.cons h1 (.cons h2 .nil))⟩
theorem ri_enum {te : TE} {f : En → M D} (ha : RdE B W E te f) : RdI B W E (iEnumU B.K te) (cItE f) := by
  intro r sa H0 O0 O σ δ s H gd R h
  refine ha gd _ (post_mono (post_bind h) (fun x s1 hx v H1 st ra rp => ?_) (fun _ _ z => z))
  obtain ⟨ds, e, hd⟩ := post_lift (post_bind hx)
  cases x <;> simp [seqD] at e
  · subst e
    obtain ⟨a, vs, rfl, h1, h2⟩ := rp.inv_tup
    refine ⟨a, vs, rfl, .inr ⟨sqT_le h1, hd _ H1 st ra fun O' H2 sm hdm => ?_⟩⟩
    have e2 : SqT B.K H2 a vs := sqT_le (same_t sm h1)
    have hl := h2.length
    refine ⟨fun i hi => ?_, ⟨by rw [enumD_len]; exact hl.symm, vs, e2, rfl⟩, fun i x H3 d hi hy => ?_⟩
    · rw [enumD_len] at hi
      exact ⟨by omega, vs, vs[i]'(by omega), e2, rfl, by simp [show i < vs.length by omega]⟩
    · obtain ⟨T, y, rfl, hT, rfl, hyv⟩ := hy
      obtain ⟨de, g1, rfl⟩ := enumD_get hi
      obtain ⟨w, w1, w2⟩ := h2.get i de g1
      cases (hyv vs e2).symm.trans w1
      exact new_pair hT hdm (.int _) (w2.mono sm)
  · subst e
    obtain ⟨a, vs, rfl, h1, h2⟩ := rp.inv_lst
    refine ⟨a, vs, rfl, .inl ⟨SqL.of (hid_le _ _ h1), hd _ H1 st ra fun O' H2 sm hdm => ?_⟩⟩
    have e2 : SqL B.K H2 a vs := SqL.of (hid_le _ _ (sm _ _ h1))
    have hl := h2.length
    refine ⟨fun i hi => ?_, ⟨vs, e2, by rw [enumD_len]; omega⟩, fun i x H3 d hi hy => ?_⟩
    · rw [enumD_len] at hi
      exact ⟨vs, vs[i]'(by omega), e2, by simp [show i < vs.length by omega]⟩
    · obtain ⟨T, y, rfl, hT, rfl, hyv⟩ := hy
      obtain ⟨de, g1, rfl⟩ := enumD_get hi
      obtain ⟨w, w1, w2⟩ := h2.get i de g1
      cases (hyv vs e2).symm.trans w1
      exact new_pair hT hdm (.int _) (w2.mono sm)
/-! ### reversed(x) -/
def cItR (f : En → M D) : En → M (List D) := fun δ s => (f δ s).bind fun d s1 => (lift (seqD d) s1).bind fun ds s2 => .ok ds.reverse s2
theorem rev_get {α : Type} {xs : List α} {i : Nat} {x : α} (h : xs.reverse[i]? = some x) : xs[xs.length - 1 - i]? = some x := by
  have hi : i < xs.length := by have := (List.getElem?_eq_some_iff.mp h).1; simpa using this
  rw [List.getElem?_reverse hi] at h; exact h
theorem ri_rev {te : TE} {f : En → M D} (ha : RdE B W E te f) : RdI B W E (RT.iRevA B.K te) (cItR f) := by
  intro r sa H0 O0 O σ δ s H gd R h
  refine ha gd _ (post_mono (post_bind h) (fun x s1 hx v H1 st ra rp => ?_) (fun _ _ z => z))
  obtain ⟨ds, e, hd⟩ := post_lift (post_bind hx)
  cases x <;> simp [seqD] at e
  · subst e
    obtain ⟨a, vs, rfl, h1, h2⟩ := rp.inv_tup
    refine ⟨a, vs, rfl, .inr ⟨sqT_le h1, hd _ H1 st ra fun O' H2 sm hdm => ?_⟩⟩
    have e2 : SqT B.K H2 a vs := sqT_le (same_t sm h1)
    have hl := h2.length
    refine ⟨fun i hi => ?_, by rw [List.length_reverse]; exact Nat.le_of_eq hl, fun i x H3 d hi hy => ?_⟩
    · rw [List.length_reverse] at hi
      exact ⟨by omega, vs, vs[vs.length - 1 - i]'(by omega), e2, by simp [show vs.length - 1 - i < vs.length by omega]⟩
    · obtain ⟨rfl, hyv⟩ := hy
      have g1 := rev_get hi
      rw [← hl] at g1
      obtain ⟨w, w1, w2⟩ := h2.get _ d g1
      cases (hyv vs e2).symm.trans w1
      exact ⟨Same.refl _, w2.mono sm⟩
  · subst e
    obtain ⟨a, vs, rfl, h1, h2⟩ := rp.inv_lst
    refine ⟨a, vs, rfl, .inl ⟨SqL.of (hid_le _ _ h1), hd _ H1 st ra fun O' H2 sm hdm => ?_⟩⟩
    have e2 : SqL B.K H2 a vs := SqL.of (hid_le _ _ (sm _ _ h1))
    have hl := h2.length
    refine ⟨fun i hi => ?_, by rw [List.length_reverse]; exact Nat.le_of_eq hl, fun i x H3 d hi hy => ?_⟩
    · rw [List.length_reverse] at hi
      exact ⟨by omega, vs, vs[vs.length - 1 - i]'(by omega), e2, by simp [show vs.length - 1 - i < vs.length by omega]⟩
    · obtain ⟨rfl, hyv⟩ := hy
      have g1 := rev_get hi
      rw [← hl] at g1
      obtain ⟨w, w1, w2⟩ := h2.get _ d g1
      cases (hyv vs e2).symm.trans w1
      exact ⟨Same.refl _, w2.mono sm⟩
end
end PV

namespace HT
open PySem PySem.Spec PySem.Calls PyProof.Rows
section
variable {prog : Program} {w : World} {A : Around} {E : Value → Shared → Prop} {s : Shared}
theorem applied_rev {sl : Addr} {vk : Value} {n : Nat} {R : Int × Int × Nat → Shared → Prop} (hS : s.heap.IsSliceOf sl .none .none vk) (pk : IsPart vk (some (-1))) (h : R ((n : Int) - 1, -1, n) s) :
    wpAny (model prog w) A (Builtin.Slice.sliceApplied (.ref sl) (pure (n : Int))) R E s := by
  obtain ⟨o, ho, hc, hd⟩ := id hS
  unfold Builtin.Slice.sliceApplied Builtin.Slice.sliceFields
  refine wpAny_bind (wpAny_bind (wpAny_field ho hd (x := .none) rfl (wpAny_bind (wpAny_field ho hd (x := .none) rfl (wpAny_bind (wpAny_field ho hd (x := vk) rfl (wpAny_pure ?_)))))))
  refine wpAny_bind (slicePart_ pk ?_)
  show wpAny _ _ (if ((-1 : Int) == 0) = true then _ else _) _ _ s
  rw [if_neg (by decide)]
  refine wpAny_bind (slicePart_none (wpAny_bind (slicePart_none (wpAny_bind (wpAny_pure ?_)))))
  show wpAny _ _ (pure ((n : Int) - 1, (-1 : Int), Builtin.Slice.slicePlaces ((n : Int) - 1) (-1) (-1))) _ _ s
  have e : Builtin.Slice.slicePlaces ((n : Int) - 1) (-1) (-1) = n := by
    unfold Builtin.Slice.slicePlaces
    rw [if_neg (by decide)]
    by_cases h : (n : Int) - 1 > -1
    · rw [if_pos h, show (- -1 : Int) = 1 by decide, Int.ediv_one]; omega
    · rw [if_neg h]; omega
  rw [e]
  exact wpAny_pure h
theorem pick_rev (xs : Array Value) : ((List.range xs.size).filterMap fun (k : Nat) => xs[(((xs.size : Nat) : Int) - 1 + (k : Int) * -1).toNat]?).toArray = xs.toList.reverse.toArray := by
  have e : (List.range xs.size).filterMap (fun (k : Nat) => xs[(((xs.size : Nat) : Int) - 1 + (k : Int) * -1).toNat]?) = ((List.range xs.size).map fun k => xs.size - 1 - k).filterMap (xs[·]?) := by
    rw [List.filterMap_map]
    congr 1
    funext k
    show _ = xs[xs.size - 1 - k]?
    congr 1
    omega
  rw [e, PySem.W.krv_range, List.filterMap_reverse, PySem.W.krv_all]
theorem tuple_rev {t sl : Addr} {its : Array Value} {vk : Value} {R : Value → Shared → Prop} (ht : IsTup s.heap t its) (hS : s.heap.IsSliceOf sl .none .none vk) (pk : IsPart vk (some (-1)))
    (h : R (.ref s.heap.objs.size) { s with heap := s.heap.push { cls := .type "tuple", data := .seq its.toList.reverse.toArray } }) (hz : its.size ≤ sizeLine) : wpAny (model prog w) A (getItem (.ref t) (.ref sl)) R E s := by
  have hk : sizeOk (.seq its.toList.reverse.toArray) := by
    show its.toList.reverse.toArray.size ≤ sizeLine
    rw [List.size_toArray, List.length_reverse, Array.length_toList]; exact hz
  obtain ⟨o, ho, hc, hd⟩ := id hS
  have hT : s.TypeIs (.ref sl) "slice" := ⟨o, ho, hc⟩
  unfold getItem
  try with_reducible refine wpAny_holding ?_
  first | refine wpAny_bind (wpAny_pure ?_) | skip
  refine wpAny_bind (wpAny_sequenceKey ht.typeIs (by decide) ?_)
  refine wpAny_bind (wpAny_callSpecial?_slot (name := Str.ofString "__getitem__") ht.typeIs PyProof.Rows.slot_tuple_getitem
    (wpAny_call_entry PyProof.Rows.slot_tuple_getitem ht.typeIs entry_tuple_getitem ?_ (args_tuple_getitem _ _)))
  show wpAny _ _ (Builtin.Tuple.tupleItemsOf (.ref t) >>= _) _ _ s
  refine wpAny_bind (tupleItemsOf_ ht (wpAny_bind (wpAny_typeOf hT ?_)))
  rw [if_pos (by decide)]
  refine wpAny_bind (applied_rev hS pk ?_)
  have no : ¬ ((((its.size : Nat) : Int) - 1 == 0 && (-1 : Int) == 1 && its.size == its.size) = true) := by
    intro q
    rw [Bool.and_eq_true, Bool.and_eq_true] at q
    exact absurd (eq_of_beq q.1.2) (by decide)
  show wpAny _ _ (if (((its.size : Nat) : Int) - 1 == 0 && (-1 : Int) == 1 && its.size == its.size) = true then _ else _) _ _ s
  rw [if_neg no, pick_rev]
  first
    | exact wpAny_bind (m := Builtin.Tuple.tupleExact _) (wpAny_newObj_type (wpAny_pure ⟨_, rfl, wpAny_pure h⟩) hk)
    | exact wpAny_bind (m := Builtin.Tuple.tupleExact _) (wpAny_newObj_type (wpAny_bind (wpAny_pure (wpAny_pure ⟨_, rfl, wpAny_pure h⟩))) hk)
    | exact wpAny_bind (wpAny_bind (m := Builtin.Tuple.tupleExact _) (wpAny_newObj_type (wpAny_pure (wpAny_pure ⟨_, rfl, wpAny_pure h⟩)) hk))
    | exact wpAny_bind (wpAny_bind (m := Builtin.Tuple.tupleExact _) (wpAny_newObj_type (wpAny_pure ⟨_, rfl, wpAny_pure h⟩) hk))
end
end HT
namespace PV
open PySem L2 PySem.Spec PyProof.Rows
/-! ### x[::-1] of a list or a tuple -/
def tRevU (K : PySem.W.Frag) (te : TE) : TE := fun σ H Q => te σ H fun x H1 => ∃ a xs, x = .ref a ∧ ((SqL K H1 a xs ∧ ∀ p, H1 p = none → Q (.ref p) (upd H1 p (.lst xs.reverse))) ∨ (SqT K H1 a xs ∧ ∀ p, H1 p = none → Q (.ref p) (upd H1 p (.tup xs.reverse))))
theorem pe_revU {X : Cx} {e : Expr} {te : TE} {k : Nat} {p1 p2 p3 pos : Pos} (he : PE X e te) : PE X (.Subscript e (.Slice none none (some (.UnaryOp .USub (.Constant (.int 1) k p1) p2)) p3) pos) (tRevU X.K te) := by
  refine ⟨fun pins s σ H Q I h => ?_⟩
  refine Subscript_ (thn (he.run pins s σ H _ I h) fun v sa ⟨x, Ha, Ia, ra, qa⟩ => ?_)
  obtain ⟨a, xs, ex, q⟩ := qa
  subst ex
  cases ra
  have part : PO X (some (.UnaryOp .USub (.Constant (.int 1) k p1) p2)) (tPart (tUn (rU fun i => .int (-i)) (tC (.int 1)))) := po_some (pe_un un_neg pe_int)
  refine wpAny_Slice (thn (po_none.run pins sa σ Ha (fun o J => o = none ∧ J = Ha) Ia ⟨rfl, rfl⟩) fun vl sb ⟨l, Hb, Ib, pl, el, eb⟩ => ?_)
  subst el eb
  refine thn (po_none.run pins sb σ Hb (fun o J => o = none ∧ J = Hb) Ib ⟨rfl, rfl⟩) fun vu sc ⟨u, Hc, Ic, pu, eu, ec⟩ => ?_
  subst eu ec
  refine thn (part.run pins sc σ Hc (fun o J => o = some (-1) ∧ J = Hc) Ic ⟨1, rfl, -1, rfl, rfl, rfl⟩) fun vk sd ⟨o, Hd, Id, pk, eo, ed⟩ => ?_
  subst eo ed
  have Ie : Inv X pins σ Hd { sd with heap := sd.heap.push { cls := .type "slice", data := .fields #[vl, vu, vk] } } := Id.kept (t' := sd.toks) fun b ob z => Heap.get?_push_of_some _ z
  show wpAny (model X.prog X.w) X.A (subscriptTail e (.Slice none none (some (.UnaryOp .USub (.Constant (.int 1) k p1) p2)) p3) (.ref a) (.ref sd.heap.objs.size)) (EP X pins σ Q) X.xe { sd with heap := sd.heap.push { cls := .type "slice", data := .fields #[vl, vu, vk] } }
  rcases q with ⟨hx, q⟩ | ⟨hx, q⟩
  · obtain ⟨its, r, ht, hz⟩ := Ie.list hx
    have hn := r.length
    refine tail_any (ops := [.ref a, .ref sd.heap.objs.size]) ht.isList.typeIs (PySem.slot_list_getitem.lookup) ?_ (by with_unfolding_all rfl)
    refine wpAny_getItem_list_slice ht.isList (Heap.IsSliceOf.new _ vl vu vk) pl pu pk (by decide) ?_ (by rw [List.size_toArray]; omega)
    rw [PySem.W.krv_pick]
    refine ⟨.ref _, _, Ie.laid (t' := sd.toks) (o := .lst xs.reverse) (fun b ob z => Heap.get?_push_of_some _ z) (Nat.le_refl _) ?_, rfl, q _ (Ie.hok.fresh (Nat.le_refl _))⟩
    exact ⟨by rw [List.length_reverse]; exact hz, _, 0, r.reverse, Heap.get?_push_size _ rfl⟩
  · obtain ⟨its, r, ht, hz⟩ := Ie.tuple hx
    have hn := r.length
    cases pl; cases pu
    refine tail_any (ops := [.ref a, .ref sd.heap.objs.size]) ht.typeIs (PyProof.Rows.slot_tuple_getitem.lookup) ?_ (by with_unfolding_all rfl)
    refine HT.tuple_rev ht (Heap.IsSliceOf.new _ .none .none vk) pk ?_ (by rw [List.size_toArray]; omega)
    refine ⟨.ref _, _, Ie.laid (t' := sd.toks) (o := .tup xs.reverse) (fun b ob z => Heap.get?_push_of_some _ z) (Nat.le_refl _) ?_, rfl, q _ (Ie.hok.fresh (Nat.le_refl _))⟩
    exact ⟨by rw [List.length_reverse]; exact hz, _, r.reverse, ⟨_, Heap.get?_push_size _ rfl, rfl, _, rfl⟩⟩
section
variable {B : Bs} {W : List Nat} {E : Option XK} {te : TE} {fa : En → M D}
def gRev : D → Option D | .tup ds => some (.tup ds.reverse) | .lst ds => some (.lst ds.reverse) | _ => none
theorem rd_rev (ha : RdE B W E te fa) : RdE B W E (tRevU B.K te) (cUn gRev fa) := by
  intro r sa H0 O0 O σ δ s H gd Q h
  refine ha gd _ (post_mono (post_bind h) (fun x s1 hx v H1 st ra rp => ?_) (fun _ _ z => z))
  obtain ⟨d, e, hd⟩ := post_lift hx
  cases x <;> simp [gRev] at e
  · subst e
    obtain ⟨a, vs, rfl, h1, h2⟩ := rp.inv_tup
    exact ⟨a, vs, rfl, .inr ⟨sqT_le h1, fun p hp => hd _ _ (st.trans (Stp.new hp)) (ra.new hp) (new_tup hp (gd.step st ra).dom h2.reverse)⟩⟩
  · subst e
    obtain ⟨a, vs, rfl, h1, h2⟩ := rp.inv_lst
    exact ⟨a, vs, rfl, .inl ⟨SqL.of (hid_le _ _ h1), fun p hp => hd _ _ (st.trans (Stp.new hp)) (ra.new hp) (new_lst hp (gd.step st ra).dom h2.reverse)⟩⟩
end
section
variable {δ : En} {s : S}
@[simp] theorem e_itE (f : En → M D) : cItE f δ s = (f δ s).bind fun d s1 => (lift (seqD d) s1).bind fun ds s2 => .ok (enumD ds) s2 := rfl
@[simp] theorem e_itR (f : En → M D) : cItR f δ s = (f δ s).bind fun d s1 => (lift (seqD d) s1).bind fun ds s2 => .ok ds.reverse s2 := rfl
@[simp] theorem g_revT (ds : List D) : gRev (.tup ds) = some (.tup ds.reverse) := rfl
@[simp] theorem g_revL (ds : List D) : gRev (.lst ds) = some (.lst ds.reverse) := rfl
end
end PV

namespace LW
open PySem L2 PV
def topS (i : Nat) : Stmt := PySem.Challenge.pw_floorprices_k02_whole_levels.main.body.getD i (.Pass ⟨0, 0, 0, 0⟩)
abbrev s__law_taken : Stmt := topS 25
abbrev N__law_taken : List Str := ["_law_row", "_law_many", "_law_found", "_law_cell"]
abbrev P__law_taken : List Str := ["_law_row", "_law_many"]
theorem sc__law_taken : FnScope N__law_taken P__law_taken (defScope s__law_taken) := ⟨rfl, rfl, rfl, by decide +kernel, rfl, by decide +kernel, by decide +kernel⟩
abbrev s__law_buyer : Stmt := topS 26
abbrev N__law_buyer : List Str := ["_law_row", "_law_many", "_law_worth", "_law_found", "_law_step", "_law_turn"]
abbrev P__law_buyer : List Str := ["_law_row", "_law_many"]
theorem sc__law_buyer : FnScope N__law_buyer P__law_buyer (defScope s__law_buyer) := ⟨rfl, rfl, rfl, by decide +kernel, rfl, by decide +kernel, by decide +kernel⟩
abbrev s__law_stair : Stmt := topS 29
abbrev N__law_stair : List Str := ["_law_buyer_here", "_law_found", "_law_many", "_law_worth", "_law_weight"]
abbrev P__law_stair : List Str := ["_law_buyer_here"]
theorem sc__law_stair : FnScope N__law_stair P__law_stair (defScope s__law_stair) := ⟨rfl, rfl, rfl, by decide +kernel, rfl, by decide +kernel, by decide +kernel⟩
abbrev s__law_less : Stmt := topS 30
abbrev N__law_less : List Str := ["_law_one", "_law_other"]
abbrev P__law_less : List Str := ["_law_one", "_law_other"]
theorem sc__law_less : FnScope N__law_less P__law_less (defScope s__law_less) := ⟨rfl, rfl, rfl, by decide +kernel, rfl, by decide +kernel, by decide +kernel⟩
abbrev s__law_levels : Stmt := topS 31
abbrev N__law_levels : List Str := ["_law_buyer_here", "_law_points", "_law_found", "_law_at", "_law_least", "_law_one", "_law_most", "_law_other", "_law_rise"]
abbrev P__law_levels : List Str := ["_law_buyer_here"]
theorem sc__law_levels : FnScope N__law_levels P__law_levels (defScope s__law_levels) := ⟨rfl, rfl, rfl, by decide +kernel, rfl, by decide +kernel, by decide +kernel⟩
abbrev s_is_from : Stmt := topS 10
abbrev N_is_from : List Str := ["value", "low", "high"]
abbrev P_is_from : List Str := ["value", "low", "high"]
theorem sc_is_from : FnScope N_is_from P_is_from (defScope s_is_from) := ⟨rfl, rfl, rfl, by decide +kernel, rfl, by decide +kernel, by decide +kernel⟩
abbrev s_is_pair : Stmt := topS 11
abbrev N_is_pair : List Str := ["value"]
abbrev P_is_pair : List Str := ["value"]
theorem sc_is_pair : FnScope N_is_pair P_is_pair (defScope s_is_pair) := ⟨rfl, rfl, rfl, by decide +kernel, rfl, by decide +kernel, by decide +kernel⟩
abbrev s_is_buyer : Stmt := topS 12
abbrev N_is_buyer : List Str := ["value", "pair", "at"]
abbrev P_is_buyer : List Str := ["value"]
theorem sc_is_buyer : FnScope N_is_buyer P_is_buyer (defScope s_is_buyer) := ⟨rfl, rfl, rfl, by decide +kernel, rfl, by decide +kernel, by decide +kernel⟩
abbrev s_need_buyer : Stmt := topS 13
abbrev N_need_buyer : List Str := ["value"]
abbrev P_need_buyer : List Str := ["value"]
theorem sc_need_buyer : FnScope N_need_buyer P_need_buyer (defScope s_need_buyer) := ⟨rfl, rfl, rfl, by decide +kernel, rfl, by decide +kernel, by decide +kernel⟩
abbrev s_stair : Stmt := topS 15
abbrev N_stair : List Str := ["buyer", "found", "behind", "worth", "weight"]
abbrev P_stair : List Str := ["buyer"]
theorem sc_stair : FnScope N_stair P_stair (defScope s_stair) := ⟨rfl, rfl, rfl, by decide +kernel, rfl, by decide +kernel, by decide +kernel⟩
abbrev s_common : Stmt := topS 1
abbrev N_common : List Str := ["one", "other", "great", "less"]
abbrev P_common : List Str := ["one", "other"]
theorem sc_common : FnScope N_common P_common (defScope s_common) := ⟨rfl, rfl, rfl, by decide +kernel, rfl, by decide +kernel, by decide +kernel⟩
abbrev s_made : Stmt := topS 2
abbrev N_made : List Str := ["over", "under", "by"]
abbrev P_made : List Str := ["over", "under"]
theorem sc_made : FnScope N_made P_made (defScope s_made) := ⟨rfl, rfl, rfl, by decide +kernel, rfl, by decide +kernel, by decide +kernel⟩
abbrev s_slope : Stmt := topS 16
abbrev N_slope : List Str := ["one", "other"]
abbrev P_slope : List Str := ["one", "other"]
theorem sc_slope : FnScope N_slope P_slope (defScope s_slope) := ⟨rfl, rfl, rfl, by decide +kernel, rfl, by decide +kernel, by decide +kernel⟩
abbrev s_marks_of : Stmt := topS 17
abbrev N_marks_of : List Str := ["buyer", "points", "at"]
abbrev P_marks_of : List Str := ["buyer"]
theorem sc_marks_of : FnScope N_marks_of P_marks_of (defScope s_marks_of) := ⟨rfl, rfl, rfl, by decide +kernel, rfl, by decide +kernel, by decide +kernel⟩
abbrev s_marks : Stmt := topS 21
abbrev N_marks : List Str := ["buyer"]
abbrev P_marks : List Str := ["buyer"]
theorem sc_marks : FnScope N_marks P_marks (defScope s_marks) := ⟨rfl, rfl, rfl, by decide +kernel, rfl, by decide +kernel, by decide +kernel⟩
abbrev s_is_less : Stmt := topS 3
abbrev N_is_less : List Str := ["one", "other"]
abbrev P_is_less : List Str := ["one", "other"]
theorem sc_is_less : FnScope N_is_less P_is_less (defScope s_is_less) := ⟨rfl, rfl, rfl, by decide +kernel, rfl, by decide +kernel, by decide +kernel⟩
abbrev s_is_bend : Stmt := topS 18
abbrev N_is_bend : List Str := ["one", "other", "last"]
abbrev P_is_bend : List Str := ["one", "other", "last"]
theorem sc_is_bend : FnScope N_is_bend P_is_bend (defScope s_is_bend) := ⟨rfl, rfl, rfl, by decide +kernel, rfl, by decide +kernel, by decide +kernel⟩
abbrev s_hull : Stmt := topS 19
abbrev N_hull : List Str := ["points", "found", "at", "point"]
abbrev P_hull : List Str := ["points"]
theorem sc_hull : FnScope N_hull P_hull (defScope s_hull) := ⟨rfl, rfl, rfl, by decide +kernel, rfl, by decide +kernel, by decide +kernel⟩
abbrev s_levels_of : Stmt := topS 20
abbrev N_levels_of : List Str := ["buyer", "points", "bends", "found", "at", "one", "other"]
abbrev P_levels_of : List Str := ["buyer"]
theorem sc_levels_of : FnScope N_levels_of P_levels_of (defScope s_levels_of) := ⟨rfl, rfl, rfl, by decide +kernel, rfl, by decide +kernel, by decide +kernel⟩
abbrev s_levels : Stmt := topS 22
abbrev N_levels : List Str := ["buyer"]
abbrev P_levels : List Str := ["buyer"]
theorem sc_levels : FnScope N_levels P_levels (defScope s_levels) := ⟨rfl, rfl, rfl, by decide +kernel, rfl, by decide +kernel, by decide +kernel⟩
abbrev s_stretches : Stmt := topS 23
abbrev N_stretches : List Str := ["buyer", "told", "found", "at", "level"]
abbrev P_stretches : List Str := ["buyer"]
theorem sc_stretches : FnScope N_stretches P_stretches (defScope s_stretches) := ⟨rfl, rfl, rfl, by decide +kernel, rfl, by decide +kernel, by decide +kernel⟩
abbrev s__law_gcd : Stmt := topS 27
abbrev N__law_gcd : List Str := ["_law_one", "_law_other"]
abbrev P__law_gcd : List Str := ["_law_one", "_law_other"]
theorem sc__law_gcd : FnScope N__law_gcd P__law_gcd (defScope s__law_gcd) := ⟨rfl, rfl, rfl, by decide +kernel, rfl, by decide +kernel, by decide +kernel⟩
abbrev s__law_is : Stmt := topS 28
abbrev N__law_is : List Str := ["_law_told", "_law_over", "_law_under"]
abbrev P__law_is : List Str := ["_law_told", "_law_over", "_law_under"]
theorem sc__law_is : FnScope N__law_is P__law_is (defScope s__law_is) := ⟨rfl, rfl, rfl, by decide +kernel, rfl, by decide +kernel, by decide +kernel⟩
abbrev s_law : Stmt := topS 32
abbrev N_law : List Str := ["_law_script", "_law_row", "_law_turn", "_law_buyer_here", "_law_points", "_law_total", "_law_worth", "_law_weight", "_law_plain", "_law_flat", "_law_due", "_law_at", "_law_one", "_law_other", "_law_rise", "_law_wide", "_law_told", "_law_over", "_law_under", "_law_high", "_law_low", "_law_some"]
abbrev P_law : List Str := ["_law_script"]
theorem sc_law : FnScope N_law P_law (defScope s_law) := ⟨rfl, rfl, rfl, by decide +kernel, rfl, by decide +kernel, by decide +kernel⟩
structure Tx (B : Bs) (mg : Str → Option Value) where
  f__law_taken : Addr
  d__law_taken : FuncData
  F__law_taken : Fun B.K "_law_taken" "_law_taken" s__law_taken f__law_taken d__law_taken
  m__law_taken : mg "_law_taken" = some (.ref f__law_taken)
  k__law_taken : PySem.W.keepIn B.K (.ref f__law_taken) = true
  b__law_taken : Binds B.K d__law_taken P__law_taken []
  f__law_buyer : Addr
  d__law_buyer : FuncData
  F__law_buyer : Fun B.K "_law_buyer" "_law_buyer" s__law_buyer f__law_buyer d__law_buyer
  m__law_buyer : mg "_law_buyer" = some (.ref f__law_buyer)
  k__law_buyer : PySem.W.keepIn B.K (.ref f__law_buyer) = true
  b__law_buyer : Binds B.K d__law_buyer P__law_buyer []
  f__law_stair : Addr
  d__law_stair : FuncData
  F__law_stair : Fun B.K "_law_stair" "_law_stair" s__law_stair f__law_stair d__law_stair
  m__law_stair : mg "_law_stair" = some (.ref f__law_stair)
  k__law_stair : PySem.W.keepIn B.K (.ref f__law_stair) = true
  b__law_stair : Binds B.K d__law_stair P__law_stair []
  f__law_less : Addr
  d__law_less : FuncData
  F__law_less : Fun B.K "_law_less" "_law_less" s__law_less f__law_less d__law_less
  m__law_less : mg "_law_less" = some (.ref f__law_less)
  k__law_less : PySem.W.keepIn B.K (.ref f__law_less) = true
  b__law_less : Binds B.K d__law_less P__law_less []
  f__law_levels : Addr
  d__law_levels : FuncData
  F__law_levels : Fun B.K "_law_levels" "_law_levels" s__law_levels f__law_levels d__law_levels
  m__law_levels : mg "_law_levels" = some (.ref f__law_levels)
  k__law_levels : PySem.W.keepIn B.K (.ref f__law_levels) = true
  b__law_levels : Binds B.K d__law_levels P__law_levels []
  f_is_from : Addr
  d_is_from : FuncData
  F_is_from : Fun B.K "is_from" "is_from" s_is_from f_is_from d_is_from
  m_is_from : mg "is_from" = some (.ref f_is_from)
  k_is_from : PySem.W.keepIn B.K (.ref f_is_from) = true
  b_is_from : Binds B.K d_is_from P_is_from []
  f_is_pair : Addr
  d_is_pair : FuncData
  F_is_pair : Fun B.K "is_pair" "is_pair" s_is_pair f_is_pair d_is_pair
  m_is_pair : mg "is_pair" = some (.ref f_is_pair)
  k_is_pair : PySem.W.keepIn B.K (.ref f_is_pair) = true
  b_is_pair : Binds B.K d_is_pair P_is_pair []
  f_is_buyer : Addr
  d_is_buyer : FuncData
  F_is_buyer : Fun B.K "is_buyer" "is_buyer" s_is_buyer f_is_buyer d_is_buyer
  m_is_buyer : mg "is_buyer" = some (.ref f_is_buyer)
  k_is_buyer : PySem.W.keepIn B.K (.ref f_is_buyer) = true
  b_is_buyer : Binds B.K d_is_buyer P_is_buyer []
  f_need_buyer : Addr
  d_need_buyer : FuncData
  F_need_buyer : Fun B.K "need_buyer" "need_buyer" s_need_buyer f_need_buyer d_need_buyer
  m_need_buyer : mg "need_buyer" = some (.ref f_need_buyer)
  k_need_buyer : PySem.W.keepIn B.K (.ref f_need_buyer) = true
  b_need_buyer : Binds B.K d_need_buyer P_need_buyer []
  f_stair : Addr
  d_stair : FuncData
  F_stair : Fun B.K "stair" "stair" s_stair f_stair d_stair
  m_stair : mg "stair" = some (.ref f_stair)
  k_stair : PySem.W.keepIn B.K (.ref f_stair) = true
  b_stair : Binds B.K d_stair P_stair []
  f_common : Addr
  d_common : FuncData
  F_common : Fun B.K "common" "common" s_common f_common d_common
  m_common : mg "common" = some (.ref f_common)
  k_common : PySem.W.keepIn B.K (.ref f_common) = true
  b_common : Binds B.K d_common P_common []
  f_made : Addr
  d_made : FuncData
  F_made : Fun B.K "made" "made" s_made f_made d_made
  m_made : mg "made" = some (.ref f_made)
  k_made : PySem.W.keepIn B.K (.ref f_made) = true
  b_made : Binds B.K d_made P_made []
  f_slope : Addr
  d_slope : FuncData
  F_slope : Fun B.K "slope" "slope" s_slope f_slope d_slope
  m_slope : mg "slope" = some (.ref f_slope)
  k_slope : PySem.W.keepIn B.K (.ref f_slope) = true
  b_slope : Binds B.K d_slope P_slope []
  f_marks_of : Addr
  d_marks_of : FuncData
  F_marks_of : Fun B.K "marks_of" "marks_of" s_marks_of f_marks_of d_marks_of
  m_marks_of : mg "marks_of" = some (.ref f_marks_of)
  k_marks_of : PySem.W.keepIn B.K (.ref f_marks_of) = true
  b_marks_of : Binds B.K d_marks_of P_marks_of []
  f_marks : Addr
  d_marks : FuncData
  F_marks : Fun B.K "marks" "marks" s_marks f_marks d_marks
  m_marks : mg "marks" = some (.ref f_marks)
  k_marks : PySem.W.keepIn B.K (.ref f_marks) = true
  b_marks : Binds B.K d_marks P_marks []
  f_is_less : Addr
  d_is_less : FuncData
  F_is_less : Fun B.K "is_less" "is_less" s_is_less f_is_less d_is_less
  m_is_less : mg "is_less" = some (.ref f_is_less)
  k_is_less : PySem.W.keepIn B.K (.ref f_is_less) = true
  b_is_less : Binds B.K d_is_less P_is_less []
  f_is_bend : Addr
  d_is_bend : FuncData
  F_is_bend : Fun B.K "is_bend" "is_bend" s_is_bend f_is_bend d_is_bend
  m_is_bend : mg "is_bend" = some (.ref f_is_bend)
  k_is_bend : PySem.W.keepIn B.K (.ref f_is_bend) = true
  b_is_bend : Binds B.K d_is_bend P_is_bend []
  f_hull : Addr
  d_hull : FuncData
  F_hull : Fun B.K "hull" "hull" s_hull f_hull d_hull
  m_hull : mg "hull" = some (.ref f_hull)
  k_hull : PySem.W.keepIn B.K (.ref f_hull) = true
  b_hull : Binds B.K d_hull P_hull []
  f_levels_of : Addr
  d_levels_of : FuncData
  F_levels_of : Fun B.K "levels_of" "levels_of" s_levels_of f_levels_of d_levels_of
  m_levels_of : mg "levels_of" = some (.ref f_levels_of)
  k_levels_of : PySem.W.keepIn B.K (.ref f_levels_of) = true
  b_levels_of : Binds B.K d_levels_of P_levels_of []
  f_levels : Addr
  d_levels : FuncData
  F_levels : Fun B.K "levels" "levels" s_levels f_levels d_levels
  m_levels : mg "levels" = some (.ref f_levels)
  k_levels : PySem.W.keepIn B.K (.ref f_levels) = true
  b_levels : Binds B.K d_levels P_levels []
  f_stretches : Addr
  d_stretches : FuncData
  F_stretches : Fun B.K "stretches" "stretches" s_stretches f_stretches d_stretches
  m_stretches : mg "stretches" = some (.ref f_stretches)
  k_stretches : PySem.W.keepIn B.K (.ref f_stretches) = true
  b_stretches : Binds B.K d_stretches P_stretches []
  f__law_gcd : Addr
  d__law_gcd : FuncData
  F__law_gcd : Fun B.K "_law_gcd" "_law_gcd" s__law_gcd f__law_gcd d__law_gcd
  m__law_gcd : mg "_law_gcd" = some (.ref f__law_gcd)
  k__law_gcd : PySem.W.keepIn B.K (.ref f__law_gcd) = true
  b__law_gcd : Binds B.K d__law_gcd P__law_gcd []
  f__law_is : Addr
  d__law_is : FuncData
  F__law_is : Fun B.K "_law_is" "_law_is" s__law_is f__law_is d__law_is
  m__law_is : mg "_law_is" = some (.ref f__law_is)
  k__law_is : PySem.W.keepIn B.K (.ref f__law_is) = true
  b__law_is : Binds B.K d__law_is P__law_is []
  f_law : Addr
  d_law : FuncData
  F_law : Fun B.K "law" "law" s_law f_law d_law
  m_law : mg "law" = some (.ref f_law)
  k_law : PySem.W.keepIn B.K (.ref f_law) = true
  b_law : Binds B.K d_law P_law []
  n_abs : mg "abs" = none
  n_all : mg "all" = none
  n_bool : mg "bool" = none
  n_enumerate : mg "enumerate" = none
  n_int : mg "int" = none
  n_isinstance : mg "isinstance" = none
  n_len : mg "len" = none
  n_range : mg "range" = none
  n_reversed : mg "reversed" = none
  n_sum : mg "sum" = none
  n_tuple : mg "tuple" = none
  t_MOST : Tok
  m_MOST : mg "MOST" = some (.int 1000000000 t_MOST)
  t_MOST_WORTHS : Tok
  m_MOST_WORTHS : mg "MOST_WORTHS" = some (.int 5 t_MOST_WORTHS)
/-! the plain functions -/
abbrev f__law_taken : List D → M D := drawF
def l1__law_buyer : En → M Fl := (cSeq (cApp 3 (cTup (cCons (cVar 2) (cCons (cOp gAdd (cC (.int 1)) (cCall 2 f__law_taken (cCons (cVar 0) (cCons (cOp gIx (cLst (cCons (cC (.int 1)) (cCons (cC (.int 3)) (cCons (cC (.int 9)) (cCons (cOp gPow (cC (.int 10)) (cC (.int 8))) cNil))))) (cCall 2 f__law_taken (cCons (cVar 0) (cCons (cC (.int 4)) cNil)))) cNil)))) cNil))))
    (cSet 2 (cOp gAdd (cOp gAdd (cVar 2) (cC (.int 1))) (cCall 2 f__law_taken (cCons (cVar 0) (cCons (cVar 4) cNil))))))
def b__law_buyer : En → M Fl := (cSeq (cPar (pCons [3] 2 (cV (cCall 2 f__law_taken (cCons (cVar 0) (cCons (cC (.int 4)) cNil)))) (pCons [3] 3 (cN (cLstL cNil)) (pCons [3] 4 (cV (cOp gIx (cLst (cCons (cC (.int 1)) (cCons (cC (.int 3)) (cCons (cC (.int 9)) (cCons (cOp gPow (cC (.int 10)) (cC (.int 6))) cNil))))) (cCall 2 f__law_taken (cCons (cVar 0) (cCons (cC (.int 4)) cNil))))) pNil))))
    (cSeq (cFor (cItA gR1 (cCons (cOp gAdd (cC (.int 1)) (cCall 2 f__law_taken (cCons (cVar 0) (cCons (cVar 1) cNil)))) cNil)) (tgName 5) l1__law_buyer)
    (cRet (cB gTuple (cCons (cVar 3) cNil)))))
def f__law_buyer : List D → M D := runD 2 6 b__law_buyer
theorem u__law_buyer (x0 x1 : D) (s : S) : f__law_buyer [x0, x1] s = (b__law_buyer [some x0, some x1, none, none, none, none] s).bind endD := rfl
def l1__law_stair : En → M Fl := (cSeq (cSet 2 (cOp gAdd (cVar 2) (cVar 4)))
    (cApp 1 (cTup (cCons (cVar 2) (cCons (cOp gMul (cVar 3) (cVar 2)) cNil)))))
def b__law_stair : En → M Fl := (cSeq (cPar (pCons [1] 1 (cN (cLstL (cCons (cTup (cCons (cC (.int 0)) (cCons (cC (.int 0)) cNil))) cNil))) (pCons [1] 2 (cV (cC (.int 0))) pNil)))
    (cSeq (cFor (cItU (cUn gRev (cVar 0))) (tgTup 2 (tgCons (tgName 3) (tgCons (tgName 4) tgNil))) l1__law_stair)
    (cRet (cVar 1))))
def f__law_stair : List D → M D := runD 1 5 b__law_stair
theorem u__law_stair (x0 : D) (s : S) : f__law_stair [x0] s = (b__law_stair [some x0, none, none, none, none] s).bind endD := rfl
def b__law_less : En → M Fl := (cRet (cOp gLt (cOp gMul (cOp gIx (cVar 0) (cC (.int 0))) (cOp gIx (cVar 1) (cC (.int 1)))) (cOp gMul (cOp gIx (cVar 1) (cC (.int 0))) (cOp gIx (cVar 0) (cC (.int 1))))))
def f__law_less : List D → M D := runD 2 2 b__law_less
theorem u__law_less (x0 x1 : D) (s : S) : f__law_less [x0, x1] s = (b__law_less [some x0, some x1] s).bind endD := rfl
def l1__law_levels : En → M Fl := (cSeq (cSet 8 (cTup (cCons (cOp gDif (cOp gIx (cOp gIx (cVar 1) (cVar 7)) (cC (.int 1))) (cOp gIx (cOp gIx (cVar 1) (cVar 5)) (cC (.int 1)))) (cCons (cOp gDif (cOp gIx (cOp gIx (cVar 1) (cVar 7)) (cC (.int 0))) (cOp gIx (cOp gIx (cVar 1) (cVar 5)) (cC (.int 0)))) cNil))))
    (cIte (cOr (cTst (cOp gIsN (cVar 6) (cC .non))) (cTst (cCall 2 f__law_less (cCons (cVar 6) (cCons (cVar 8) cNil))))) (cSet 6 (cVar 8)) cNext))
def l2__law_levels : En → M Fl := (cSeq (cSet 6 (cC .non))
    (cSeq (cFor (cItA gR2 (cCons (cOp gAdd (cVar 3) (cC (.int 1))) (cCons (cB gLen (cCons (cVar 1) cNil)) cNil))) (tgName 7) l1__law_levels)
    (cIte (cOr (cTst (cOp gIsN (cVar 4) (cC .non))) (cTst (cCall 2 f__law_less (cCons (cVar 6) (cCons (cVar 4) cNil))))) (cSet 4 (cVar 6)) cNext)))
def l3__law_levels : En → M Fl := (cSeq (cSet 4 (cC .non))
    (cSeq (cFor (cItA gR1 (cCons (cOp gAdd (cVar 3) (cC (.int 1))) cNil)) (tgName 5) l2__law_levels)
    (cApp 2 (cVar 4))))
def b__law_levels : En → M Fl := (cSeq (cPar (pCons [2] 1 (cV (cCall 1 f__law_stair (cCons (cVar 0) cNil))) (pCons [2] 2 (cN (cLstL cNil)) pNil)))
    (cSeq (cFor (cItA gR1 (cCons (cB gLen (cCons (cVar 0) cNil)) cNil)) (tgName 3) l3__law_levels)
    (cRet (cUn gRev (cVar 2)))))
def f__law_levels : List D → M D := runD 1 9 b__law_levels
theorem u__law_levels (x0 : D) (s : S) : f__law_levels [x0] s = (b__law_levels [some x0, none, none, none, none, none, none, none, none] s).bind endD := rfl
def b_is_from : En → M Fl := (cRet (cAndV (cIsi "int" (cVar 0)) (cAndV (cNotV (cIsi "bool" (cVar 0))) (cChain gLe gLe (cVar 1) (cVar 0) (cVar 2)))))
def f_is_from : List D → M D := runD 3 3 b_is_from
theorem u_is_from (x0 x1 x2 : D) (s : S) : f_is_from [x0, x1, x2] s = (b_is_from [some x0, some x1, some x2] s).bind endD := rfl
def b_is_pair : En → M Fl := (cRet (cAndV (cIsi "tuple" (cVar 0)) (cAndV (cOp gEq (cB gLen (cCons (cVar 0) cNil)) (cC (.int 2))) (cAndV (cCall 3 f_is_from (cCons (cOp gIx (cVar 0) (cC (.int 0))) (cCons (cC (.int 0)) (cCons (cC (.int 1000000000)) cNil)))) (cCall 3 f_is_from (cCons (cOp gIx (cVar 0) (cC (.int 1))) (cCons (cC (.int 1)) (cCons (cC (.int 1000000000)) cNil))))))))
def f_is_pair : List D → M D := runD 1 1 b_is_pair
theorem u_is_pair (x0 : D) (s : S) : f_is_pair [x0] s = (b_is_pair [some x0] s).bind endD := rfl
def b_is_buyer : En → M Fl := (cSeq (cIte (cOr (cNot (cTst (cIsi "tuple" (cVar 0)))) (cOr (cNot (cTst (cChain gLe gLe (cC (.int 1)) (cB gLen (cCons (cVar 0) cNil)) (cC (.int 5))))) (cNot (cTst (cB gAll (cCons (cLc [1] (cItU (cVar 0)) (tgName 1) cYes (cCall 1 f_is_pair (cCons (cVar 1) cNil))) cNil)))))) (cRet (cC (.bl false))) cNext)
    (cRet (cB gAll (cCons (cLc [2] (cItA gR1 (cCons (cOp gDif (cB gLen (cCons (cVar 0) cNil)) (cC (.int 1))) cNil)) (tgName 2) cYes (cOp gLt (cOp gIx (cOp gIx (cVar 0) (cVar 2)) (cC (.int 0))) (cOp gIx (cOp gIx (cVar 0) (cOp gAdd (cVar 2) (cC (.int 1)))) (cC (.int 0))))) cNil))))
def f_is_buyer : List D → M D := runD 1 3 b_is_buyer
theorem u_is_buyer (x0 : D) (s : S) : f_is_buyer [x0] s = (b_is_buyer [some x0, none, none] s).bind endD := rfl
def b_need_buyer : En → M Fl := (cIte (cNot (cTst (cCall 1 f_is_buyer (cCons (cVar 0) cNil)))) cStuck cNext)
def f_need_buyer : List D → M D := runD 1 1 b_need_buyer
theorem u_need_buyer (x0 : D) (s : S) : f_need_buyer [x0] s = (b_need_buyer [some x0] s).bind endD := rfl
def l1_stair : En → M Fl := (cSeq (cAug 2 (fun i j => i + j) (cVar 4))
    (cApp 1 (cTup (cCons (cVar 2) (cCons (cOp gMul (cVar 3) (cVar 2)) cNil)))))
def b_stair : En → M Fl := (cSeq (cPar (pCons [1] 1 (cN (cLstL (cCons (cTup (cCons (cC (.int 0)) (cCons (cC (.int 0)) cNil))) cNil))) (pCons [1] 2 (cV (cC (.int 0))) pNil)))
    (cSeq (cFor (cItR (cVar 0)) (tgTup 2 (tgCons (tgName 3) (tgCons (tgName 4) tgNil))) l1_stair)
    (cRet (cVar 1))))
def f_stair : List D → M D := runD 1 5 b_stair
theorem u_stair (x0 : D) (s : S) : f_stair [x0] s = (b_stair [some x0, none, none, none, none] s).bind endD := rfl
def b_common : En → M Fl := (cSeq (cPar (pCons [] 2 (cV (cB gAbs (cCons (cVar 0) cNil))) (pCons [] 3 (cV (cB gAbs (cCons (cVar 1) cNil))) pNil)))
    (cSeq (cWhile (fuelI 3) (cTst (cOp gGt (cVar 3) (cC (.int 0)))) (cPar (pCons [] 2 (cV (cVar 3)) (pCons [] 3 (cV (cOp gMod (cVar 2) (cVar 3))) pNil))))
    (cRet (cVar 2))))
def f_common : List D → M D := runD 2 4 b_common
theorem u_common (x0 x1 : D) (s : S) : f_common [x0, x1] s = (b_common [some x0, some x1, none, none] s).bind endD := rfl
def b_made : En → M Fl := (cSeq (cSet 2 (cCall 2 f_common (cCons (cVar 0) (cCons (cVar 1) cNil))))
    (cRet (cTup (cCons (cOp gFdiv (cVar 0) (cVar 2)) (cCons (cOp gFdiv (cVar 1) (cVar 2)) cNil)))))
def f_made : List D → M D := runD 2 3 b_made
theorem u_made (x0 x1 : D) (s : S) : f_made [x0, x1] s = (b_made [some x0, some x1, none] s).bind endD := rfl
def b_slope : En → M Fl := (cRet (cCall 2 f_made (cCons (cOp gDif (cOp gIx (cVar 1) (cC (.int 1))) (cOp gIx (cVar 0) (cC (.int 1)))) (cCons (cOp gDif (cOp gIx (cVar 1) (cC (.int 0))) (cOp gIx (cVar 0) (cC (.int 0)))) cNil))))
def f_slope : List D → M D := runD 2 2 b_slope
theorem u_slope (x0 x1 : D) (s : S) : f_slope [x0, x1] s = (b_slope [some x0, some x1] s).bind endD := rfl
def b_marks_of : En → M Fl := (cSeq (cSet 1 (cCall 1 f_stair (cCons (cVar 0) cNil)))
    (cRet (cUn gRev (cLc [2] (cItA gR1 (cCons (cB gLen (cCons (cVar 0) cNil)) cNil)) (tgName 2) cYes (cCall 2 f_slope (cCons (cOp gIx (cVar 1) (cVar 2)) (cCons (cOp gIx (cVar 1) (cOp gAdd (cVar 2) (cC (.int 1)))) cNil)))))))
def f_marks_of : List D → M D := runD 1 3 b_marks_of
theorem u_marks_of (x0 : D) (s : S) : f_marks_of [x0] s = (b_marks_of [some x0, none, none] s).bind endD := rfl
def b_marks : En → M Fl := (cSeq (cDo (cCall 1 f_need_buyer (cCons (cVar 0) cNil)))
    (cRet (cCall 1 f_marks_of (cCons (cVar 0) cNil))))
def f_marks : List D → M D := runD 1 1 b_marks
theorem u_marks (x0 : D) (s : S) : f_marks [x0] s = (b_marks [some x0] s).bind endD := rfl
def b_is_less : En → M Fl := (cRet (cOp gLt (cOp gMul (cOp gIx (cVar 0) (cC (.int 0))) (cOp gIx (cVar 1) (cC (.int 1)))) (cOp gMul (cOp gIx (cVar 1) (cC (.int 0))) (cOp gIx (cVar 0) (cC (.int 1))))))
def f_is_less : List D → M D := runD 2 2 b_is_less
theorem u_is_less (x0 x1 : D) (s : S) : f_is_less [x0, x1] s = (b_is_less [some x0, some x1] s).bind endD := rfl
def b_is_bend : En → M Fl := (cRet (cCall 2 f_is_less (cCons (cCall 2 f_slope (cCons (cVar 1) (cCons (cVar 2) cNil))) (cCons (cCall 2 f_slope (cCons (cVar 0) (cCons (cVar 1) cNil))) cNil))))
def f_is_bend : List D → M D := runD 3 3 b_is_bend
theorem u_is_bend (x0 x1 x2 : D) (s : S) : f_is_bend [x0, x1, x2] s = (b_is_bend [some x0, some x1, some x2] s).bind endD := rfl
def l1_hull : En → M Fl := (cSeq (cWhile (fuelL 1) (cAnd (cPk (cTst (cOp gGt (cB gLen (cCons (cVar 1) cNil)) (cC (.int 1))))) (cNot (cTst (cCall 3 f_is_bend (cCons (cOp gIx (cVar 0) (cScal (cOp gIx (cVar 1) (cUn gNeg (cC (.int 2)))))) (cCons (cOp gIx (cVar 0) (cScal (cOp gIx (cVar 1) (cUn gNeg (cC (.int 1)))))) (cCons (cVar 3) cNil))))))) (cPop 1))
    (cApp 1 (cVar 2)))
def b_hull : En → M Fl := (cSeq (cSetL 1 (cLstL cNil))
    (cSeq (cFor (cItE (cVar 0)) (tgTup 2 (tgCons (tgName 2) (tgCons (tgName 3) tgNil))) l1_hull)
    (cRet (cVar 1))))
def f_hull : List D → M D := runD 1 4 b_hull
theorem u_hull (x0 : D) (s : S) : f_hull [x0] s = (b_hull [some x0, none, none, none] s).bind endD := rfl
def l1_levels_of : En → M Fl := (cSeq (cPar (pCons [3] 5 (cV (cOp gIx (cVar 2) (cVar 4))) (pCons [3] 6 (cV (cOp gIx (cVar 2) (cOp gAdd (cVar 4) (cC (.int 1))))) pNil)))
    (cExt 3 (cOp gMul (cLst (cCons (cCall 2 f_slope (cCons (cOp gIx (cVar 1) (cVar 5)) (cCons (cOp gIx (cVar 1) (cVar 6)) cNil))) cNil)) (cOp gDif (cVar 6) (cVar 5)))))
def b_levels_of : En → M Fl := (cSeq (cSet 1 (cCall 1 f_stair (cCons (cVar 0) cNil)))
    (cSeq (cPar (pCons [3] 2 (cV (cCall 1 f_hull (cCons (cVar 1) cNil))) (pCons [3] 3 (cN (cLstL cNil)) pNil)))
    (cSeq (cFor (cItA gR1 (cCons (cOp gDif (cB gLen (cCons (cVar 2) cNil)) (cC (.int 1))) cNil)) (tgName 4) l1_levels_of)
    (cRet (cUn gRev (cVar 3))))))
def f_levels_of : List D → M D := runD 1 7 b_levels_of
theorem u_levels_of (x0 : D) (s : S) : f_levels_of [x0] s = (b_levels_of [some x0, none, none, none, none, none, none] s).bind endD := rfl
def b_levels : En → M Fl := (cSeq (cDo (cCall 1 f_need_buyer (cCons (cVar 0) cNil)))
    (cRet (cCall 1 f_levels_of (cCons (cVar 0) cNil))))
def f_levels : List D → M D := runD 1 1 b_levels
theorem u_levels (x0 : D) (s : S) : f_levels [x0] s = (b_levels [some x0] s).bind endD := rfl
def l1_stretches : En → M Fl := (cIte (cAnd (cTst (cOp gGt (cVar 3) (cC (.int 0)))) (cTst (cOp gEq (cOp gIx (cVar 1) (cOp gDif (cVar 3) (cC (.int 1)))) (cVar 4)))) (cPut 2 (cUn gNeg (cC (.int 1))) (cTup (cCons (cScal (cOp gIx (cOp gIx (cVar 2) (cUn gNeg (cC (.int 1)))) (cC (.int 0)))) (cCons (cVar 3) cNil)))) (cApp 2 (cTup (cCons (cVar 3) (cCons (cVar 3) cNil)))))
def b_stretches : En → M Fl := (cSeq (cDo (cCall 1 f_need_buyer (cCons (cVar 0) cNil)))
    (cSeq (cPar (pCons [2] 1 (cV (cCall 1 f_levels_of (cCons (cVar 0) cNil))) (pCons [2] 2 (cN (cLstL cNil)) pNil)))
    (cSeq (cFor (cItE (cVar 1)) (tgTup 2 (tgCons (tgName 3) (tgCons (tgName 4) tgNil))) l1_stretches)
    (cRet (cVar 2)))))
def f_stretches : List D → M D := runD 1 5 b_stretches
theorem u_stretches (x0 : D) (s : S) : f_stretches [x0] s = (b_stretches [some x0, none, none, none, none] s).bind endD := rfl
abbrev f__law_gcd : List D → M D := gcdF 140
def b__law_is : En → M Fl := (cSeq (cIte (cOr (cNot (cTst (cIsi "tuple" (cVar 0)))) (cOr (cTst (cOp gNe (cB gLen (cCons (cVar 0) cNil)) (cC (.int 2)))) (cOr (cTst (cIsi "bool" (cOp gIx (cVar 0) (cC (.int 0))))) (cTst (cOp gLt (cOp gIx (cVar 0) (cC (.int 1))) (cC (.int 1))))))) (cRet (cC (.bl false))) cNext)
    (cRet (cAndV (cOp gEq (cOp gMul (cOp gIx (cVar 0) (cC (.int 0))) (cVar 2)) (cOp gMul (cVar 1) (cOp gIx (cVar 0) (cC (.int 1))))) (cOp gEq (cCall 2 f__law_gcd (cCons (cOp gIx (cVar 0) (cC (.int 0))) (cCons (cOp gIx (cVar 0) (cC (.int 1))) cNil))) (cC (.int 1))))))
def f__law_is : List D → M D := runD 3 3 b__law_is
theorem u__law_is (x0 x1 x2 : D) (s : S) : f__law_is [x0, x1, x2] s = (b__law_is [some x0, some x1, some x2] s).bind endD := rfl
def l1_law : En → M Fl := (cSeq (cSet 12 (cOp gIx (cVar 4) (cOp gDif (cOp gDif (cB gLen (cCons (cVar 3) cNil)) (cVar 11)) (cC (.int 1)))))
    (cSeq (cSet 13 (cOp gIx (cVar 4) (cOp gDif (cB gLen (cCons (cVar 3) cNil)) (cVar 11))))
    (cSeq (cPar (pCons [21] 14 (cV (cOp gDif (cOp gIx (cVar 13) (cC (.int 1))) (cOp gIx (cVar 12) (cC (.int 1))))) (pCons [21] 15 (cV (cOp gDif (cOp gIx (cVar 13) (cC (.int 0))) (cOp gIx (cVar 12) (cC (.int 0))))) pNil)))
    (cSeq (cIte (cNot (cTst (cCall 3 f__law_is (cCons (cOp gIx (cVar 8) (cVar 11)) (cCons (cVar 14) (cCons (cVar 15) cNil)))))) (cRet (cC (.bl false))) cNext)
    (cSeq (cIte (cNot (cTst (cCall 3 f__law_is (cCons (cOp gIx (cVar 9) (cVar 11)) (cCons (cOp gIx (cOp gIx (cVar 10) (cVar 11)) (cC (.int 0))) (cCons (cOp gIx (cOp gIx (cVar 10) (cVar 11)) (cC (.int 1))) cNil)))))) (cRet (cC (.bl false))) cNext)
    (cIte (cAnd (cTst (cOp gGt (cVar 11) (cC (.int 0)))) (cTst (cCall 2 f__law_less (cCons (cOp gIx (cVar 9) (cVar 11)) (cCons (cOp gIx (cVar 9) (cOp gDif (cVar 11) (cC (.int 1)))) cNil))))) (cRet (cC (.bl false))) cNext))))))
def l2_law : En → M Fl := (cSeq (cAsg (cOp gIx (cVar 16) (cVar 11)) (tgTup 2 (tgCons (tgName 19) (tgCons (tgName 20) tgNil))))
    (cSeq (cSet 17 (cOp gAdd (cOp gMul (cVar 17) (cVar 20)) (cOp gMul (cOp gMul (cVar 19) (cOp gIx (cOp gIx (cVar 3) (cVar 11)) (cC (.int 1)))) (cVar 18))))
    (cSet 18 (cOp gMul (cVar 18) (cVar 20)))))
def l3_law : En → M Fl := (cSeq (cPar (pCons [21] 17 (cV (cC (.int 0))) (pCons [21] 18 (cV (cC (.int 1))) pNil)))
    (cSeq (cFor (cItA gR1 (cCons (cB gLen (cCons (cVar 3) cNil)) cNil)) (tgName 11) l2_law)
    (cIte (cTst (cOp gNe (cVar 17) (cOp gMul (cOp gMul (cOp gIx (cOp gIx (cVar 3) (cC (.int 0))) (cC (.int 0))) (cVar 5)) (cVar 18)))) (cRet (cC (.bl false))) cNext)))
def l4_law : En → M Fl := (cIte (cAnd (cTst (cOp gGt (cVar 11) (cC (.int 0)))) (cTst (cOp gEq (cOp gIx (cVar 9) (cVar 11)) (cOp gIx (cVar 9) (cOp gDif (cVar 11) (cC (.int 1))))))) (cPut 21 (cUn gNeg (cC (.int 1))) (cTup (cCons (cScal (cOp gIx (cOp gIx (cVar 21) (cUn gNeg (cC (.int 1)))) (cC (.int 0)))) (cCons (cVar 11) cNil)))) (cApp 21 (cTup (cCons (cVar 11) (cCons (cVar 11) cNil)))))
def l5_law : En → M Fl := (cSeq (cSet 3 (cCall 2 f__law_buyer (cCons (cVar 1) (cCons (cC (.int 5)) cNil))))
    (cSeq (cSet 4 (cCall 1 f__law_stair (cCons (cVar 3) cNil)))
    (cSeq (cSet 5 (cB gSum (cCons (cLc [6, 7] (cItU (cVar 3)) (tgTup 2 (tgCons (tgName 6) (tgCons (tgName 7) tgNil))) cYes (cVar 7)) cNil)))
    (cSeq (cPar (pCons [21] 8 (cV (cCall 1 f_marks (cCons (cVar 3) cNil))) (pCons [21] 9 (cV (cCall 1 f_levels (cCons (cVar 3) cNil))) pNil)))
    (cSeq (cSet 10 (cCall 1 f__law_levels (cCons (cVar 3) cNil)))
    (cSeq (cIte (cOr (cTst (cOp gNe (cB gLen (cCons (cVar 8) cNil)) (cB gLen (cCons (cVar 3) cNil)))) (cTst (cOp gNe (cB gLen (cCons (cVar 9) cNil)) (cB gLen (cCons (cVar 3) cNil))))) (cRet (cC (.bl false))) cNext)
    (cSeq (cFor (cItA gR1 (cCons (cB gLen (cCons (cVar 3) cNil)) cNil)) (tgName 11) l1_law)
    (cSeq (cFor (cItU (cLst (cCons (cVar 8) (cCons (cVar 9) cNil)))) (tgName 16) l3_law)
    (cSeq (cSetL 21 (cLstL cNil))
    (cSeq (cFor (cItA gR1 (cCons (cB gLen (cCons (cVar 3) cNil)) cNil)) (tgName 11) l4_law)
    (cIte (cPk (cTst (cOp gNe (cCall 1 f_stretches (cCons (cVar 3) cNil)) (cVar 21)))) (cRet (cC (.bl false))) cNext)))))))))))
def b_law : En → M Fl := (cSeq (cFor (cItA gR1 (cCons (cC (.int 3)) cNil)) (tgName 2) l5_law)
    (cRet (cC (.bl true))))
section
variable {B : Bs} {P : Program} {w : World} {mg : Str → Option Value} {base : Heap}
theorem ok__law_taken (T : Tx B mg) : FnOk P w B.K mg base CX0 1 T.f__law_taken T.d__law_taken P__law_taken (spD B 2 drawF) := taken_ok (k := 0) T.F__law_taken sc__law_taken rfl rfl fun cdv A outer s H E hr =>
  pss_cons (ps_if (pt_cmpR op_gt (pe_ix ix_list (pv 0) pe_int (fun _ _ => rfl)) pe_int (nomark _))
    (pss_cons (ps_set (i := 2) sc__law_taken.nd rfl (Or.inl rfl) (pe_op op_mod (pe_callTy call_int1 (by rfl) T.n_int (by decide +kernel) (pa_cons (pe_ix ix_list (pv 0) pe_int (fun _ _ => rfl)) pa_nil)) (pv 1)))
    (pss_cons (ps_asg (pe_op op_fdiv (pe_ix ix_list (pv 0) pe_int (fun _ _ => rfl)) (pv 1)) (pg_sub (pv 0) pe_int set_list)) (pss_one (ps_ret (pv 2))))) pss_nil)
  (pss_cons (ps_asg (pe_op op_add (pe_ix ix_list (pv 0) pe_int (fun _ _ => rfl)) pe_int) (pg_sub (pv 0) pe_int set_list))
  (pss_cons (ps_if (pt_cmpR op_gt (pe_ix ix_list (pv 0) pe_int (fun _ _ => rfl)) (pe_callB call_len_seq (by rfl) T.n_len (by decide +kernel) (pa_cons (pe_ix ix_list (pv 0) pe_int (fun _ _ => rfl)) pa_nil)) (nomark _))
    (pss_cons (ps_asg (pe_op op_mod (pe_callTy call_int1 (by rfl) T.n_int (by decide +kernel) (pa_cons (pe_op op_add (pe_op op_mul (pe_ix ix_list (pv 0) pe_int (fun _ _ => rfl)) pe_int) pe_int) pa_nil)) pe_int) (pg_sub (pv 0) pe_int set_list))
    (pss_one (ps_ret (pe_op op_mod (pe_callTy call_int1 (by rfl) T.n_int (by decide +kernel) (pa_cons (pe_op op_fdiv (pe_ix ix_list (pv 0) pe_int (fun _ _ => rfl)) pe_int) pa_nil)) (pv 1))))) pss_nil)
  (pss_cons (ps_set (i := 3) sc__law_taken.nd rfl (Or.inl rfl) (pe_ix ix_list (pe_ix ix_list (pv 0) pe_int (fun _ _ => rfl)) (pe_op op_sub (pe_ix ix_list (pv 0) pe_int (fun _ _ => rfl)) pe_int) (fun _ _ => rfl)))
  (pss_cons (ps_asg (pe_op op_mod (pe_callTy call_int1 (by rfl) T.n_int (by decide +kernel) (pa_cons (pe_op op_add (pe_op op_add (pe_op op_mul (pe_ix ix_list (pv 0) pe_int (fun _ _ => rfl)) pe_int) (pv 3)) pe_int) pa_nil)) pe_int) (pg_sub (pv 0) pe_int set_list))
  (pss_cons (ps_if (pt_cmpR op_ge (pv 3) (pe_op op_pow pe_int pe_int) (nomark _)) (pss_one (ps_asg (pe_op op_fdiv (pv 3) (pv 1)) (pg_sub (pv 0) pe_int set_list))) pss_nil)
  (pss_one (ps_ret (pe_op op_mod (pe_callTy call_int1 (by rfl) T.n_int (by decide +kernel) (pa_cons (pv 3) pa_nil)) (pv 1)))))))))

theorem ok__law_buyer (T : Tx B mg) : FnOk P w B.K mg base CX0 2 T.f__law_buyer T.d__law_buyer P__law_buyer (spD B 2 f__law_buyer) := by
  have G__law_taken := ok__law_taken (P := P) (w := w) (base := base) T
  have key : FnOk P w B.K mg base CX0 2 T.f__law_buyer T.d__law_buyer P__law_buyer (spD B P__law_buyer.length (runD P__law_buyer.length N__law_buyer.length b__law_buyer)) := fn_ok (B := B) (W := [3]) (k := 1) (body := b__law_buyer) T.F__law_buyer sc__law_buyer (by rfl) fun cdv A outer s H E hr => ⟨_, (pss_cons (ps_par3 (i := 2) (j := 3) (l := 4) (by rfl) sc__law_buyer.nd rfl rfl rfl (by decide) (by decide) (by decide) rfl rfl rfl (pa_cons (pe_call G__law_taken (hr.mono (by decide)) (by rfl) T.m__law_taken T.k__law_taken T.b__law_taken .nil pass0 (pa_cons (pv 0) (pa_cons pe_int pa_nil))) (pa_cons (pe_lst pa_nil) (pa_cons (pe_ix ix_seq (pe_lst (pa_cons pe_int (pa_cons pe_int (pa_cons pe_int (pa_cons (pe_op op_pow pe_int pe_int) pa_nil))))) (pe_call G__law_taken (hr.mono (by decide)) (by rfl) T.m__law_taken T.k__law_taken T.b__law_taken .nil pass0 (pa_cons (pv 0) (pa_cons pe_int pa_nil))) (fun _ _ => rfl)) pa_nil))) (by rfl))
      (pss_cons (ps_for PassesOwn.never rfl (pi_range1 (by rfl) T.n_range (pa_cons (pe_op op_addU pe_int (pe_call G__law_taken (hr.mono (by decide)) (by rfl) T.m__law_taken T.k__law_taken T.b__law_taken .nil pass0 (pa_cons (pv 0) (pa_cons (pv 1) pa_nil)))) pa_nil)) (pg_name (i := 5) sc__law_buyer.nd rfl (by first | exact Or.inl rfl | exact Or.inr rfl)) (pss_cons (ps_expr (pe_bm PySem.F.plainAttrs_list PySem.F.slot_list_append PySem.F.type_list_append mt_append (pv 3) (pa_cons (pe_tup (pa_cons (pv 2) (pa_cons (pe_op op_addU pe_int (pe_call G__law_taken (hr.mono (by decide)) (by rfl) T.m__law_taken T.k__law_taken T.b__law_taken .nil pass0 (pa_cons (pv 0) (pa_cons (pe_ix ix_seq (pe_lst (pa_cons pe_int (pa_cons pe_int (pa_cons pe_int (pa_cons (pe_op op_pow pe_int pe_int) pa_nil))))) (pe_call G__law_taken (hr.mono (by decide)) (by rfl) T.m__law_taken T.k__law_taken T.b__law_taken .nil pass0 (pa_cons (pv 0) (pa_cons pe_int pa_nil))) (fun _ _ => rfl)) pa_nil)))) pa_nil))) pa_nil)))
      (pss_one (ps_set (i := 2) sc__law_buyer.nd rfl (by first | exact Or.inl rfl | exact Or.inr rfl) (pe_op op_addU (pe_op op_addU (pv 2) pe_int) (pe_call G__law_taken (hr.mono (by decide)) (by rfl) T.m__law_taken T.k__law_taken T.b__law_taken .nil pass0 (pa_cons (pv 0) (pa_cons (pv 4) pa_nil))))))))
      (pss_one (ps_ret (pe_callTy call_tuple_of (by rfl) T.n_tuple (by decide +kernel) (pa_cons (pv 3) pa_nil)))))),
    (rs_seq (rs_par3 (rps_cons (rp_v (rd_call (rd_cons rd_var (rd_cons rd_int rd_nil)))) (rps_cons (rp_n (rl_lst rd_nil)) (rps_cons (rp_v (rd_op os_ix (rd_lst (rd_cons rd_int (rd_cons rd_int (rd_cons rd_int (rd_cons (rd_op os_pow rd_int rd_int) rd_nil))))) (rd_call (rd_cons rd_var (rd_cons rd_int rd_nil))))) rps_nil))))
      (rs_seq (rs_for (ri_r1 (rd_cons (rd_op os_add rd_int (rd_call (rd_cons rd_var (rd_cons rd_var rd_nil)))) rd_nil)) rg_name (rs_seq (rs_app (rd_tup (rd_cons rd_var (rd_cons (rd_op os_add rd_int (rd_call (rd_cons rd_var (rd_cons (rd_op os_ix (rd_lst (rd_cons rd_int (rd_cons rd_int (rd_cons rd_int (rd_cons (rd_op os_pow rd_int rd_int) rd_nil))))) (rd_call (rd_cons rd_var (rd_cons rd_int rd_nil)))) rd_nil)))) rd_nil))))
      (rs_set (rd_op os_add (rd_op os_add rd_var rd_int) (rd_call (rd_cons rd_var (rd_cons rd_var rd_nil)))))))
      (rs_ret (rd_b cs_tuple (rd_cons rd_var rd_nil)))))⟩
  exact key
theorem ok__law_stair (T : Tx B mg) : FnOk P w B.K mg base CX0 1 T.f__law_stair T.d__law_stair P__law_stair (spD B 1 f__law_stair) := by
  have key : FnOk P w B.K mg base CX0 1 T.f__law_stair T.d__law_stair P__law_stair (spD B P__law_stair.length (runD P__law_stair.length N__law_stair.length b__law_stair)) := fn_ok (B := B) (W := [1]) (k := 0) (body := b__law_stair) T.F__law_stair sc__law_stair (by rfl) fun cdv A outer s H E hr => ⟨_, (pss_cons (ps_par (i := 1) (j := 2) (by rfl) sc__law_stair.nd rfl rfl (by decide) rfl rfl (pa_cons (pe_lst (pa_cons (pe_tup (pa_cons pe_int (pa_cons pe_int pa_nil))) pa_nil)) (pa_cons pe_int pa_nil)) (by rfl))
      (pss_cons (ps_for PassesOwn.never rfl (pi_seq (pe_revU (pv 0))) (pg_tup rfl (pgs_cons (pg_name (i := 3) sc__law_stair.nd rfl (by first | exact Or.inl rfl | exact Or.inr rfl)) (pgs_cons (pg_name (i := 4) sc__law_stair.nd rfl (by first | exact Or.inl rfl | exact Or.inr rfl)) pgs_nil))) (pss_cons (ps_set (i := 2) sc__law_stair.nd rfl (by first | exact Or.inl rfl | exact Or.inr rfl) (pe_op op_addU (pv 2) (pv 4)))
      (pss_one (ps_expr (pe_bm PySem.F.plainAttrs_list PySem.F.slot_list_append PySem.F.type_list_append mt_append (pv 1) (pa_cons (pe_tup (pa_cons (pv 2) (pa_cons (pe_op op_mulU (pv 3) (pv 2)) pa_nil))) pa_nil))))))
      (pss_one (ps_ret (pv 1))))),
    (rs_seq (rs_par (rps_cons (rp_n (rl_lst (rd_cons (rd_tup (rd_cons rd_int (rd_cons rd_int rd_nil))) rd_nil))) (rps_cons (rp_v rd_int) rps_nil)))
      (rs_seq (rs_for (ri_seq (rd_rev rd_var)) (rg_tup (rg_cons rg_name (rg_cons rg_name rg_nil))) (rs_seq (rs_set (rd_op os_add rd_var rd_var))
      (rs_app (rd_tup (rd_cons rd_var (rd_cons (rd_op os_mul rd_var rd_var) rd_nil))))))
      (rs_ret rd_var)))⟩
  exact key
theorem ok__law_less (T : Tx B mg) : FnOk P w B.K mg base CX0 1 T.f__law_less T.d__law_less P__law_less (spD B 2 f__law_less) := by
  have key : FnOk P w B.K mg base CX0 1 T.f__law_less T.d__law_less P__law_less (spD B P__law_less.length (runD P__law_less.length N__law_less.length b__law_less)) := fn_ok (B := B) (W := []) (k := 0) (body := b__law_less) T.F__law_less sc__law_less (by rfl) fun cdv A outer s H E hr => ⟨_, (pss_one (ps_ret (pe_cmpR op_lt (pe_op op_mulU (pe_ix ix_seq (pv 0) pe_int (fun _ _ => rfl)) (pe_ix ix_seq (pv 1) pe_int (fun _ _ => rfl))) (pe_op op_mulU (pe_ix ix_seq (pv 1) pe_int (fun _ _ => rfl)) (pe_ix ix_seq (pv 0) pe_int (fun _ _ => rfl))) (nomark _)))),
    (rs_ret (rd_op os_lt (rd_op os_mul (rd_op os_ix rd_var rd_int) (rd_op os_ix rd_var rd_int)) (rd_op os_mul (rd_op os_ix rd_var rd_int) (rd_op os_ix rd_var rd_int))))⟩
  exact key
theorem ok__law_levels (T : Tx B mg) : FnOk P w B.K mg base CX0 2 T.f__law_levels T.d__law_levels P__law_levels (spD B 1 f__law_levels) := by
  have G__law_stair := ok__law_stair (P := P) (w := w) (base := base) T
  have G__law_less := ok__law_less (P := P) (w := w) (base := base) T
  have key : FnOk P w B.K mg base CX0 2 T.f__law_levels T.d__law_levels P__law_levels (spD B P__law_levels.length (runD P__law_levels.length N__law_levels.length b__law_levels)) := fn_ok (B := B) (W := [2]) (k := 1) (body := b__law_levels) T.F__law_levels sc__law_levels (by rfl) fun cdv A outer s H E hr => ⟨_, (pss_cons (ps_par (i := 1) (j := 2) (by rfl) sc__law_levels.nd rfl rfl (by decide) rfl rfl (pa_cons (pe_call G__law_stair (hr.mono (by decide)) (by rfl) T.m__law_stair T.k__law_stair T.b__law_stair .nil pass0 (pa_cons (pv 0) pa_nil)) (pa_cons (pe_lst pa_nil) pa_nil)) (by rfl))
      (pss_cons (ps_for PassesOwn.never rfl (pi_range1 (by rfl) T.n_range (pa_cons (pe_callB call_len (by rfl) T.n_len (by decide +kernel) (pa_cons (pv 0) pa_nil)) pa_nil)) (pg_name (i := 3) sc__law_levels.nd rfl (by first | exact Or.inl rfl | exact Or.inr rfl)) (pss_cons (ps_set (i := 4) sc__law_levels.nd rfl (by first | exact Or.inl rfl | exact Or.inr rfl) pe_non)
      (pss_cons (ps_for PassesOwn.never rfl (pi_range1 (by rfl) T.n_range (pa_cons (pe_op op_addU (pv 3) pe_int) pa_nil)) (pg_name (i := 5) sc__law_levels.nd rfl (by first | exact Or.inl rfl | exact Or.inr rfl)) (pss_cons (ps_set (i := 6) sc__law_levels.nd rfl (by first | exact Or.inl rfl | exact Or.inr rfl) pe_non)
      (pss_cons (ps_for PassesOwn.never rfl (pi_range2 (by rfl) T.n_range (pa_cons (pe_op op_addU (pv 3) pe_int) (pa_cons (pe_callB call_len (by rfl) T.n_len (by decide +kernel) (pa_cons (pv 1) pa_nil)) pa_nil))) (pg_name (i := 7) sc__law_levels.nd rfl (by first | exact Or.inl rfl | exact Or.inr rfl)) (pss_cons (ps_set (i := 8) sc__law_levels.nd rfl (by first | exact Or.inl rfl | exact Or.inr rfl) (pe_tup (pa_cons (pe_op op_sub (pe_ix ix_seq (pe_ix ix_seq (pv 1) (pv 7) (fun _ _ => rfl)) pe_int (fun _ _ => rfl)) (pe_ix ix_seq (pe_ix ix_seq (pv 1) (pv 5) (fun _ _ => rfl)) pe_int (fun _ _ => rfl))) (pa_cons (pe_op op_sub (pe_ix ix_seq (pe_ix ix_seq (pv 1) (pv 7) (fun _ _ => rfl)) pe_int (fun _ _ => rfl)) (pe_ix ix_seq (pe_ix ix_seq (pv 1) (pv 5) (fun _ _ => rfl)) pe_int (fun _ _ => rfl))) pa_nil))))
      (pss_one (ps_if (PW.pt (pw_or (pt_cmpR op_isN (pv 6) pe_non (nomark _)) (pw_or1 (pt_val (pe_call G__law_less (hr.mono (by decide)) (by rfl) T.m__law_less T.k__law_less T.b__law_less .nil pass0 (pa_cons (pv 6) (pa_cons (pv 8) pa_nil))))))) (pss_one (ps_set (i := 6) sc__law_levels.nd rfl (by first | exact Or.inl rfl | exact Or.inr rfl) (pv 8))) pss_nil))))
      (pss_one (ps_if (PW.pt (pw_or (pt_cmpR op_isN (pv 4) pe_non (nomark _)) (pw_or1 (pt_val (pe_call G__law_less (hr.mono (by decide)) (by rfl) T.m__law_less T.k__law_less T.b__law_less .nil pass0 (pa_cons (pv 6) (pa_cons (pv 4) pa_nil))))))) (pss_one (ps_set (i := 4) sc__law_levels.nd rfl (by first | exact Or.inl rfl | exact Or.inr rfl) (pv 6))) pss_nil)))))
      (pss_one (ps_expr (pe_bm PySem.F.plainAttrs_list PySem.F.slot_list_append PySem.F.type_list_append mt_append (pv 2) (pa_cons (pv 4) pa_nil)))))))
      (pss_one (ps_ret (pe_revU (pv 2)))))),
    (rs_seq (rs_par (rps_cons (rp_v (rd_call (rd_cons rd_var rd_nil))) (rps_cons (rp_n (rl_lst rd_nil)) rps_nil)))
      (rs_seq (rs_for (ri_r1 (rd_cons (rd_b cs_len (rd_cons rd_var rd_nil)) rd_nil)) rg_name (rs_seq (rs_set rd_non)
      (rs_seq (rs_for (ri_r1 (rd_cons (rd_op os_add rd_var rd_int) rd_nil)) rg_name (rs_seq (rs_set rd_non)
      (rs_seq (rs_for (ri_r2 (rd_cons (rd_op os_add rd_var rd_int) (rd_cons (rd_b cs_len (rd_cons rd_var rd_nil)) rd_nil))) rg_name (rs_seq (rs_set (rd_tup (rd_cons (rd_op os_dif (rd_op os_ix (rd_op os_ix rd_var rd_var) rd_int) (rd_op os_ix (rd_op os_ix rd_var rd_var) rd_int)) (rd_cons (rd_op os_dif (rd_op os_ix (rd_op os_ix rd_var rd_var) rd_int) (rd_op os_ix (rd_op os_ix rd_var rd_var) rd_int)) rd_nil))))
      (rs_if (rt_or (rt_b (rd_op os_isN rd_var rd_non)) (rt_b (rd_call (rd_cons rd_var (rd_cons rd_var rd_nil))))) (rs_set rd_var) rs_next)))
      (rs_if (rt_or (rt_b (rd_op os_isN rd_var rd_non)) (rt_b (rd_call (rd_cons rd_var (rd_cons rd_var rd_nil))))) (rs_set rd_var) rs_next))))
      (rs_app rd_var))))
      (rs_ret (rd_rev rd_var))))⟩
  exact key
theorem ok_is_from (T : Tx B mg) : FnOk P w B.K mg base CX0 1 T.f_is_from T.d_is_from P_is_from (spD B 3 f_is_from) := by
  have key : FnOk P w B.K mg base CX0 1 T.f_is_from T.d_is_from P_is_from (spD B P_is_from.length (runD P_is_from.length N_is_from.length b_is_from)) := fn_ok (B := B) (W := []) (k := 0) (body := b_is_from) T.F_is_from sc_is_from (by rfl) fun cdv A outer s H E hr => ⟨_, (pss_one (ps_ret (pe_and (pe_callB call_isi (by rfl) T.n_isinstance (by decide +kernel) (pa_cons (pv 0) (pa_cons (pe_bltn (v := .ty "int") (by rfl) T.n_int (by decide +kernel) rfl) pa_nil))) (pe_and (pe_not (pe_callB call_isi (by rfl) T.n_isinstance (by decide +kernel) (pa_cons (pv 0) (pa_cons (pe_bltn (v := .ty "bool") (by rfl) T.n_bool (by decide +kernel) rfl) pa_nil)))) (pe_one (pe_chain op_le op_le (pv 1) (pv 0) (pv 2))))))),
    (rs_ret (rd_andV (rd_isi rd_var) (rd_andV (rd_notV (rd_isi rd_var)) (rd_chain os_le os_le rd_var rd_var rd_var))))⟩
  exact key
theorem ok_is_pair (T : Tx B mg) : FnOk P w B.K mg base CX0 2 T.f_is_pair T.d_is_pair P_is_pair (spD B 1 f_is_pair) := by
  have G_is_from := ok_is_from (P := P) (w := w) (base := base) T
  have key : FnOk P w B.K mg base CX0 2 T.f_is_pair T.d_is_pair P_is_pair (spD B P_is_pair.length (runD P_is_pair.length N_is_pair.length b_is_pair)) := fn_ok (B := B) (W := []) (k := 1) (body := b_is_pair) T.F_is_pair sc_is_pair (by rfl) fun cdv A outer s H E hr => ⟨_, (pss_one (ps_ret (pe_and (pe_callB call_isi (by rfl) T.n_isinstance (by decide +kernel) (pa_cons (pv 0) (pa_cons (pe_bltn (v := .ty "tuple") (by rfl) T.n_tuple (by decide +kernel) rfl) pa_nil))) (pe_and (pe_cmpR (op_eqD hr.units) (pe_callB call_len (by rfl) T.n_len (by decide +kernel) (pa_cons (pv 0) pa_nil)) pe_int (nomark _)) (pe_and (pe_call G_is_from (hr.mono (by decide)) (by rfl) T.m_is_from T.k_is_from T.b_is_from .nil pass0 (pa_cons (pe_ix ix_seq (pv 0) pe_int (fun _ _ => rfl)) (pa_cons pe_int (pa_cons (pe_glob (v := .int 1000000000) (by rfl) T.m_MOST ⟨_, rfl⟩) pa_nil)))) (pe_one (pe_call G_is_from (hr.mono (by decide)) (by rfl) T.m_is_from T.k_is_from T.b_is_from .nil pass0 (pa_cons (pe_ix ix_seq (pv 0) pe_int (fun _ _ => rfl)) (pa_cons pe_int (pa_cons (pe_glob (v := .int 1000000000) (by rfl) T.m_MOST ⟨_, rfl⟩) pa_nil)))))))))),
    (rs_ret (rd_andV (rd_isi rd_var) (rd_andV (rd_op os_eq (rd_b cs_len (rd_cons rd_var rd_nil)) rd_int) (rd_andV (rd_call (rd_cons (rd_op os_ix rd_var rd_int) (rd_cons rd_int (rd_cons rd_int rd_nil)))) (rd_call (rd_cons (rd_op os_ix rd_var rd_int) (rd_cons rd_int (rd_cons rd_int rd_nil))))))))⟩
  exact key
theorem ok_is_buyer (T : Tx B mg) : FnOk P w B.K mg base CX0 3 T.f_is_buyer T.d_is_buyer P_is_buyer (spD B 1 f_is_buyer) := by
  have G_is_pair := ok_is_pair (P := P) (w := w) (base := base) T
  have key : FnOk P w B.K mg base CX0 3 T.f_is_buyer T.d_is_buyer P_is_buyer (spD B P_is_buyer.length (runD P_is_buyer.length N_is_buyer.length b_is_buyer)) := fn_ok (B := B) (W := []) (k := 2) (body := b_is_buyer) T.F_is_buyer sc_is_buyer (by rfl) fun cdv A outer s H E hr => ⟨_, (pss_cons (ps_if (PW.pt (pw_or (pt_not (pt_val (pe_callB call_isi (by rfl) T.n_isinstance (by decide +kernel) (pa_cons (pv 0) (pa_cons (pe_bltn (v := .ty "tuple") (by rfl) T.n_tuple (by decide +kernel) rfl) pa_nil))))) (pw_or (pt_not (pt_chain op_le op_le pe_int (pe_callB call_len (by rfl) T.n_len (by decide +kernel) (pa_cons (pv 0) pa_nil)) (pe_glob (v := .int 5) (by rfl) T.m_MOST_WORTHS ⟨_, rfl⟩))) (pw_or1 (pt_not (pt_val (pe_callB (cr_all rfl) (by rfl) T.n_all (by decide +kernel) (pa_cons (pe_lc (own := [("pair", 1)]) (by rfl) sc_is_buyer.nd (pi_seq (pv 0)) (blkOk_by (own := [("pair", 1)]) (N := N_is_buyer) (sc := defScope s_is_buyer) (by decide +kernel)) (fun _ _ _ _ _ => (pg_name (i := 1) sc_is_buyer.nd rfl (by first | exact Or.inl rfl | exact Or.inr rfl))) (fun _ _ _ _ _ => pts_nil) (fun _ _ _ _ _ => (pe_call G_is_pair (hr.mono (by decide)) (by rfl) T.m_is_pair T.k_is_pair T.b_is_pair .nil pass0 (pa_cons (pv 1) pa_nil)))) pa_nil)))))))) (pss_one (ps_ret pe_bl)) pss_nil)
      (pss_one (ps_ret (pe_callB (cr_all rfl) (by rfl) T.n_all (by decide +kernel) (pa_cons (pe_lc (own := [("at", 2)]) (by rfl) sc_is_buyer.nd (pi_range1 (by rfl) T.n_range (pa_cons (pe_op op_sub (pe_callB call_len (by rfl) T.n_len (by decide +kernel) (pa_cons (pv 0) pa_nil)) pe_int) pa_nil)) (blkOk_by (own := [("at", 2)]) (N := N_is_buyer) (sc := defScope s_is_buyer) (by decide +kernel)) (fun _ _ _ _ _ => (pg_name (i := 2) sc_is_buyer.nd rfl (by first | exact Or.inl rfl | exact Or.inr rfl))) (fun _ _ _ _ _ => pts_nil) (fun _ _ _ _ _ => (pe_cmpR op_lt (pe_ix ix_seq (pe_ix ix_seq (pv 0) (pv 2) (fun _ _ => rfl)) pe_int (fun _ _ => rfl)) (pe_ix ix_seq (pe_ix ix_seq (pv 0) (pe_op op_addU (pv 2) pe_int) (fun _ _ => rfl)) pe_int (fun _ _ => rfl)) (nomark _)))) pa_nil))))),
    (rs_seq (rs_if (rt_or (rt_not (rt_b (rd_isi rd_var))) (rt_or (rt_not (rt_b (rd_chain os_le os_le rd_int (rd_b cs_len (rd_cons rd_var rd_nil)) rd_int))) (rt_not (rt_b (rd_b cs_all (rd_cons (rd_comp (ri_seq rd_var) rg_name rt_yes (rd_call (rd_cons rd_var rd_nil))) rd_nil)))))) (rs_ret rd_bl) rs_next)
      (rs_ret (rd_b cs_all (rd_cons (rd_comp (ri_r1 (rd_cons (rd_op os_dif (rd_b cs_len (rd_cons rd_var rd_nil)) rd_int) rd_nil)) rg_name rt_yes (rd_op os_lt (rd_op os_ix (rd_op os_ix rd_var rd_var) rd_int) (rd_op os_ix (rd_op os_ix rd_var (rd_op os_add rd_var rd_int)) rd_int))) rd_nil))))⟩
  exact key
theorem ok_need_buyer (T : Tx B mg) : FnOk P w B.K mg base CX0 4 T.f_need_buyer T.d_need_buyer P_need_buyer (spD B 1 f_need_buyer) := by
  have G_is_buyer := ok_is_buyer (P := P) (w := w) (base := base) T
  have key : FnOk P w B.K mg base CX0 4 T.f_need_buyer T.d_need_buyer P_need_buyer (spD B P_need_buyer.length (runD P_need_buyer.length N_need_buyer.length b_need_buyer)) := fn_ok (B := B) (W := []) (k := 3) (body := b_need_buyer) T.F_need_buyer sc_need_buyer (by rfl) fun cdv A outer s H E hr => ⟨_, (pss_one (ps_if (pt_not (pt_val (pe_call G_is_buyer (hr.mono (by decide)) (by rfl) T.m_is_buyer T.k_is_buyer T.b_is_buyer .nil pass0 (pa_cons (pv 0) pa_nil)))) (pss_one ps_never) pss_nil)),
    (rs_if (rt_not (rt_b (rd_call (rd_cons rd_var rd_nil)))) rs_stuck rs_next)⟩
  exact key
theorem ok_stair (T : Tx B mg) : FnOk P w B.K mg base CX0 1 T.f_stair T.d_stair P_stair (spD B 1 f_stair) := by
  have key : FnOk P w B.K mg base CX0 1 T.f_stair T.d_stair P_stair (spD B P_stair.length (runD P_stair.length N_stair.length b_stair)) := fn_ok (B := B) (W := [1]) (k := 0) (body := b_stair) T.F_stair sc_stair (by rfl) fun cdv A outer s H E hr => ⟨_, (pss_cons (ps_par (i := 1) (j := 2) (by rfl) sc_stair.nd rfl rfl (by decide) rfl rfl (pa_cons (pe_lst (pa_cons (pe_tup (pa_cons pe_int (pa_cons pe_int pa_nil))) pa_nil)) (pa_cons pe_int pa_nil)) (by rfl))
      (pss_cons (ps_for PassesOwn.never rfl (RT.pi_revA (by rfl) T.n_reversed (pv 0)) (pg_tup rfl (pgs_cons (pg_name (i := 3) sc_stair.nd rfl (by first | exact Or.inl rfl | exact Or.inr rfl)) (pgs_cons (pg_name (i := 4) sc_stair.nd rfl (by first | exact Or.inl rfl | exact Or.inr rfl)) pgs_nil))) (pss_cons (ps_aug (i := 2) sc_stair.nd rfl (by first | exact Or.inl rfl | exact Or.inr rfl) (pv 4) ip_add)
      (pss_one (ps_expr (pe_bm PySem.F.plainAttrs_list PySem.F.slot_list_append PySem.F.type_list_append mt_append (pv 1) (pa_cons (pe_tup (pa_cons (pv 2) (pa_cons (pe_op op_mulU (pv 3) (pv 2)) pa_nil))) pa_nil))))))
      (pss_one (ps_ret (pv 1))))),
    (rs_seq (rs_par (rps_cons (rp_n (rl_lst (rd_cons (rd_tup (rd_cons rd_int (rd_cons rd_int rd_nil))) rd_nil))) (rps_cons (rp_v rd_int) rps_nil)))
      (rs_seq (rs_for (ri_rev rd_var) (rg_tup (rg_cons rg_name (rg_cons rg_name rg_nil))) (rs_seq (rs_aug rd_var)
      (rs_app (rd_tup (rd_cons rd_var (rd_cons (rd_op os_mul rd_var rd_var) rd_nil))))))
      (rs_ret rd_var)))⟩
  exact key
theorem ok_common (T : Tx B mg) : FnOk P w B.K mg base CX0 1 T.f_common T.d_common P_common (spD B 2 f_common) := by
  have key : FnOk P w B.K mg base CX0 1 T.f_common T.d_common P_common (spD B P_common.length (runD P_common.length N_common.length b_common)) := fn_ok (B := B) (W := []) (k := 0) (body := b_common) T.F_common sc_common (by rfl) fun cdv A outer s H E hr => ⟨_, (pss_cons (ps_par (i := 2) (j := 3) (by rfl) sc_common.nd rfl rfl (by decide) rfl rfl (pa_cons (pe_callB call_abs (by rfl) T.n_abs (by decide +kernel) (pa_cons (pv 0) pa_nil)) (pa_cons (pe_callB call_abs (by rfl) T.n_abs (by decide +kernel) (pa_cons (pv 1) pa_nil)) pa_nil)) (by rfl))
      (pss_cons (ps_while PassesOwn.never (pt_cmpR op_gt (pv 3) pe_int (nomark _)) (pss_one (ps_par (i := 2) (j := 3) (by rfl) sc_common.nd rfl rfl (by decide) rfl rfl (pa_cons (pv 3) (pa_cons (pe_op op_mod (pv 2) (pv 3)) pa_nil)) (by rfl))))
      (pss_one (ps_ret (pv 2))))),
    (rs_seq (rs_par (rps_cons (rp_v (rd_b cs_abs (rd_cons rd_var rd_nil))) (rps_cons (rp_v (rd_b cs_abs (rd_cons rd_var rd_nil))) rps_nil)))
      (rs_seq (rs_while (rt_b (rd_op os_gt rd_var rd_int)) (rs_par (rps_cons (rp_v rd_var) (rps_cons (rp_v (rd_op os_mod rd_var rd_var)) rps_nil))))
      (rs_ret rd_var)))⟩
  exact key
theorem ok_made (T : Tx B mg) : FnOk P w B.K mg base CX0 2 T.f_made T.d_made P_made (spD B 2 f_made) := by
  have G_common := ok_common (P := P) (w := w) (base := base) T
  have key : FnOk P w B.K mg base CX0 2 T.f_made T.d_made P_made (spD B P_made.length (runD P_made.length N_made.length b_made)) := fn_ok (B := B) (W := []) (k := 1) (body := b_made) T.F_made sc_made (by rfl) fun cdv A outer s H E hr => ⟨_, (pss_cons (ps_set (i := 2) sc_made.nd rfl (by first | exact Or.inl rfl | exact Or.inr rfl) (pe_call G_common (hr.mono (by decide)) (by rfl) T.m_common T.k_common T.b_common .nil pass0 (pa_cons (pv 0) (pa_cons (pv 1) pa_nil))))
      (pss_one (ps_ret (pe_tup (pa_cons (pe_op op_fdivW (pv 0) (pv 2)) (pa_cons (pe_op op_fdivW (pv 1) (pv 2)) pa_nil)))))),
    (rs_seq (rs_set (rd_call (rd_cons rd_var (rd_cons rd_var rd_nil))))
      (rs_ret (rd_tup (rd_cons (rd_op os_fdiv rd_var rd_var) (rd_cons (rd_op os_fdiv rd_var rd_var) rd_nil)))))⟩
  exact key
theorem ok_slope (T : Tx B mg) : FnOk P w B.K mg base CX0 3 T.f_slope T.d_slope P_slope (spD B 2 f_slope) := by
  have G_made := ok_made (P := P) (w := w) (base := base) T
  have key : FnOk P w B.K mg base CX0 3 T.f_slope T.d_slope P_slope (spD B P_slope.length (runD P_slope.length N_slope.length b_slope)) := fn_ok (B := B) (W := []) (k := 2) (body := b_slope) T.F_slope sc_slope (by rfl) fun cdv A outer s H E hr => ⟨_, (pss_one (ps_ret (pe_call G_made (hr.mono (by decide)) (by rfl) T.m_made T.k_made T.b_made .nil pass0 (pa_cons (pe_op op_sub (pe_ix ix_seq (pv 1) pe_int (fun _ _ => rfl)) (pe_ix ix_seq (pv 0) pe_int (fun _ _ => rfl))) (pa_cons (pe_op op_sub (pe_ix ix_seq (pv 1) pe_int (fun _ _ => rfl)) (pe_ix ix_seq (pv 0) pe_int (fun _ _ => rfl))) pa_nil))))),
    (rs_ret (rd_call (rd_cons (rd_op os_dif (rd_op os_ix rd_var rd_int) (rd_op os_ix rd_var rd_int)) (rd_cons (rd_op os_dif (rd_op os_ix rd_var rd_int) (rd_op os_ix rd_var rd_int)) rd_nil))))⟩
  exact key
theorem ok_marks_of (T : Tx B mg) : FnOk P w B.K mg base CX0 4 T.f_marks_of T.d_marks_of P_marks_of (spD B 1 f_marks_of) := by
  have G_stair := ok_stair (P := P) (w := w) (base := base) T
  have G_slope := ok_slope (P := P) (w := w) (base := base) T
  have key : FnOk P w B.K mg base CX0 4 T.f_marks_of T.d_marks_of P_marks_of (spD B P_marks_of.length (runD P_marks_of.length N_marks_of.length b_marks_of)) := fn_ok (B := B) (W := []) (k := 3) (body := b_marks_of) T.F_marks_of sc_marks_of (by rfl) fun cdv A outer s H E hr => ⟨_, (pss_cons (ps_set (i := 1) sc_marks_of.nd rfl (by first | exact Or.inl rfl | exact Or.inr rfl) (pe_call G_stair (hr.mono (by decide)) (by rfl) T.m_stair T.k_stair T.b_stair .nil pass0 (pa_cons (pv 0) pa_nil)))
      (pss_one (ps_ret (pe_revU (pe_lc (own := [("at", 2)]) (by rfl) sc_marks_of.nd (pi_range1 (by rfl) T.n_range (pa_cons (pe_callB call_len (by rfl) T.n_len (by decide +kernel) (pa_cons (pv 0) pa_nil)) pa_nil)) (blkOk_by (own := [("at", 2)]) (N := N_marks_of) (sc := defScope s_marks_of) (by decide +kernel)) (fun _ _ _ _ _ => (pg_name (i := 2) sc_marks_of.nd rfl (by first | exact Or.inl rfl | exact Or.inr rfl))) (fun _ _ _ _ _ => pts_nil) (fun _ _ _ _ _ => (pe_call G_slope (hr.mono (by decide)) (by rfl) T.m_slope T.k_slope T.b_slope .nil pass0 (pa_cons (pe_ix ix_seq (pv 1) (pv 2) (fun _ _ => rfl)) (pa_cons (pe_ix ix_seq (pv 1) (pe_op op_addU (pv 2) pe_int) (fun _ _ => rfl)) pa_nil))))))))),
    (rs_seq (rs_set (rd_call (rd_cons rd_var rd_nil)))
      (rs_ret (rd_rev (rd_comp (ri_r1 (rd_cons (rd_b cs_len (rd_cons rd_var rd_nil)) rd_nil)) rg_name rt_yes (rd_call (rd_cons (rd_op os_ix rd_var rd_var) (rd_cons (rd_op os_ix rd_var (rd_op os_add rd_var rd_int)) rd_nil)))))))⟩
  exact key
theorem ok_marks (T : Tx B mg) : FnOk P w B.K mg base CX0 5 T.f_marks T.d_marks P_marks (spD B 1 f_marks) := by
  have G_need_buyer := ok_need_buyer (P := P) (w := w) (base := base) T
  have G_marks_of := ok_marks_of (P := P) (w := w) (base := base) T
  have key : FnOk P w B.K mg base CX0 5 T.f_marks T.d_marks P_marks (spD B P_marks.length (runD P_marks.length N_marks.length b_marks)) := fn_ok (B := B) (W := []) (k := 4) (body := b_marks) T.F_marks sc_marks (by rfl) fun cdv A outer s H E hr => ⟨_, (pss_cons (ps_expr (pe_call G_need_buyer (hr.mono (by decide)) (by rfl) T.m_need_buyer T.k_need_buyer T.b_need_buyer .nil pass0 (pa_cons (pv 0) pa_nil)))
      (pss_one (ps_ret (pe_call G_marks_of (hr.mono (by decide)) (by rfl) T.m_marks_of T.k_marks_of T.b_marks_of .nil pass0 (pa_cons (pv 0) pa_nil))))),
    (rs_seq (rs_do (rd_call (rd_cons rd_var rd_nil)))
      (rs_ret (rd_call (rd_cons rd_var rd_nil))))⟩
  exact key
theorem ok_is_less (T : Tx B mg) : FnOk P w B.K mg base CX0 1 T.f_is_less T.d_is_less P_is_less (spD B 2 f_is_less) := by
  have key : FnOk P w B.K mg base CX0 1 T.f_is_less T.d_is_less P_is_less (spD B P_is_less.length (runD P_is_less.length N_is_less.length b_is_less)) := fn_ok (B := B) (W := []) (k := 0) (body := b_is_less) T.F_is_less sc_is_less (by rfl) fun cdv A outer s H E hr => ⟨_, (pss_one (ps_ret (pe_cmpR op_lt (pe_op op_mulU (pe_ix ix_seq (pv 0) pe_int (fun _ _ => rfl)) (pe_ix ix_seq (pv 1) pe_int (fun _ _ => rfl))) (pe_op op_mulU (pe_ix ix_seq (pv 1) pe_int (fun _ _ => rfl)) (pe_ix ix_seq (pv 0) pe_int (fun _ _ => rfl))) (nomark _)))),
    (rs_ret (rd_op os_lt (rd_op os_mul (rd_op os_ix rd_var rd_int) (rd_op os_ix rd_var rd_int)) (rd_op os_mul (rd_op os_ix rd_var rd_int) (rd_op os_ix rd_var rd_int))))⟩
  exact key
theorem ok_is_bend (T : Tx B mg) : FnOk P w B.K mg base CX0 4 T.f_is_bend T.d_is_bend P_is_bend (spD B 3 f_is_bend) := by
  have G_is_less := ok_is_less (P := P) (w := w) (base := base) T
  have G_slope := ok_slope (P := P) (w := w) (base := base) T
  have key : FnOk P w B.K mg base CX0 4 T.f_is_bend T.d_is_bend P_is_bend (spD B P_is_bend.length (runD P_is_bend.length N_is_bend.length b_is_bend)) := fn_ok (B := B) (W := []) (k := 3) (body := b_is_bend) T.F_is_bend sc_is_bend (by rfl) fun cdv A outer s H E hr => ⟨_, (pss_one (ps_ret (pe_call G_is_less (hr.mono (by decide)) (by rfl) T.m_is_less T.k_is_less T.b_is_less .nil pass0 (pa_cons (pe_call G_slope (hr.mono (by decide)) (by rfl) T.m_slope T.k_slope T.b_slope .nil pass0 (pa_cons (pv 1) (pa_cons (pv 2) pa_nil))) (pa_cons (pe_call G_slope (hr.mono (by decide)) (by rfl) T.m_slope T.k_slope T.b_slope .nil pass0 (pa_cons (pv 0) (pa_cons (pv 1) pa_nil))) pa_nil))))),
    (rs_ret (rd_call (rd_cons (rd_call (rd_cons rd_var (rd_cons rd_var rd_nil))) (rd_cons (rd_call (rd_cons rd_var (rd_cons rd_var rd_nil))) rd_nil))))⟩
  exact key
theorem ok_hull (T : Tx B mg) : FnOk P w B.K mg base CX0 5 T.f_hull T.d_hull P_hull (spD B 1 f_hull) := by
  have G_is_bend := ok_is_bend (P := P) (w := w) (base := base) T
  have key : FnOk P w B.K mg base CX0 5 T.f_hull T.d_hull P_hull (spD B P_hull.length (runD P_hull.length N_hull.length b_hull)) := fn_ok (B := B) (W := [1]) (k := 4) (body := b_hull) T.F_hull sc_hull (by rfl) fun cdv A outer s H E hr => ⟨_, (pss_cons (ps_set (i := 1) sc_hull.nd rfl (by first | exact Or.inl rfl | exact Or.inr rfl) (pe_lst pa_nil))
      (pss_cons (ps_for PassesOwn.never rfl (pi_enumU (by rfl) T.n_enumerate (pv 0)) (pg_tup rfl (pgs_cons (pg_name (i := 2) sc_hull.nd rfl (by first | exact Or.inl rfl | exact Or.inr rfl)) (pgs_cons (pg_name (i := 3) sc_hull.nd rfl (by first | exact Or.inl rfl | exact Or.inr rfl)) pgs_nil))) (pss_cons (ps_while PassesOwn.never (PW.pt (pw_and (pt_cmpR op_gt (pe_callB call_len (by rfl) T.n_len (by decide +kernel) (pa_cons (pv 1) pa_nil)) pe_int (nomark _)) (pw_and1 (pt_not (pt_val (pe_call G_is_bend (hr.mono (by decide)) (by rfl) T.m_is_bend T.k_is_bend T.b_is_bend .nil pass0 (pa_cons (pe_ix ix_seq (pv 0) (pe_ix ix_seq (pv 1) (pe_un un_neg pe_int) (fun _ _ => rfl)) (fun _ _ => rfl)) (pa_cons (pe_ix ix_seq (pv 0) (pe_ix ix_seq (pv 1) (pe_un un_neg pe_int) (fun _ _ => rfl)) (fun _ _ => rfl)) (pa_cons (pv 3) pa_nil))))))))) (pss_one (ps_expr (pe_bm0 PySem.F.plainAttrs_list PySem.F.slot_list_pop PySem.F.type_list_pop mt_pop (pv 1)))))
      (pss_one (ps_expr (pe_bm PySem.F.plainAttrs_list PySem.F.slot_list_append PySem.F.type_list_append mt_append (pv 1) (pa_cons (pv 2) pa_nil))))))
      (pss_one (ps_ret (pv 1))))),
    (rs_seq (rs_own (rl_lst rd_nil))
      (rs_seq (rs_for (ri_enum rd_var) (rg_tup (rg_cons rg_name (rg_cons rg_name rg_nil))) (rs_seq (rs_while (rt_and (rt_peek (i := 1) (W' := []) (by rfl) (rt_b (rd_op os_gt (rd_b cs_len (rd_cons rd_var rd_nil)) rd_int))) (rt_not (rt_b (rd_call (rd_cons (rd_op os_ix rd_var (rd_peek (i := 1) (W' := []) (by rfl) (rd_op os_ix rd_var (rd_un us_neg rd_int)))) (rd_cons (rd_op os_ix rd_var (rd_peek (i := 1) (W' := []) (by rfl) (rd_op os_ix rd_var (rd_un us_neg rd_int)))) (rd_cons rd_var rd_nil))))))) rs_pop)
      (rs_app rd_var)))
      (rs_ret rd_var)))⟩
  exact key
theorem ok_levels_of (T : Tx B mg) : FnOk P w B.K mg base CX0 6 T.f_levels_of T.d_levels_of P_levels_of (spD B 1 f_levels_of) := by
  have G_stair := ok_stair (P := P) (w := w) (base := base) T
  have G_hull := ok_hull (P := P) (w := w) (base := base) T
  have G_slope := ok_slope (P := P) (w := w) (base := base) T
  have key : FnOk P w B.K mg base CX0 6 T.f_levels_of T.d_levels_of P_levels_of (spD B P_levels_of.length (runD P_levels_of.length N_levels_of.length b_levels_of)) := fn_ok (B := B) (W := [3]) (k := 5) (body := b_levels_of) T.F_levels_of sc_levels_of (by rfl) fun cdv A outer s H E hr => ⟨_, (pss_cons (ps_set (i := 1) sc_levels_of.nd rfl (by first | exact Or.inl rfl | exact Or.inr rfl) (pe_call G_stair (hr.mono (by decide)) (by rfl) T.m_stair T.k_stair T.b_stair .nil pass0 (pa_cons (pv 0) pa_nil)))
      (pss_cons (ps_par (i := 2) (j := 3) (by rfl) sc_levels_of.nd rfl rfl (by decide) rfl rfl (pa_cons (pe_call G_hull (hr.mono (by decide)) (by rfl) T.m_hull T.k_hull T.b_hull .nil pass0 (pa_cons (pv 1) pa_nil)) (pa_cons (pe_lst pa_nil) pa_nil)) (by rfl))
      (pss_cons (ps_for PassesOwn.never rfl (pi_range1 (by rfl) T.n_range (pa_cons (pe_op op_sub (pe_callB call_len (by rfl) T.n_len (by decide +kernel) (pa_cons (pv 2) pa_nil)) pe_int) pa_nil)) (pg_name (i := 4) sc_levels_of.nd rfl (by first | exact Or.inl rfl | exact Or.inr rfl)) (pss_cons (ps_par (i := 5) (j := 6) (by rfl) sc_levels_of.nd rfl rfl (by decide) rfl rfl (pa_cons (pe_ix ix_seq (pv 2) (pv 4) (fun _ _ => rfl)) (pa_cons (pe_ix ix_seq (pv 2) (pe_op op_addU (pv 4) pe_int) (fun _ _ => rfl)) pa_nil)) (by rfl))
      (pss_one (ps_expr (pe_bm PySem.F.plainAttrs_list PySem.F.slot_list_extend PySem.F.type_list_extend mt_extend (pv 3) (pa_cons (pe_op op_mulU (pe_lst (pa_cons (pe_call G_slope (hr.mono (by decide)) (by rfl) T.m_slope T.k_slope T.b_slope .nil pass0 (pa_cons (pe_ix ix_seq (pv 1) (pv 5) (fun _ _ => rfl)) (pa_cons (pe_ix ix_seq (pv 1) (pv 6) (fun _ _ => rfl)) pa_nil))) pa_nil)) (pe_op op_sub (pv 6) (pv 5))) pa_nil))))))
      (pss_one (ps_ret (pe_revU (pv 3))))))),
    (rs_seq (rs_set (rd_call (rd_cons rd_var rd_nil)))
      (rs_seq (rs_par (rps_cons (rp_v (rd_call (rd_cons rd_var rd_nil))) (rps_cons (rp_n (rl_lst rd_nil)) rps_nil)))
      (rs_seq (rs_for (ri_r1 (rd_cons (rd_op os_dif (rd_b cs_len (rd_cons rd_var rd_nil)) rd_int) rd_nil)) rg_name (rs_seq (rs_par (rps_cons (rp_v (rd_op os_ix rd_var rd_var)) (rps_cons (rp_v (rd_op os_ix rd_var (rd_op os_add rd_var rd_int))) rps_nil)))
      (rs_ext (rd_op os_mul (rd_lst (rd_cons (rd_call (rd_cons (rd_op os_ix rd_var rd_var) (rd_cons (rd_op os_ix rd_var rd_var) rd_nil))) rd_nil)) (rd_op os_dif rd_var rd_var)))))
      (rs_ret (rd_rev rd_var)))))⟩
  exact key
theorem ok_levels (T : Tx B mg) : FnOk P w B.K mg base CX0 7 T.f_levels T.d_levels P_levels (spD B 1 f_levels) := by
  have G_need_buyer := ok_need_buyer (P := P) (w := w) (base := base) T
  have G_levels_of := ok_levels_of (P := P) (w := w) (base := base) T
  have key : FnOk P w B.K mg base CX0 7 T.f_levels T.d_levels P_levels (spD B P_levels.length (runD P_levels.length N_levels.length b_levels)) := fn_ok (B := B) (W := []) (k := 6) (body := b_levels) T.F_levels sc_levels (by rfl) fun cdv A outer s H E hr => ⟨_, (pss_cons (ps_expr (pe_call G_need_buyer (hr.mono (by decide)) (by rfl) T.m_need_buyer T.k_need_buyer T.b_need_buyer .nil pass0 (pa_cons (pv 0) pa_nil)))
      (pss_one (ps_ret (pe_call G_levels_of (hr.mono (by decide)) (by rfl) T.m_levels_of T.k_levels_of T.b_levels_of .nil pass0 (pa_cons (pv 0) pa_nil))))),
    (rs_seq (rs_do (rd_call (rd_cons rd_var rd_nil)))
      (rs_ret (rd_call (rd_cons rd_var rd_nil))))⟩
  exact key
theorem ok_stretches (T : Tx B mg) : FnOk P w B.K mg base CX0 7 T.f_stretches T.d_stretches P_stretches (spD B 1 f_stretches) := by
  have G_need_buyer := ok_need_buyer (P := P) (w := w) (base := base) T
  have G_levels_of := ok_levels_of (P := P) (w := w) (base := base) T
  have key : FnOk P w B.K mg base CX0 7 T.f_stretches T.d_stretches P_stretches (spD B P_stretches.length (runD P_stretches.length N_stretches.length b_stretches)) := fn_ok (B := B) (W := [2]) (k := 6) (body := b_stretches) T.F_stretches sc_stretches (by rfl) fun cdv A outer s H E hr => ⟨_, (pss_cons (ps_expr (pe_call G_need_buyer (hr.mono (by decide)) (by rfl) T.m_need_buyer T.k_need_buyer T.b_need_buyer .nil pass0 (pa_cons (pv 0) pa_nil)))
      (pss_cons (ps_par (i := 1) (j := 2) (by rfl) sc_stretches.nd rfl rfl (by decide) rfl rfl (pa_cons (pe_call G_levels_of (hr.mono (by decide)) (by rfl) T.m_levels_of T.k_levels_of T.b_levels_of .nil pass0 (pa_cons (pv 0) pa_nil)) (pa_cons (pe_lst pa_nil) pa_nil)) (by rfl))
      (pss_cons (ps_for PassesOwn.never rfl (pi_enumU (by rfl) T.n_enumerate (pv 1)) (pg_tup rfl (pgs_cons (pg_name (i := 3) sc_stretches.nd rfl (by first | exact Or.inl rfl | exact Or.inr rfl)) (pgs_cons (pg_name (i := 4) sc_stretches.nd rfl (by first | exact Or.inl rfl | exact Or.inr rfl)) pgs_nil))) (pss_one (ps_if (PW.pt (pw_and (pt_cmpR op_gt (pv 3) pe_int (nomark _)) (pw_and1 (pt_cmpR (op_eqD hr.units) (pe_ix ix_seq (pv 1) (pe_op op_sub (pv 3) pe_int) (fun _ _ => rfl)) (pv 4) (nomark _))))) (pss_one (ps_asg (pe_tup (pa_cons (pe_ix ix_seq (pe_ix ix_seq (pv 2) (pe_un un_neg pe_int) (fun _ _ => rfl)) pe_int (fun _ _ => rfl)) (pa_cons (pv 3) pa_nil))) (pg_sub (pv 2) (pe_un un_neg pe_int) set_list))) (pss_one (ps_expr (pe_bm PySem.F.plainAttrs_list PySem.F.slot_list_append PySem.F.type_list_append mt_append (pv 2) (pa_cons (pe_tup (pa_cons (pv 3) (pa_cons (pv 3) pa_nil))) pa_nil)))))))
      (pss_one (ps_ret (pv 2)))))),
    (rs_seq (rs_do (rd_call (rd_cons rd_var rd_nil)))
      (rs_seq (rs_par (rps_cons (rp_v (rd_call (rd_cons rd_var rd_nil))) (rps_cons (rp_n (rl_lst rd_nil)) rps_nil)))
      (rs_seq (rs_for (ri_enum rd_var) (rg_tup (rg_cons rg_name (rg_cons rg_name rg_nil))) (rs_if (rt_and (rt_b (rd_op os_gt rd_var rd_int)) (rt_b (rd_op os_eq (rd_op os_ix rd_var (rd_op os_dif rd_var rd_int)) rd_var))) (rs_put (rd_tup (rd_cons (rd_peek (i := 2) (W' := []) (by rfl) (rd_op os_ix (rd_op os_ix rd_var (rd_un us_neg rd_int)) rd_int)) (rd_cons rd_var rd_nil))) (rd_un us_neg rd_int)) (rs_app (rd_tup (rd_cons rd_var (rd_cons rd_var rd_nil))))))
      (rs_ret rd_var))))⟩
  exact key
theorem ok__law_gcd (T : Tx B mg) : FnOk P w B.K mg base CX0 141 T.f__law_gcd T.d__law_gcd P__law_gcd (spD B 2 (gcdF 140)) := gcd_ok T.F__law_gcd sc__law_gcd rfl rfl (fun n t cdv A outer s H E hr h => by
  refine pss_one (ps_ret (pe_ifExp (pt_cmpR (op_eqD hr.units) (pv 1) pe_int (nomark _)) (pe_callB call_abs (by rfl) T.n_abs (by decide +kernel) (pa_cons (pv 0) pa_nil)) ?_))
  rcases h with ⟨_, rfl⟩ | ⟨k, rfl, G, rfl⟩
  · exact ⟨fun _ _ _ _ _ _ h => h.elim⟩
  · exact pe_call G hr (by rfl) T.m__law_gcd T.k__law_gcd T.b__law_gcd .nil pass0 (pa_cons (pv 1) (pa_cons (pe_op op_mod (pv 0) (pv 1)) pa_nil))) 140

theorem ok__law_is (T : Tx B mg) : FnOk P w B.K mg base CX0 142 T.f__law_is T.d__law_is P__law_is (spD B 3 f__law_is) := by
  have G__law_gcd := ok__law_gcd (P := P) (w := w) (base := base) T
  have key : FnOk P w B.K mg base CX0 142 T.f__law_is T.d__law_is P__law_is (spD B P__law_is.length (runD P__law_is.length N__law_is.length b__law_is)) := fn_ok (B := B) (W := []) (k := 141) (body := b__law_is) T.F__law_is sc__law_is (by rfl) fun cdv A outer s H E hr => ⟨_, (pss_cons (ps_if (PW.pt (pw_or (pt_not (pt_val (pe_callB call_isi (by rfl) T.n_isinstance (by decide +kernel) (pa_cons (pv 0) (pa_cons (pe_bltn (v := .ty "tuple") (by rfl) T.n_tuple (by decide +kernel) rfl) pa_nil))))) (pw_or (pt_cmpR (op_neD hr.units) (pe_callB call_len (by rfl) T.n_len (by decide +kernel) (pa_cons (pv 0) pa_nil)) pe_int (nomark _)) (pw_or (pt_val (pe_callB call_isi (by rfl) T.n_isinstance (by decide +kernel) (pa_cons (pe_ix ix_seq (pv 0) pe_int (fun _ _ => rfl)) (pa_cons (pe_bltn (v := .ty "bool") (by rfl) T.n_bool (by decide +kernel) rfl) pa_nil)))) (pw_or1 (pt_cmpR op_lt (pe_ix ix_seq (pv 0) pe_int (fun _ _ => rfl)) pe_int (nomark _))))))) (pss_one (ps_ret pe_bl)) pss_nil)
      (pss_one (ps_ret (pe_and (pe_cmpR (op_eqD hr.units) (pe_op op_mulU (pe_ix ix_seq (pv 0) pe_int (fun _ _ => rfl)) (pv 2)) (pe_op op_mulU (pv 1) (pe_ix ix_seq (pv 0) pe_int (fun _ _ => rfl))) (nomark _)) (pe_one (pe_cmpR (op_eqD hr.units) (pe_call G__law_gcd (hr.mono (by decide)) (by rfl) T.m__law_gcd T.k__law_gcd T.b__law_gcd .nil pass0 (pa_cons (pe_ix ix_seq (pv 0) pe_int (fun _ _ => rfl)) (pa_cons (pe_ix ix_seq (pv 0) pe_int (fun _ _ => rfl)) pa_nil))) pe_int (nomark _))))))),
    (rs_seq (rs_if (rt_or (rt_not (rt_b (rd_isi rd_var))) (rt_or (rt_b (rd_op os_ne (rd_b cs_len (rd_cons rd_var rd_nil)) rd_int)) (rt_or (rt_b (rd_isi (rd_op os_ix rd_var rd_int))) (rt_b (rd_op os_lt (rd_op os_ix rd_var rd_int) rd_int))))) (rs_ret rd_bl) rs_next)
      (rs_ret (rd_andV (rd_op os_eq (rd_op os_mul (rd_op os_ix rd_var rd_int) rd_var) (rd_op os_mul rd_var (rd_op os_ix rd_var rd_int))) (rd_op os_eq (rd_call (rd_cons (rd_op os_ix rd_var rd_int) (rd_cons (rd_op os_ix rd_var rd_int) rd_nil))) rd_int))))⟩
  exact key
theorem ok_law (T : Tx B mg) (hl : ∀ ns : List Int, ns.length ≤ 63 → ∃ s', b_law (lawEn N_law.length) ⟨ns, 0, 602, 0⟩ = .ok (.ret (.bl true)) s') : FnOk P w B.K mg base CX0 143 T.f_law T.d_law P_law (spLaw B.K) := by
  have G__law_buyer := ok__law_buyer (P := P) (w := w) (base := base) T
  have G__law_stair := ok__law_stair (P := P) (w := w) (base := base) T
  have G__law_levels := ok__law_levels (P := P) (w := w) (base := base) T
  have G_marks := ok_marks (P := P) (w := w) (base := base) T
  have G_levels := ok_levels (P := P) (w := w) (base := base) T
  have G_stretches := ok_stretches (P := P) (w := w) (base := base) T
  have G__law_is := ok__law_is (P := P) (w := w) (base := base) T
  have G__law_less := ok__law_less (P := P) (w := w) (base := base) T
  exact law_ok (B := B) (W := [21]) (k := 142) (seed := 602) (body := b_law) T.F_law sc_law (by decide) rfl (by decide) (fun cdv A outer s H E hr => ⟨_, pss_cons (ps_set (i := 1) sc_law.nd rfl (by first | exact Or.inl rfl | exact Or.inr rfl) (pe_lst (pa_cons (pv 0) (pa_cons pe_int (pa_cons pe_int (pa_cons pe_int pa_nil))))))
      (pss_cons (ps_for PassesOwn.never rfl (pi_range1 (by rfl) T.n_range (pa_cons pe_int pa_nil)) (pg_name (i := 2) sc_law.nd rfl (by first | exact Or.inl rfl | exact Or.inr rfl)) (pss_cons (ps_set (i := 3) sc_law.nd rfl (by first | exact Or.inl rfl | exact Or.inr rfl) (pe_call G__law_buyer (hr.mono (by decide)) (by rfl) T.m__law_buyer T.k__law_buyer T.b__law_buyer .nil pass0 (pa_cons (pv 1) (pa_cons pe_int pa_nil))))
      (pss_cons (ps_set (i := 4) sc_law.nd rfl (by first | exact Or.inl rfl | exact Or.inr rfl) (pe_call G__law_stair (hr.mono (by decide)) (by rfl) T.m__law_stair T.k__law_stair T.b__law_stair .nil pass0 (pa_cons (pv 3) pa_nil)))
      (pss_cons (ps_set (i := 5) sc_law.nd rfl (by first | exact Or.inl rfl | exact Or.inr rfl) (pe_callB (cr_sum rfl) (by rfl) T.n_sum (by decide +kernel) (pa_cons (pe_lc (own := [("_law_worth", 6), ("_law_weight", 7)]) (by rfl) sc_law.nd (pi_seq (pv 3)) (blkOk_by (own := [("_law_worth", 6), ("_law_weight", 7)]) (N := N_law) (sc := defScope s_law) (by decide +kernel)) (fun _ _ _ _ _ => (pg_tup rfl (pgs_cons (pg_name (i := 6) sc_law.nd rfl (by first | exact Or.inl rfl | exact Or.inr rfl)) (pgs_cons (pg_name (i := 7) sc_law.nd rfl (by first | exact Or.inl rfl | exact Or.inr rfl)) pgs_nil)))) (fun _ _ _ _ _ => pts_nil) (fun _ _ _ _ _ => (pv 7))) pa_nil)))
      (pss_cons (ps_par (i := 8) (j := 9) (by rfl) sc_law.nd rfl rfl (by decide) rfl rfl (pa_cons (pe_call G_marks (hr.mono (by decide)) (by rfl) T.m_marks T.k_marks T.b_marks .nil pass0 (pa_cons (pv 3) pa_nil)) (pa_cons (pe_call G_levels (hr.mono (by decide)) (by rfl) T.m_levels T.k_levels T.b_levels .nil pass0 (pa_cons (pv 3) pa_nil)) pa_nil)) (by rfl))
      (pss_cons (ps_set (i := 10) sc_law.nd rfl (by first | exact Or.inl rfl | exact Or.inr rfl) (pe_call G__law_levels (hr.mono (by decide)) (by rfl) T.m__law_levels T.k__law_levels T.b__law_levels .nil pass0 (pa_cons (pv 3) pa_nil)))
      (pss_cons (ps_if (PW.pt (pw_or (pt_cmpR (op_neD hr.units) (pe_callB call_len (by rfl) T.n_len (by decide +kernel) (pa_cons (pv 8) pa_nil)) (pe_callB call_len (by rfl) T.n_len (by decide +kernel) (pa_cons (pv 3) pa_nil)) (nomark _)) (pw_or1 (pt_cmpR (op_neD hr.units) (pe_callB call_len (by rfl) T.n_len (by decide +kernel) (pa_cons (pv 9) pa_nil)) (pe_callB call_len (by rfl) T.n_len (by decide +kernel) (pa_cons (pv 3) pa_nil)) (nomark _))))) (pss_one (ps_ret pe_bl)) pss_nil)
      (pss_cons (ps_for PassesOwn.never rfl (pi_range1 (by rfl) T.n_range (pa_cons (pe_callB call_len (by rfl) T.n_len (by decide +kernel) (pa_cons (pv 3) pa_nil)) pa_nil)) (pg_name (i := 11) sc_law.nd rfl (by first | exact Or.inl rfl | exact Or.inr rfl)) (pss_cons (ps_set (i := 12) sc_law.nd rfl (by first | exact Or.inl rfl | exact Or.inr rfl) (pe_ix ix_seq (pv 4) (pe_op op_sub (pe_op op_sub (pe_callB call_len (by rfl) T.n_len (by decide +kernel) (pa_cons (pv 3) pa_nil)) (pv 11)) pe_int) (fun _ _ => rfl)))
      (pss_cons (ps_set (i := 13) sc_law.nd rfl (by first | exact Or.inl rfl | exact Or.inr rfl) (pe_ix ix_seq (pv 4) (pe_op op_sub (pe_callB call_len (by rfl) T.n_len (by decide +kernel) (pa_cons (pv 3) pa_nil)) (pv 11)) (fun _ _ => rfl)))
      (pss_cons (ps_par (i := 14) (j := 15) (by rfl) sc_law.nd rfl rfl (by decide) rfl rfl (pa_cons (pe_op op_sub (pe_ix ix_seq (pv 13) pe_int (fun _ _ => rfl)) (pe_ix ix_seq (pv 12) pe_int (fun _ _ => rfl))) (pa_cons (pe_op op_sub (pe_ix ix_seq (pv 13) pe_int (fun _ _ => rfl)) (pe_ix ix_seq (pv 12) pe_int (fun _ _ => rfl))) pa_nil)) (by rfl))
      (pss_cons (ps_if (pt_not (pt_val (pe_call G__law_is (hr.mono (by decide)) (by rfl) T.m__law_is T.k__law_is T.b__law_is .nil pass0 (pa_cons (pe_ix ix_seq (pv 8) (pv 11) (fun _ _ => rfl)) (pa_cons (pv 14) (pa_cons (pv 15) pa_nil)))))) (pss_one (ps_ret pe_bl)) pss_nil)
      (pss_cons (ps_if (pt_not (pt_val (pe_call G__law_is (hr.mono (by decide)) (by rfl) T.m__law_is T.k__law_is T.b__law_is .nil pass0 (pa_cons (pe_ix ix_seq (pv 9) (pv 11) (fun _ _ => rfl)) (pa_cons (pe_ix ix_seq (pe_ix ix_seq (pv 10) (pv 11) (fun _ _ => rfl)) pe_int (fun _ _ => rfl)) (pa_cons (pe_ix ix_seq (pe_ix ix_seq (pv 10) (pv 11) (fun _ _ => rfl)) pe_int (fun _ _ => rfl)) pa_nil)))))) (pss_one (ps_ret pe_bl)) pss_nil)
      (pss_one (ps_if (PW.pt (pw_and (pt_cmpR op_gt (pv 11) pe_int (nomark _)) (pw_and1 (pt_val (pe_call G__law_less (hr.mono (by decide)) (by rfl) T.m__law_less T.k__law_less T.b__law_less .nil pass0 (pa_cons (pe_ix ix_seq (pv 9) (pv 11) (fun _ _ => rfl)) (pa_cons (pe_ix ix_seq (pv 9) (pe_op op_sub (pv 11) pe_int) (fun _ _ => rfl)) pa_nil))))))) (pss_one (ps_ret pe_bl)) pss_nil))))))))
      (pss_cons (ps_for PassesOwn.never rfl (pi_seq (pe_lst (pa_cons (pv 8) (pa_cons (pv 9) pa_nil)))) (pg_name (i := 16) sc_law.nd rfl (by first | exact Or.inl rfl | exact Or.inr rfl)) (pss_cons (ps_asg (pe_tup (pa_cons pe_int (pa_cons pe_int pa_nil))) (pg_tup rfl (pgs_cons (pg_name (i := 17) sc_law.nd rfl (by first | exact Or.inl rfl | exact Or.inr rfl)) (pgs_cons (pg_name (i := 18) sc_law.nd rfl (by first | exact Or.inl rfl | exact Or.inr rfl)) pgs_nil))))
      (pss_cons (ps_for PassesOwn.never rfl (pi_range1 (by rfl) T.n_range (pa_cons (pe_callB call_len (by rfl) T.n_len (by decide +kernel) (pa_cons (pv 3) pa_nil)) pa_nil)) (pg_name (i := 11) sc_law.nd rfl (by first | exact Or.inl rfl | exact Or.inr rfl)) (pss_cons (ps_asg (pe_ix ix_seq (pv 16) (pv 11) (fun _ _ => rfl)) (pg_tup rfl (pgs_cons (pg_name (i := 19) sc_law.nd rfl (by first | exact Or.inl rfl | exact Or.inr rfl)) (pgs_cons (pg_name (i := 20) sc_law.nd rfl (by first | exact Or.inl rfl | exact Or.inr rfl)) pgs_nil))))
      (pss_cons (ps_set (i := 17) sc_law.nd rfl (by first | exact Or.inl rfl | exact Or.inr rfl) (pe_op op_addU (pe_op op_mulU (pv 17) (pv 20)) (pe_op op_mulU (pe_op op_mulU (pv 19) (pe_ix ix_seq (pe_ix ix_seq (pv 3) (pv 11) (fun _ _ => rfl)) pe_int (fun _ _ => rfl))) (pv 18))))
      (pss_one (ps_set (i := 18) sc_law.nd rfl (by first | exact Or.inl rfl | exact Or.inr rfl) (pe_op op_mulU (pv 18) (pv 20)))))))
      (pss_one (ps_if (pt_cmpR (op_neD hr.units) (pv 17) (pe_op op_mulU (pe_op op_mulU (pe_ix ix_seq (pe_ix ix_seq (pv 3) pe_int (fun _ _ => rfl)) pe_int (fun _ _ => rfl)) (pv 5)) (pv 18)) (nomark _)) (pss_one (ps_ret pe_bl)) pss_nil)))))
      (pss_cons (ps_set (i := 21) sc_law.nd rfl (by first | exact Or.inl rfl | exact Or.inr rfl) (pe_lst pa_nil))
      (pss_cons (ps_for PassesOwn.never rfl (pi_range1 (by rfl) T.n_range (pa_cons (pe_callB call_len (by rfl) T.n_len (by decide +kernel) (pa_cons (pv 3) pa_nil)) pa_nil)) (pg_name (i := 11) sc_law.nd rfl (by first | exact Or.inl rfl | exact Or.inr rfl)) (pss_one (ps_if (PW.pt (pw_and (pt_cmpR op_gt (pv 11) pe_int (nomark _)) (pw_and1 (pt_cmpR (op_eqD hr.units) (pe_ix ix_seq (pv 9) (pv 11) (fun _ _ => rfl)) (pe_ix ix_seq (pv 9) (pe_op op_sub (pv 11) pe_int) (fun _ _ => rfl)) (nomark _))))) (pss_one (ps_asg (pe_tup (pa_cons (pe_ix ix_seq (pe_ix ix_seq (pv 21) (pe_un un_neg pe_int) (fun _ _ => rfl)) pe_int (fun _ _ => rfl)) (pa_cons (pv 11) pa_nil))) (pg_sub (pv 21) (pe_un un_neg pe_int) set_list))) (pss_one (ps_expr (pe_bm PySem.F.plainAttrs_list PySem.F.slot_list_append PySem.F.type_list_append mt_append (pv 21) (pa_cons (pe_tup (pa_cons (pv 11) (pa_cons (pv 11) pa_nil))) pa_nil)))))))
      (pss_one (ps_if (pt_cmpR (op_neD hr.units) (pe_call G_stretches (hr.mono (by decide)) (by rfl) T.m_stretches T.k_stretches T.b_stretches .nil pass0 (pa_cons (pv 3) pa_nil)) (pv 21) (nomark _)) (pss_one (ps_ret pe_bl)) pss_nil)))))))))))))
      (pss_one (ps_ret pe_bl))),
    (rs_seq (rs_for (ri_r1 (rd_cons rd_int rd_nil)) rg_name (rs_seq (rs_set (rd_call (rd_cons rd_var (rd_cons rd_int rd_nil))))
      (rs_seq (rs_set (rd_call (rd_cons rd_var rd_nil)))
      (rs_seq (rs_set (rd_b cs_sum (rd_cons (rd_comp (ri_seq rd_var) (rg_tup (rg_cons rg_name (rg_cons rg_name rg_nil))) rt_yes rd_var) rd_nil)))
      (rs_seq (rs_par (rps_cons (rp_v (rd_call (rd_cons rd_var rd_nil))) (rps_cons (rp_v (rd_call (rd_cons rd_var rd_nil))) rps_nil)))
      (rs_seq (rs_set (rd_call (rd_cons rd_var rd_nil)))
      (rs_seq (rs_if (rt_or (rt_b (rd_op os_ne (rd_b cs_len (rd_cons rd_var rd_nil)) (rd_b cs_len (rd_cons rd_var rd_nil)))) (rt_b (rd_op os_ne (rd_b cs_len (rd_cons rd_var rd_nil)) (rd_b cs_len (rd_cons rd_var rd_nil))))) (rs_ret rd_bl) rs_next)
      (rs_seq (rs_for (ri_r1 (rd_cons (rd_b cs_len (rd_cons rd_var rd_nil)) rd_nil)) rg_name (rs_seq (rs_set (rd_op os_ix rd_var (rd_op os_dif (rd_op os_dif (rd_b cs_len (rd_cons rd_var rd_nil)) rd_var) rd_int)))
      (rs_seq (rs_set (rd_op os_ix rd_var (rd_op os_dif (rd_b cs_len (rd_cons rd_var rd_nil)) rd_var)))
      (rs_seq (rs_par (rps_cons (rp_v (rd_op os_dif (rd_op os_ix rd_var rd_int) (rd_op os_ix rd_var rd_int))) (rps_cons (rp_v (rd_op os_dif (rd_op os_ix rd_var rd_int) (rd_op os_ix rd_var rd_int))) rps_nil)))
      (rs_seq (rs_if (rt_not (rt_b (rd_call (rd_cons (rd_op os_ix rd_var rd_var) (rd_cons rd_var (rd_cons rd_var rd_nil)))))) (rs_ret rd_bl) rs_next)
      (rs_seq (rs_if (rt_not (rt_b (rd_call (rd_cons (rd_op os_ix rd_var rd_var) (rd_cons (rd_op os_ix (rd_op os_ix rd_var rd_var) rd_int) (rd_cons (rd_op os_ix (rd_op os_ix rd_var rd_var) rd_int) rd_nil)))))) (rs_ret rd_bl) rs_next)
      (rs_if (rt_and (rt_b (rd_op os_gt rd_var rd_int)) (rt_b (rd_call (rd_cons (rd_op os_ix rd_var rd_var) (rd_cons (rd_op os_ix rd_var (rd_op os_dif rd_var rd_int)) rd_nil))))) (rs_ret rd_bl) rs_next)))))))
      (rs_seq (rs_for (ri_seq (rd_lst (rd_cons rd_var (rd_cons rd_var rd_nil)))) rg_name (rs_seq (rs_parT (is := [17, 18]) (rps_cons (rp_v rd_int) (rps_cons (rp_v rd_int) rps_nil)))
      (rs_seq (rs_for (ri_r1 (rd_cons (rd_b cs_len (rd_cons rd_var rd_nil)) rd_nil)) rg_name (rs_seq (rs_asg (rd_op os_ix rd_var rd_var) (rg_tup (rg_cons rg_name (rg_cons rg_name rg_nil))))
      (rs_seq (rs_set (rd_op os_add (rd_op os_mul rd_var rd_var) (rd_op os_mul (rd_op os_mul rd_var (rd_op os_ix (rd_op os_ix rd_var rd_var) rd_int)) rd_var)))
      (rs_set (rd_op os_mul rd_var rd_var)))))
      (rs_if (rt_b (rd_op os_ne rd_var (rd_op os_mul (rd_op os_mul (rd_op os_ix (rd_op os_ix rd_var rd_int) rd_int) rd_var) rd_var))) (rs_ret rd_bl) rs_next))))
      (rs_seq (rs_own (rl_lst rd_nil))
      (rs_seq (rs_for (ri_r1 (rd_cons (rd_b cs_len (rd_cons rd_var rd_nil)) rd_nil)) rg_name (rs_if (rt_and (rt_b (rd_op os_gt rd_var rd_int)) (rt_b (rd_op os_eq (rd_op os_ix rd_var rd_var) (rd_op os_ix rd_var (rd_op os_dif rd_var rd_int))))) (rs_put (rd_tup (rd_cons (rd_peek (i := 21) (W' := []) (by rfl) (rd_op os_ix (rd_op os_ix rd_var (rd_un us_neg rd_int)) rd_int)) (rd_cons rd_var rd_nil))) (rd_un us_neg rd_int)) (rs_app (rd_tup (rd_cons rd_var (rd_cons rd_var rd_nil))))))
      (rs_if (rt_peek (i := 21) (W' := []) (by rfl) (rt_b (rd_op os_ne (rd_call (rd_cons rd_var rd_nil)) rd_var))) (rs_ret rd_bl) rs_next))))))))))))
      (rs_ret rd_bl))⟩) hl
end
theorem common_w (n : Nat) : ∀ (a b : D) (g l : Int) (s : S), 0 ≤ g → 0 ≤ l → l < n → whileN (cTst (cOp gGt (cVar 3) (cC (.int 0)))) (cPar (pCons [] 2 (cV (cVar 3)) (pCons [] 3 (cV (cOp gMod (cVar 2) (cVar 3))) pNil))) n [some a, some b, some (.int g), some (.int l)] s
    = .ok (.next [some a, some b, some (.int (Int.gcd g l)), some (.int 0)]) s := by
  induction n with
  | zero => intro a b g l s _ _ h; omega
  | succ n ih =>
    intro a b g l s hg h0 h
    by_cases hl : 0 < l
    · have e : gMod (.int g) (.int l) = some (.int (g % l)) := g_mod hl
      simp only [whileN, e_tst, e_op, e_var, e_c, e_par, e_pcons, e_pnil, e_cV, pc_v, List.getElem?_cons_succ, List.getElem?_cons_zero, Option.join_some, lift_some, bind_ok, g_gt, g_asB, decide_eq_true hl, if_true, e, List.not_mem_nil, if_false, List.set_cons_succ, List.set_cons_zero]
      rw [ih a b l (g % l) s (by omega) (Int.emod_nonneg _ (by omega)) (by have := Int.emod_lt_of_pos g hl; omega), gcd_em]
    · have : l = 0 := by omega
      subst this
      simp [whileN]
      omega
theorem common_is {a b : Int} (s : S) : f_common [.int a, .int b] s = .ok (.int (Int.gcd a b)) s := by
  rw [u_common]
  unfold b_common
  have := common_w (b.natAbs + 1) (.int a) (.int b) (a.natAbs : Int) (b.natAbs : Int) s (by omega) (by omega) (by omega)
  simp [fuelI]
  rw [this]
  simp [Int.gcd]
theorem made_is {a b : Int} (s : S) (hb : 0 < b) (hz : Bd 8000 b) : f_made [.int a, .int b] s = .ok (frD (Rat.divInt a b)) s := by
  have hg : 0 < (Int.gcd a b : Int) := by
    have := Int.gcd_pos_of_ne_zero_right a (show b ≠ 0 by omega)
    omega
  have hle : (Int.gcd a b : Int) ≤ b := by
    have := Int.gcd_dvd_right a b
    exact Int.le_of_dvd hb this
  have hgz : Bd 8000 (Int.gcd a b : Int) := by unfold Bd at *; omega
  rw [u_made]
  unfold b_made
  simp [common_is, g_fdiv hg hgz (show 8000 < 9000 by decide), frD, q_num hb, q_den hb]

/-! ### buyers and their stairs -/
abbrev P2 := Int × Int
def encB (x : P2) : D := .tup [.int x.1, .int x.2]
def buD (xs : List P2) : D := .tup (xs.map encB)
def tot (ys : List P2) : Int := (ys.map (·.2)).sum
structure VU (ys : List P2) : Prop where
  len1 : 1 ≤ ys.length
  len5 : ys.length ≤ 5
  ok : ∀ y ∈ ys, 0 ≤ y.1 ∧ y.1 ≤ 1000000000 ∧ 1 ≤ y.2 ∧ y.2 ≤ 1000000000
  up : ys.Pairwise fun a b => a.1 < b.1
theorem sum_bd : ∀ (ys : List P2), (∀ y ∈ ys, 1 ≤ y.2 ∧ y.2 ≤ 1000000000) → (ys.length : Int) ≤ tot ys ∧ tot ys ≤ 1000000000 * ys.length
  | [], _ => by simp [tot]
  | y :: ys, h => by
    have ih := sum_bd ys fun z hz => h z (by simp [hz])
    have := h y (by simp)
    unfold tot at *
    simp; omega
theorem bd_of {x : Int} (h : -(2 ^ 40) < x ∧ x < 2 ^ 40) : Bd 40 x := by unfold Bd; omega
theorem is_from_is (v lo hi : Int) (s : S) : f_is_from [.int v, .int lo, .int hi] s = .ok (.bl (decide (lo ≤ v ∧ v ≤ hi))) s := by
  rw [u_is_from]; unfold b_is_from
  by_cases h : lo ≤ v <;> simp [h]
theorem is_pair_is {x : P2} (s : S) (h : 0 ≤ x.1 ∧ x.1 ≤ 1000000000 ∧ 1 ≤ x.2 ∧ x.2 ≤ 1000000000) : f_is_pair [encB x] s = .ok (.bl true) s := by
  rw [u_is_pair]; unfold b_is_pair encB
  have e1 : (decide (0 ≤ x.1 ∧ x.1 ≤ 1000000000)) = true := by simp; omega
  have e2 : (decide (1 ≤ x.2 ∧ x.2 ≤ 1000000000)) = true := by simp; omega
  simp [is_from_is, e1, e2]
theorem is_buyer_is {xs : List P2} (v : VU xs) (s : S) : f_is_buyer [buD xs] s = .ok (.bl true) s := by
  have l1 := v.len1
  have l5 := v.len5
  have hr : gR1 [.int ((xs.length : Int) - 1)] = some (upto 0 (xs.length - 1)) := by
    rw [show (xs.length : Int) - 1 = ((xs.length - 1 : Nat) : Int) by omega]
    exact g_r1 _ (by omega)
  have d1 : (1 : Int) ≤ xs.length := by omega
  have d5 : (xs.length : Int) ≤ 5 := by omega
  rw [u_is_buyer]; unfold b_is_buyer buD
  simp [d1, d5, show xs.length ≤ 100000 by omega]
  rw [comp_map (xs := xs) (enc := encB) (e := fun _ => .bl true)]
  · simp [hr, show xs.length - 1 ≤ 100000 by omega]
    rw [upto0, comp_map (e := fun _ => .bl true)]
    · simp
    · intro i hi
      refine ⟨_, rfl, fun s => ?_⟩
      have hi : i < xs.length - 1 := List.mem_range.mp hi
      have e1 : xs[i]? = some xs[i] := List.getElem?_eq_getElem (by omega)
      have e2 : xs[i + 1]? = some xs[i + 1] := List.getElem?_eq_getElem (by omega)
      have hlt := List.pairwise_iff_getElem.mp v.up i (i + 1) (by omega) (by omega) (by omega)
      have a1 : atI (xs.map encB) (i : Int) = some (encB xs[i]) := by rw [at_nat, List.getElem?_map, e1]; rfl
      have a2 : atI (xs.map encB) ((i : Int) + 1) = some (encB xs[i + 1]) := by
        rw [show (i : Int) + 1 = ((i + 1 : Nat) : Int) by omega, at_nat, List.getElem?_map, e2]; rfl
      simp [a1, a2, encB, hlt, -at_nat]
  · intro x hx
    exact ⟨_, rfl, fun s => by simp [is_pair_is s (v.ok x hx)]⟩
theorem need_buyer_is {xs : List P2} (v : VU xs) (s : S) : f_need_buyer [buD xs] s = .ok .non s := by
  rw [u_need_buyer]; unfold b_need_buyer
  simp [is_buyer_is v s]
def stp : Int → List P2 → List P2
  | _, [] => []
  | b, y :: r => (b + y.2, y.1 * (b + y.2)) :: stp (b + y.2) r
def pts (ys : List P2) : List P2 := (0, 0) :: stp 0 ys.reverse
theorem tot_snoc (pre : List P2) (x : P2) : tot (pre ++ [x]) = tot pre + x.2 := by simp [tot]
theorem stp_snoc : ∀ (b : Int) (pre : List P2) (x : P2), stp b (pre ++ [x]) = stp b pre ++ [(b + tot pre + x.2, x.1 * (b + tot pre + x.2))]
  | b, [], x => by simp [stp, tot]
  | b, y :: r, x => by
    show _ :: stp (b + y.2) (r ++ [x]) = _ :: (stp (b + y.2) r ++ _)
    rw [stp_snoc (b + y.2) r x]
    have : b + tot (y :: r) = b + y.2 + tot r := by simp [tot]; omega
    rw [this]
theorem stp_len : ∀ (b : Int) (l : List P2), (stp b l).length = l.length
  | _, [] => rfl
  | b, y :: r => by simp [stp, stp_len]
theorem pts_len (ys : List P2) : (pts ys).length = ys.length + 1 := by simp [pts, stp_len]
theorem VU.pre {ys pre post : List P2} {x : P2} (v : VU ys) (e : ys.reverse = pre ++ x :: post) : pre.length ≤ 4 ∧ 0 ≤ tot pre ∧ tot pre ≤ 4000000000 ∧ 0 ≤ x.1 ∧ x.1 ≤ 1000000000 ∧ 1 ≤ x.2 ∧ x.2 ≤ 1000000000 := by
  have l5 := v.len5
  have hl := congrArg List.length e
  simp at hl
  have hm : ∀ y ∈ pre ++ x :: post, y ∈ ys := fun y hy => by rw [← e] at hy; simpa using hy
  have hx := v.ok x (hm x (by simp))
  have hs := sum_bd pre fun y hy => (v.ok y (hm y (by simp [hy]))).2.2
  refine ⟨by omega, by omega, by omega, hx⟩
theorem stair_is {ys : List P2} (v : VU ys) (s : S) : f_stair [buD ys] s = .ok (.lst ((pts ys).map encB)) s := by
  have key := for_inv (tg := tgTup 2 (tgCons (tgName 3) (tgCons (tgName 4) tgNil))) (F := l1_stair)
    (enc := encB) (xs := ys.reverse) (fun pre δ s' => s' = s ∧ ∃ d e, δ = [some (buD ys), some (.lst (((0, 0) :: stp 0 pre).map encB)), some (.int (tot pre)), d, e])
    (δ := [some (buD ys), some (.lst [encB (0, 0)]), some (.int 0), none, none]) (s := s) ⟨rfl, none, none, rfl⟩ ?_
  · obtain ⟨δ', s', h1, rfl, d, e, rfl⟩ := key
    rw [u_stair]; unfold b_stair
    simp [buD, List.map_reverse] at h1 ⊢
    simp [encB] at h1 ⊢
    rw [h1]; simp [pts, encB]
  · rintro pre x post δ s' e ⟨rfl, d, f, rfl⟩
    have hp := v.pre e
    refine ⟨_, [some (buD ys), some (.lst (((0, 0) :: stp 0 (pre ++ [x])).map encB)), some (.int (tot (pre ++ [x]))), some (.int x.1), some (.int x.2)], s', rfl, ?_, rfl, _, _, rfl⟩
    unfold l1_stair
    have m := g_mul (bd_of (x := x.1) (by omega)) (bd_of (x := tot pre + x.2) (by omega)) (by decide)
    simp [m, stp_len, show pre.length + 1 < 100000 by omega, stp_snoc, tot_snoc, encB]
theorem law_stair_is {ys : List P2} (v : VU ys) (s : S) : f__law_stair [buD ys] s = .ok (.lst ((pts ys).map encB)) s := by
  have key := for_inv (tg := tgTup 2 (tgCons (tgName 3) (tgCons (tgName 4) tgNil))) (F := l1__law_stair)
    (enc := encB) (xs := ys.reverse) (fun pre δ s' => s' = s ∧ ∃ d e, δ = [some (buD ys), some (.lst (((0, 0) :: stp 0 pre).map encB)), some (.int (tot pre)), d, e])
    (δ := [some (buD ys), some (.lst [encB (0, 0)]), some (.int 0), none, none]) (s := s) ⟨rfl, none, none, rfl⟩ ?_
  · obtain ⟨δ', s', h1, rfl, d, e, rfl⟩ := key
    rw [u__law_stair]; unfold b__law_stair
    simp [buD, List.map_reverse] at h1 ⊢
    simp [encB] at h1 ⊢
    rw [h1]; simp [pts, encB]
  · rintro pre x post δ s' e ⟨rfl, d, f, rfl⟩
    have hp := v.pre e
    refine ⟨_, [some (buD ys), some (.lst (((0, 0) :: stp 0 (pre ++ [x])).map encB)), some (.int (tot (pre ++ [x]))), some (.int x.1), some (.int x.2)], s', rfl, ?_, rfl, _, _, rfl⟩
    unfold l1__law_stair
    have m := g_mul (bd_of (x := x.1) (by omega)) (bd_of (x := tot pre + x.2) (by omega)) (by decide)
    simp [m, stp_len, show pre.length + 1 < 100000 by omega, stp_snoc, tot_snoc, encB]

/-! ### lines above points, in plain numbers -/
section
variable {x y : Nat → Rat} {n : Nat}
def slo (x y : Nat → Rat) (i j : Nat) : Rat := (y j - y i) / (x j - x i)
def und (x y : Nat → Rat) (i j k : Nat) : Prop := y k ≤ y i + slo x y i j * (x k - x i)
def Inc (x : Nat → Rat) (n : Nat) : Prop := ∀ i j, i < j → j ≤ n → x i < x j
theorem mulL {a b c : Rat} (h : a ≤ b) (hc : 0 ≤ c) : a * c ≤ b * c := Rat.mul_le_mul_of_nonneg_right h hc
theorem unmulL {a b c : Rat} (h : a * c ≤ b * c) (hc : 0 < c) : a ≤ b := Rat.not_lt.mp fun z => by
  have := Rat.mul_lt_mul_of_pos_right z hc
  exact absurd h (Rat.not_le.mpr this)
theorem slo_mul {i j : Nat} (h : x i < x j) : slo x y i j * (x j - x i) = y j - y i := by
  unfold slo
  have : x j - x i ≠ 0 := by grind
  rw [Rat.div_mul_cancel this]
theorem und_of {i j t : Nat} (h1 : x i < x j) (h2 : x j < x t) (h : slo x y j t ≤ slo x y i j) : und x y i j t := by
  have a := slo_mul (y := y) h1
  have b := slo_mul (y := y) h2
  have c := mulL (c := x t - x j) h (by grind)
  unfold und
  grind
theorem und_le {i j t : Nat} (h1 : x i < x j) (h2 : x j < x t) (h : und x y i j t) : slo x y j t ≤ slo x y i j := by
  have a := slo_mul (y := y) h1
  have b := slo_mul (y := y) h2
  refine unmulL (c := x t - x j) ?_ (by grind)
  unfold und at h
  grind
theorem und_left {s t p k : Nat} (h1 : x s < x t) (h2 : x t < x p) (hk : x k ≤ x t) (h : und x y s t k) (hs : slo x y t p ≤ slo x y s t) : und x y t p k := by
  have a := slo_mul (y := y) h1
  have c := mulL (c := x t - x k) hs (by grind)
  unfold und at *
  grind
theorem und_pop {s t p k : Nat} (h1 : x s < x t) (h2 : x t < x p) (hk : x s ≤ x k) (h : und x y s t k) (hs : slo x y s t ≤ slo x y t p) : und x y s p k := by
  have a := slo_mul (y := y) h1
  have b := slo_mul (y := y) h2
  have d := slo_mul (y := y) (show x s < x p by grind)
  have c := mulL (c := x p - x t) hs (by grind)
  have e : slo x y s t ≤ slo x y s p := unmulL (c := x p - x s) (by grind) (by grind)
  have f := mulL (c := x k - x s) e (by grind)
  unfold und at *
  grind
theorem und_down {r s t p : Nat} (h0 : x r < x s) (h1 : x s < x t) (h2 : x t < x p) (ha : und x y r s t) (hb : und x y s t p) : und x y r s p := by
  have e := und_le h0 h1 ha
  have a := slo_mul (y := y) h0
  have c := mulL (c := x p - x s) e (by grind)
  unfold und at *
  grind
theorem und_self {i j : Nat} (h : x i < x j) : und x y i j j ∧ und x y i j i := by
  have a := slo_mul (y := y) h
  unfold und
  exact ⟨by grind, by grind⟩
def LevOk (x y : Nat → Rat) (n p : Nat) (q : Rat) : Prop := ∃ i j, i ≤ p ∧ p < j ∧ j ≤ n ∧ q = slo x y i j ∧ ∀ k, k ≤ n → und x y i j k
theorem lev_mono {p p' : Nat} {q q' : Rat} (hx : Inc x n) (h : LevOk x y n p q) (h' : LevOk x y n p' q') (hp : p ≤ p') : q' ≤ q := by
  obtain ⟨i, j, a1, a2, a3, rfl, a4⟩ := h
  obtain ⟨k, l, b1, b2, b3, rfl, b4⟩ := h'
  have e1 := hx i l (by omega) b3
  have e2 := hx i j (by omega) a3
  have e3 := hx k l (by omega) b3
  have c1 := b4 i (by omega)
  have c2 := a4 l (by omega)
  have m1 := slo_mul (y := y) e2
  have m2 := slo_mul (y := y) e3
  refine unmulL (c := x l - x i) ?_ (by grind)
  unfold und at c1 c2
  grind
def MinMax (x y : Nat → Rat) (n p : Nat) (q : Rat) : Prop := (∃ a, a ≤ p ∧ ∀ b, p < b → b ≤ n → slo x y a b ≤ q) ∧ ∀ a, a ≤ p → ∃ b, p < b ∧ b ≤ n ∧ q ≤ slo x y a b
theorem minmax_eq {p : Nat} {q q' : Rat} (hx : Inc x n) (h : LevOk x y n p q) (h' : MinMax x y n p q') : q = q' := by
  obtain ⟨i, j, a1, a2, a3, rfl, a4⟩ := h
  obtain ⟨⟨a, b1, b2⟩, b3⟩ := h'
  have e2 := hx i j (by omega) a3
  have m1 := slo_mul (y := y) e2
  refine Rat.le_antisymm ?_ ?_
  · have := b2 j a2 a3
    have e3 := hx a j (by omega) a3
    have m2 := slo_mul (y := y) e3
    have c := a4 a (by omega)
    have : slo x y i j ≤ slo x y a j := by
      refine unmulL (c := x j - x a) ?_ (by grind)
      unfold und at c
      grind
    grind
  · obtain ⟨b, c1, c2, c3⟩ := b3 i a1
    have e3 := hx i b (by omega) c2
    have m2 := slo_mul (y := y) e3
    have c := a4 b c2
    have : slo x y i b ≤ slo x y i j := by
      refine unmulL (c := x b - x i) ?_ (by grind)
      unfold und at c
      grind
    grind
/-- a chain, its top first: every line of it lies above all points up to `at` -/
def Ch (x y : Nat → Rat) (m : Nat) : List Nat → Prop
  | [] => False
  | [t] => t = 0
  | t :: s :: r => s < t ∧ (∀ k, k ≤ m → und x y s t k) ∧ Ch x y m (s :: r)
theorem ch_up {m : Nat} (hx : Inc x n) (hm : m + 1 ≤ n) : ∀ {r : List Nat} {s t : Nat}, t ≤ m → Ch x y m (t :: s :: r) → und x y s t (m + 1) → Ch x y (m + 1) (t :: s :: r)
  | [], s, t, ht, ⟨h1, h2, h3⟩, h => ⟨h1, fun k hk => by
      rcases Nat.lt_or_ge m k with z | z
      · rw [show k = m + 1 by omega]; exact h
      · exact h2 k z, h3⟩
  | q :: r, s, t, ht, ⟨h1, h2, h3⟩, h => ⟨h1, fun k hk => by
      rcases Nat.lt_or_ge m k with z | z
      · rw [show k = m + 1 by omega]; exact h
      · exact h2 k z, ch_up hx hm (by omega) h3 (und_down (hx _ _ h3.1 (by omega)) (hx _ _ h1 (by omega)) (hx _ _ (show t < m + 1 by omega) hm) (h3.2.1 t ht) h)⟩
theorem ch_add {m : Nat} (hx : Inc x n) (hm : m + 1 ≤ n) {t : Nat} {r : List Nat} (ht : t ≤ m) (hc : Ch x y m (t :: r)) (h2 : ∀ k, k ≤ m → t < k → und x y t (m + 1) k)
    (hb : ∀ s r', r = s :: r' → slo x y t (m + 1) < slo x y s t) : Ch x y (m + 1) ((m + 1) :: t :: r) := by
  have htp := hx t (m + 1) (by omega) hm
  refine ⟨by omega, fun k hk => ?_, ?_⟩
  · rcases Nat.lt_or_ge m k with z | z
    · rw [show k = m + 1 by omega]; exact (und_self htp).1
    · rcases Nat.lt_trichotomy t k with w | w | w
      · exact h2 k z w
      · subst w; exact (und_self htp).2
      · cases r with
        | nil => have : t = 0 := hc; omega
        | cons s r =>
          exact und_left (hx _ _ hc.1 (by omega)) htp (Rat.le_of_lt (hx k t w (by omega))) (hc.2.1 k z) (Rat.le_of_lt (hb s r rfl))
  · cases r with
    | nil => exact hc
    | cons s r => exact ch_up hx hm ht hc (und_of (hx _ _ hc.1 (by omega)) htp (Rat.le_of_lt (hb s r rfl)))
end

/-! ### the stair's points -/
theorem stp_ok : ∀ (l : List P2) (b : Int), (∀ y ∈ l, 0 ≤ y.1 ∧ y.1 ≤ 1000000000 ∧ 1 ≤ y.2 ∧ y.2 ≤ 1000000000) → 0 ≤ b →
    (∀ z ∈ stp b l, b < z.1 ∧ z.1 ≤ b + 1000000000 * l.length ∧ 0 ≤ z.2 ∧ z.2 ≤ 1000000000 * z.1) ∧ (stp b l).Pairwise (fun a c => a.1 < c.1)
  | [], _, _, _ => ⟨by simp [stp], by simp [stp]⟩
  | y :: r, b, h, hb => by
    have hy := h y (by simp)
    have ih := stp_ok r (b + y.2) (fun z hz => h z (by simp [hz])) (by omega)
    have h0 : 0 ≤ y.1 * (b + y.2) := Int.mul_nonneg hy.1 (by omega)
    have h1 : y.1 * (b + y.2) ≤ 1000000000 * (b + y.2) := Int.mul_le_mul_of_nonneg_right hy.2.1 (by omega)
    refine ⟨fun z hz => ?_, ?_⟩
    · rcases List.mem_cons.mp hz with q | q
      · subst q
        refine ⟨?_, ?_, h0, h1⟩
        · show b < b + y.2; omega
        · show b + y.2 ≤ _; simp; omega
      · have := ih.1 z q
        simp
        omega
    · refine List.pairwise_cons.mpr ⟨fun z hz => ?_, ih.2⟩
      exact (ih.1 z hz).1
def pz (zs : List P2) (i : Nat) : P2 := zs.getD i (0, 0)
def xq (zs : List P2) (i : Nat) : Rat := ((pz zs i).1 : Rat)
def yq (zs : List P2) (i : Nat) : Rat := ((pz zs i).2 : Rat)
structure Pz (zs : List P2) (n : Nat) : Prop where
  len : zs.length = n + 1
  n1 : 1 ≤ n
  n5 : n ≤ 5
  ok : ∀ i, i ≤ n → 0 ≤ (pz zs i).1 ∧ (pz zs i).1 ≤ 5000000000 ∧ 0 ≤ (pz zs i).2 ∧ (pz zs i).2 ≤ 5000000000000000000
  up : ∀ i j, i < j → j ≤ n → (pz zs i).1 < (pz zs j).1
theorem pts_ok {ys : List P2} (v : VU ys) : Pz (pts ys) ys.length := by
  have l5 := v.len5
  have h := stp_ok ys.reverse 0 (fun y hy => v.ok y (by simpa using hy)) (by omega)
  have hp : (pts ys).Pairwise (fun a c => a.1 < c.1) := List.pairwise_cons.mpr ⟨fun z hz => (h.1 z hz).1, h.2⟩
  have hl := pts_len ys
  have hz : ∀ z ∈ pts ys, 0 ≤ z.1 ∧ z.1 ≤ 5000000000 ∧ 0 ≤ z.2 ∧ z.2 ≤ 5000000000000000000 := fun z hz => by
    rcases List.mem_cons.mp hz with q | q
    · subst q; simp
    · have := h.1 z q
      rw [List.length_reverse] at this
      omega
  refine ⟨hl, v.len1, l5, fun i hi => ?_, fun i j hij hj => ?_⟩
  · have e : pz (pts ys) i = (pts ys)[i]'(by omega) := by unfold pz; simp [List.getD_eq_getElem?_getD, show i < (pts ys).length by omega]
    rw [e]; exact hz _ (List.getElem_mem _)
  · have e : ∀ k (hk : k < (pts ys).length), pz (pts ys) k = (pts ys)[k] := fun k hk => by unfold pz; simp [List.getD_eq_getElem?_getD, hk]
    rw [e i (by omega), e j (by omega)]
    exact List.pairwise_iff_getElem.mp hp i j (by omega) (by omega) hij
section
variable {zs : List P2} {n : Nat}
theorem Pz.inc (h : Pz zs n) : Inc (xq zs) n := fun i j a b => by
  unfold xq
  exact Rat.intCast_lt_intCast.mpr (h.up i j a b)
theorem Pz.at (h : Pz zs n) {i : Nat} (hi : i ≤ n) : (zs.map encB)[i]? = some (encB (pz zs i)) := by
  have := h.len
  rw [List.getElem?_map, List.getElem?_eq_getElem (by omega)]
  unfold pz; simp [List.getD_eq_getElem?_getD, show i < zs.length by omega]
abbrev sq (zs : List P2) (i j : Nat) : Rat := slo (xq zs) (yq zs) i j
theorem sq_eq (zs : List P2) (i j : Nat) : Rat.divInt ((pz zs j).2 - (pz zs i).2) ((pz zs j).1 - (pz zs i).1) = sq zs i j := by
  rw [Rat.divInt_eq_div]
  unfold sq slo xq yq
  rw [Rat.intCast_sub, Rat.intCast_sub]
theorem q_bd {a b : Int} (hb : 0 < b) (ha : Bd 90 a) (hb2 : b < 2 ^ 40) : Bd 400000 (Rat.divInt a b).num ∧ Bd 400000 ((Rat.divInt a b).den : Int) ∧ ((Rat.divInt a b).den : Int) < 2 ^ 40 ∧ Bd 90 (Rat.divInt a b).num := by
  rw [q_num hb, q_den hb]
  have hd : b / (Int.gcd a b : Int) ≤ b := Int.ediv_le_self _ (by omega)
  have hd0 : 0 ≤ b / (Int.gcd a b : Int) := Int.ediv_nonneg (by omega) (by omega)
  have z : Bd 90 (a / (Int.gcd a b : Int)) := by
    unfold Bd at *
    exact Nat.lt_of_le_of_lt (Int.natAbs_ediv_le_natAbs _ _) ha
  refine ⟨z.mono (by decide), ?_, by omega, z⟩
  refine Bd.mono (n := 40) ?_ (by decide)
  unfold Bd at *
  omega
theorem Pz.dif (h : Pz zs n) {i j : Nat} (hij : i < j) (hj : j ≤ n) : 0 < (pz zs j).1 - (pz zs i).1 ∧ (pz zs j).1 - (pz zs i).1 < 2 ^ 40 ∧ Bd 90 ((pz zs j).2 - (pz zs i).2) := by
  have a := h.ok i (by omega)
  have b := h.ok j hj
  have c := h.up i j hij hj
  exact ⟨by omega, by omega, by unfold Bd; omega⟩
theorem Pz.bd (h : Pz zs n) {i j : Nat} (hij : i < j) (hj : j ≤ n) : Bd 400000 (sq zs i j).num ∧ Bd 400000 ((sq zs i j).den : Int) ∧ ((sq zs i j).den : Int) < 2 ^ 40 ∧ Bd 90 (sq zs i j).num := by
  have d := h.dif hij hj
  rw [← sq_eq]
  exact q_bd d.1 d.2.2 d.2.1
theorem slope_is (h : Pz zs n) {i j : Nat} (hij : i < j) (hj : j ≤ n) (s : S) : f_slope [encB (pz zs i), encB (pz zs j)] s = .ok (frD (sq zs i j)) s := by
  have d := h.dif hij hj
  have m := made_is (a := (pz zs j).2 - (pz zs i).2) (b := (pz zs j).1 - (pz zs i).1) s d.1 (by unfold Bd; omega)
  rw [u_slope]; unfold b_slope encB
  simp [m, sq_eq]
theorem is_less_is {p q : Rat} (s : S) (h1 : Bd 400000 p.num) (h2 : Bd 400000 p.den) (h3 : Bd 400000 q.num) (h4 : Bd 400000 q.den) : f_is_less [frD p, frD q] s = .ok (.bl (decide (p < q))) s := by
  rw [u_is_less]; unfold b_is_less frD
  have e : decide (p < q) = decide (p.num * q.den < q.num * p.den) := by simp [Rat.lt_iff]
  simp [g_mul h1 h4 (by decide), g_mul h3 h2 (by decide), e]
theorem is_bend_is (h : Pz zs n) {i j k : Nat} (hij : i < j) (hjk : j < k) (hk : k ≤ n) (s : S) : f_is_bend [encB (pz zs i), encB (pz zs j), encB (pz zs k)] s = .ok (.bl (decide (sq zs j k < sq zs i j))) s := by
  have b1 := h.bd hij (by omega)
  have b2 := h.bd hjk hk
  rw [u_is_bend]; unfold b_is_bend
  simp [slope_is h hij (show j ≤ n by omega), slope_is h hjk hk, is_less_is s b2.1 b2.2.1 b1.1 b1.2.1]
theorem at_m2 {α : Type} (l : List α) (a b : α) : atI (l ++ [a, b]) (-2) = some a := by
  unfold atI ixN
  have e : (-2 + ((l ++ [a, b]).length : Int)).toNat = l.length := by simp; omega
  rw [if_neg (by omega), if_pos (by simp; omega), e]
  simp
def iD (i : Nat) : D := .int (i : Int)
abbrev hullC : En → M Bool := cAnd (cPk (cTst (cOp gGt (cB gLen (cCons (cVar 1) cNil)) (cC (.int 1))))) (cNot (cTst (cCall 3 f_is_bend (cCons (cOp gIx (cVar 0) (cScal (cOp gIx (cVar 1) (cUn gNeg (cC (.int 2)))))) (cCons (cOp gIx (cVar 0) (cScal (cOp gIx (cVar 1) (cUn gNeg (cC (.int 1)))))) (cCons (cVar 3) cNil))))))
theorem hull_c (h : Pz zs n) {q t p : Nat} {L : List D} {e : Option D} (hl : 1 < L.length) (i2 : atI L (-2) = some (iD q)) (i1 : atI L (-1) = some (iD t)) (hq : q < t) (ht : t < p) (hp : p ≤ n) (s : S) :
    hullC [some (.lst (zs.map encB)), some (.lst L), e, some (encB (pz zs p))] s = .ok (!decide (sq zs t p < sq zs q t)) s := by
  have hl' : (1 : Int) < (L.length : Int) := by omega
  have p1 := h.at (i := q) (by omega)
  have p2 := h.at (i := t) (by omega)
  have bend := is_bend_is h hq ht hp s
  have s1 : atI (zs.map encB) (q : Int) = some (encB (pz zs q)) := by rw [at_nat]; exact p1
  have s2 : atI (zs.map encB) (t : Int) = some (encB (pz zs t)) := by rw [at_nat]; exact p2
  simp [hl', i1, i2, iD, PV.scal, s1, s2, bend, -at_nat]
theorem hull_w (h : Pz zs n) {m : Nat} (hm : m + 1 ≤ n) (s : S) : ∀ (st : List Nat) (t : Nat) (fu : Nat), (t :: st).length < fu → t ≤ m → Ch (xq zs) (yq zs) m (t :: st) → (∀ k, k ≤ m → t < k → und (xq zs) (yq zs) t (m + 1) k) →
    ∃ t' st', whileN hullC (cPop 1) fu [some (.lst (zs.map encB)), some (.lst ((t :: st).reverse.map iD)), some (iD (m + 1)), some (encB (pz zs (m + 1)))] s
      = .ok (.next [some (.lst (zs.map encB)), some (.lst ((t' :: st').reverse.map iD)), some (iD (m + 1)), some (encB (pz zs (m + 1)))]) s ∧ (t' :: st').length ≤ (t :: st).length ∧ Ch (xq zs) (yq zs) (m + 1) ((m + 1) :: t' :: st')
  | [], t, fu, hf, ht, hc, h2 => by
    obtain ⟨fu, rfl⟩ : ∃ k, fu = k + 1 := ⟨fu - 1, by simp at hf; omega⟩
    refine ⟨t, [], ?_, Nat.le_refl _, ch_add h.inc hm ht hc h2 (fun _ _ e => by cases e)⟩
    simp [whileN]
  | q :: st, t, fu, hf, ht, hc, h2 => by
    obtain ⟨fu, rfl⟩ : ∃ k, fu = k + 1 := ⟨fu - 1, by simp at hf; omega⟩
    have ix2 : atI ((t :: q :: st).reverse.map iD) (-2) = some (iD q) := by
      have : (t :: q :: st).reverse.map iD = (st.reverse.map iD) ++ [iD q, iD t] := by simp
      rw [this, at_m2]
    have ix1 : atI ((t :: q :: st).reverse.map iD) (-1) = some (iD t) := by
      rw [at_m1]; simp
    have hq := hc.1
    have cc := hull_c h (e := some (iD (m + 1))) (L := (t :: q :: st).reverse.map iD) (by simp) ix2 ix1 hq (show t < m + 1 by omega) hm s
    by_cases hb : sq zs t (m + 1) < sq zs q t
    · refine ⟨t, q :: st, ?_, Nat.le_refl _, ch_add h.inc hm ht hc h2 (fun a b e => by cases e; exact hb)⟩
      rw [whileN, cc]
      simp [hb]
    · have dl : ((t :: q :: st).reverse.map iD).dropLast = (q :: st).reverse.map iD := by simp
      have ne : (t :: q :: st).reverse.map iD ≠ [] := by simp
      obtain ⟨t', st', e1, e2, e3⟩ := hull_w h hm s st q fu (by simp at hf ⊢; omega) (by omega) hc.2.2 fun k hk hqk =>
        und_pop (h.inc q t hq (by omega)) (h.inc t (m + 1) (by omega) hm) (Rat.le_of_lt (h.inc q k hqk (by omega))) (hc.2.1 k hk) (Rat.not_lt.mp hb)
      refine ⟨t', st', ?_, by simp at e2 ⊢; omega, e3⟩
      rw [whileN, cc]
      have pop : cPop 1 [some (.lst (zs.map encB)), some (.lst ((t :: q :: st).reverse.map iD)), some (iD (m + 1)), some (encB (pz zs (m + 1)))] s = .ok (.next [some (.lst (zs.map encB)), some (.lst ((q :: st).reverse.map iD)), some (iD (m + 1)), some (encB (pz zs (m + 1)))]) s := by
        have : cPop 1 [some (.lst (zs.map encB)), some (.lst ((t :: q :: st).reverse.map iD)), some (iD (m + 1)), some (encB (pz zs (m + 1)))] s = if (t :: q :: st).reverse.map iD ≠ [] then .ok (.next [some (.lst (zs.map encB)), some (.lst ((t :: q :: st).reverse.map iD).dropLast), some (iD (m + 1)), some (encB (pz zs (m + 1)))]) s else .stuck := rfl
        rw [this, if_pos ne, dl]
      rw [bind_ok, if_pos (by simp [hb]), pop, bind_ok]
      exact e1
theorem range_split {n x : Nat} {pre post : List Nat} (e : List.range n = pre ++ x :: post) : x = pre.length ∧ pre.length < n := by
  have hl := congrArg List.length e
  simp at hl
  have h1 : (List.range n)[pre.length]? = some x := by rw [e]; simp
  rw [List.getElem?_range (by omega)] at h1
  exact ⟨by cases h1; rfl, by omega⟩
theorem ch_bot {x y : Nat → Rat} {m : Nat} : ∀ {r : List Nat} {t : Nat}, Ch x y m (t :: r) → (t :: r).length ≤ t + 1
  | [], t, h => by simp
  | s :: r, t, h => by
    have := ch_bot h.2.2
    have := h.1
    simp at *; omega
theorem hull_is (h : Pz zs n) (s : S) : ∃ st, f_hull [.lst (zs.map encB)] s = .ok (.lst ((n :: st).reverse.map iD)) s ∧ Ch (xq zs) (yq zs) n (n :: st) := by
  have key := for_inv (tg := tgTup 2 (tgCons (tgName 2) (tgCons (tgName 3) tgNil))) (F := l1_hull)
    (enc := fun i => .tup [iD i, encB (pz zs i)]) (xs := List.range (n + 1)) (fun pre δ s' => s' = s ∧ ∃ L d e, δ = [some (.lst (zs.map encB)), some (.lst L), d, e] ∧ ((pre = [] ∧ L = []) ∨ ∃ m st, pre.length = m + 1 ∧ L = (m :: st).reverse.map iD ∧ Ch (xq zs) (yq zs) m (m :: st)))
    (δ := [some (.lst (zs.map encB)), some (.lst []), none, none]) (s := s) ⟨rfl, [], none, none, rfl, .inl ⟨rfl, rfl⟩⟩ ?_
  · obtain ⟨δ', s', h1, rfl, L, d, e, rfl, hL⟩ := key
    rcases hL with ⟨z, _⟩ | ⟨m, st, z, rfl, hc⟩
    · simp at z
    · have : m = n := by simp at z; omega
      subst this
      refine ⟨st, ?_, hc⟩
      have en : enumD (zs.map encB) = (List.range (m + 1)).map fun i => .tup [iD i, encB (pz zs i)] := by
        unfold enumD
        rw [List.length_map, h.len]
        refine List.map_congr_left fun i hi => ?_
        have hi := List.mem_range.mp hi
        rw [List.getD_eq_getElem?_getD, h.at (by omega)]; rfl
      rw [u_hull]; unfold b_hull
      simp [en]
      simp at h1
      rw [h1]; simp
  · rintro pre x post δ s' e ⟨rfl, L, d, e', rfl, hL⟩
    obtain ⟨hx, hp⟩ := range_split e
    rcases hL with ⟨rfl, rfl⟩ | ⟨m, st, z, rfl, hc⟩
    · refine ⟨_, [some (.lst (zs.map encB)), some (.lst [iD 0]), some (iD 0), some (encB (pz zs 0))], s', rfl, ?_, rfl, _, _, _, rfl, .inr ⟨0, [], rfl, rfl, rfl⟩⟩
      simp at hx
      subst hx
      unfold l1_hull
      simp [fuelL, whileN, iD]
    · have hxm : x = m + 1 := by omega
      subst hxm
      obtain ⟨t', st', e1, e2, e3⟩ := hull_w h (m := m) (by omega) s' st m ((m :: st).length + 1) (by omega) (Nat.le_refl _) hc (fun k a b => by omega)
      have hb := ch_bot hc
      have hn := h.n5
      refine ⟨_, [some (.lst (zs.map encB)), some (.lst (((m + 1) :: t' :: st').reverse.map iD)), some (iD (m + 1)), some (encB (pz zs (m + 1)))], s', rfl, ?_, rfl, _, _, _, rfl, .inr ⟨m + 1, t' :: st', by simp; omega, rfl, e3⟩⟩
      have fu : fuelL 1 [some (.lst (zs.map encB)), some (.lst ((m :: st).reverse.map iD)), some (iD (m + 1)), some (encB (pz zs (m + 1)))] = (m :: st).length + 1 := by
        show ((m :: st).reverse.map iD).length + 1 = _
        simp
      unfold l1_hull
      rw [e_seq, e_while, show ([some (.lst (zs.map encB)), some (.lst ((m :: st).reverse.map iD)), d, e'].set 2 (some (iD (m + 1)))).set 3 (some (encB (pz zs (m + 1)))) = [some (.lst (zs.map encB)), some (.lst ((m :: st).reverse.map iD)), some (iD (m + 1)), some (encB (pz zs (m + 1)))] from rfl, fu, e1, bind_ok]
      have hlen : ((t' :: st').reverse.map iD).length < 100000 := by simp at e2 hb ⊢; omega
      simp only [e_app, e_var, ow_eq, List.getElem?_cons_succ, List.getElem?_cons_zero, Option.join_some, Option.bind_some, g_asLst, lift_some, bind_ok, if_pos hlen]
      simp
end

/-! ### levels -/
section
variable {zs : List P2} {n : Nat}
def tele (zs : List P2) : Nat → List Rat → Rat
  | _, [] => 0
  | i, q :: qs => q * (xq zs (i + 1) - xq zs i) + tele zs (i + 1) qs
theorem tele_app (zs : List P2) : ∀ (i : Nat) (as bs : List Rat), tele zs i (as ++ bs) = tele zs i as + tele zs (i + as.length) bs
  | i, [], bs => by simp [tele]; grind
  | i, a :: as, bs => by
    show a * _ + tele zs (i + 1) (as ++ bs) = a * _ + tele zs (i + 1) as + tele zs (i + (as.length + 1)) bs
    rw [tele_app zs (i + 1) as bs, show i + (as.length + 1) = i + 1 + as.length by omega]
    grind
theorem tele_rep (zs : List P2) (q : Rat) : ∀ (i k : Nat), tele zs i (List.replicate k q) = q * (xq zs (i + k) - xq zs i)
  | i, 0 => by simp [tele]; grind
  | i, k + 1 => by
    rw [List.replicate_succ]
    show q * _ + tele zs (i + 1) (List.replicate k q) = _
    rw [tele_rep zs q (i + 1) k, show i + 1 + k = i + (k + 1) by omega]
    grind
theorem ch_adj {x y : Nat → Rat} {m : Nat} : ∀ {L : List Nat}, Ch x y m L → ∀ (i a b : Nat), L.reverse[i]? = some a → L.reverse[i + 1]? = some b → a < b ∧ ∀ k, k ≤ m → und x y a b k
  | [], h, _, _, _, _, _ => h.elim
  | [t], h, i, a, b, h1, h2 => by simp at h2
  | t :: s :: r, h, i, a, b, h1, h2 => by
    rw [List.reverse_cons] at h1 h2
    have hl : (s :: r).reverse.length = r.length + 1 := by simp
    rcases Nat.lt_trichotomy (i + 1) (r.length + 1) with z | z | z
    · rw [List.getElem?_append_left (by omega)] at h1 h2
      exact ch_adj h.2.2 i a b h1 h2
    · rw [List.getElem?_append_left (by omega)] at h1
      rw [List.getElem?_append_right (by omega), hl, z] at h2
      have e1 : i = r.length := by omega
      subst e1
      simp at h1 h2
      subst h1 h2
      exact ⟨h.1, h.2.1⟩
    · rw [List.getElem?_append_right (by omega), hl] at h2
      have := (List.getElem?_eq_some_iff.mp h2).1
      simp at this
      omega
theorem ch_first {x y : Nat → Rat} {m : Nat} : ∀ {L : List Nat}, Ch x y m L → L.reverse[0]? = some 0 ∧ ∀ t r, L = t :: r → ∀ a ∈ L, a ≤ t
  | [], h => h.elim
  | [t], h => ⟨by have : t = 0 := h; simp [this], fun u r e a ha => by cases e; simp at ha; omega⟩
  | t :: s :: r, h => by
    have ih := ch_first h.2.2
    refine ⟨?_, fun u q e a ha => ?_⟩
    · rw [List.reverse_cons, List.getElem?_append_left (by simp)]; exact ih.1
    · cases e
      rcases List.mem_cons.mp ha with z | z
      · omega
      · have := ih.2 s r rfl a z
        have := h.1
        omega
theorem mul_one_rep (d : D) (k : Int) (h0 : 0 ≤ k) (h1 : k ≤ 10) : gMul (.lst [d]) (.int k) = some (.lst (List.replicate k.toNat d)) := by
  show (if k ≤ 100000 ∧ -100000 ≤ k ∧ [d].length * k.toNat ≤ 100000 then some (D.lst (List.replicate k.toNat [d]).flatten) else none) = _
  rw [if_pos ⟨by omega, by omega, by simp; omega⟩]
  congr 2
  generalize k.toNat = m
  induction m with
  | zero => rfl
  | succ m ih => rw [List.replicate_succ, List.flatten_cons, ih, List.replicate_succ]; rfl
theorem e_ext {δ : En} {s : S} (i) (f : En → M D) : cExt i f δ s = (lift (ownL δ i) s).bind fun ds s0 => (f δ s0).bind fun d s1 => (lift (asLst d) s1).bind fun es s2 => if ds.length + es.length ≤ 100000 then .ok (.next (δ.set i (some (.lst (ds ++ es))))) s2 else .stuck := rfl
structure Levs (zs : List P2) (n : Nat) (lv : List Rat) : Prop where
  len : lv.length = n
  ok : ∀ p q, lv[p]? = some q → LevOk (xq zs) (yq zs) n p q
  sum : tele zs 0 lv = yq zs n - yq zs 0
theorem levels_of_is {ys : List P2} (v : VU ys) (s : S) : ∃ lv, Levs (pts ys) ys.length lv ∧ f_levels_of [buD ys] s = .ok (.lst (lv.map frD).reverse) s := by
  have h := pts_ok v
  generalize hn : ys.length = n at h
  have n5 := h.n5
  obtain ⟨st, hh, hc⟩ := hull_is h s
  generalize hzs : pts ys = zs at h hh hc
  generalize hL : (n :: st).reverse = L at hh
  have fst := (ch_first hc).1
  have hmax := (ch_first hc).2 n st rfl
  have hadj := ch_adj hc
  rw [hL] at fst hadj
  have hlen : L.length = st.length + 1 := by rw [← hL]; simp
  have hlast : L[st.length]? = some n := by rw [← hL]; simp
  have hb := ch_bot hc
  have hle : ∀ (i a : Nat), L[i]? = some a → a ≤ n := fun i a ha => hmax a (by
    have := List.mem_of_getElem? ha
    rw [← hL] at this; exact List.mem_reverse.mp this)
  have key := for_inv (tg := tgName 4) (F := l1_levels_of) (enc := fun (i : Nat) => D.int (i : Int)) (xs := List.range st.length)
    (fun pre δ s' => s' = s ∧ ∃ lv d e f, δ = [some (buD ys), some (.lst (zs.map encB)), some (.lst (L.map iD)), some (.lst (lv.map frD)), d, e, f] ∧ L[pre.length]? = some lv.length ∧ (∀ p q, lv[p]? = some q → LevOk (xq zs) (yq zs) n p q) ∧ tele zs 0 lv = yq zs lv.length - yq zs 0)
    (δ := [some (buD ys), some (.lst (zs.map encB)), some (.lst (L.map iD)), some (.lst []), none, none, none]) (s := s) ⟨rfl, [], none, none, none, rfl, fst, by simp, by simp [tele]; grind⟩ ?_
  · obtain ⟨δ', s', h1, rfl, lv, d, e, f, rfl, g1, g2, g3⟩ := key
    rw [List.length_range, hlast] at g1
    cases g1
    refine ⟨lv, ⟨rfl, g2, g3⟩, ?_⟩
    have r1 : gR1 [.int ((L.length : Int) - 1)] = some (upto 0 st.length) := by
      rw [hlen, show ((st.length + 1 : Nat) : Int) - 1 = (st.length : Int) by omega]
      exact g_r1 _ (by simp at hb; omega)
    have hst := stair_is v s'
    rw [hzs] at hst
    rw [u_levels_of]; unfold b_levels_of
    simp [hst, hh, r1]
    rw [upto0, h1]; simp
  · rintro pre x post δ s' e ⟨rfl, lv, d, e', f, rfl, g1, g2, g3⟩
    obtain ⟨hx, hp⟩ := range_split e
    subst hx
    obtain ⟨b, hb2⟩ : ∃ b, L[pre.length + 1]? = some b := ⟨L[pre.length + 1]'(by omega), List.getElem?_eq_getElem (by omega)⟩
    obtain ⟨a1, a2⟩ := hadj _ _ _ g1 hb2
    have a3 := hle _ _ hb2
    have sl := slope_is h a1 a3 s'
    have p1 : atI (zs.map encB) (lv.length : Int) = some (encB (pz zs lv.length)) := by rw [at_nat]; exact h.at (by omega)
    have p2 : atI (zs.map encB) (b : Int) = some (encB (pz zs b)) := by rw [at_nat]; exact h.at (by omega)
    have q1 : atI (L.map iD) (pre.length : Int) = some (.int (lv.length : Int)) := by rw [at_nat, List.getElem?_map, g1]; rfl
    have q2 : atI (L.map iD) ((pre.length : Int) + 1) = some (.int (b : Int)) := by
      rw [show (pre.length : Int) + 1 = ((pre.length + 1 : Nat) : Int) by omega, at_nat, List.getElem?_map, hb2]; rfl
    have rep := mul_one_rep (frD (sq zs lv.length b)) ((b : Int) - (lv.length : Int)) (by omega) (by omega)
    rw [show ((b : Int) - (lv.length : Int)).toNat = b - lv.length by omega] at rep
    refine ⟨_, [some (buD ys), some (.lst (zs.map encB)), some (.lst (L.map iD)), some (.lst ((lv ++ List.replicate (b - lv.length) (sq zs lv.length b)).map frD)), some (.int (pre.length : Int)), some (.int (lv.length : Int)), some (.int (b : Int))], s', rfl, ?_, rfl, lv ++ List.replicate (b - lv.length) (sq zs lv.length b), _, _, _, rfl, ?_, ?_, ?_⟩
    · unfold l1_levels_of
      simp [q1, q2, p1, p2, sl, rep, e_ext, -at_nat, show lv.length + (b - lv.length) ≤ 100000 by omega]
    · rw [List.length_append, List.length_append, List.length_replicate]
      rw [show lv.length + (b - lv.length) = b by omega]; exact hb2
    · intro p q hq
      rcases Nat.lt_or_ge p lv.length with z | z
      · rw [List.getElem?_append_left z] at hq; exact g2 p q hq
      · rw [List.getElem?_append_right z] at hq
        obtain ⟨w1, w2⟩ := List.getElem?_eq_some_iff.mp hq
        rw [List.getElem_replicate] at w2
        rw [List.length_replicate] at w1
        exact ⟨lv.length, b, z, by omega, a3, w2.symm, a2⟩
    · rw [tele_app, g3, tele_rep, List.length_append, List.length_replicate, Nat.zero_add, show lv.length + (b - lv.length) = b by omega, slo_mul (h.inc _ _ a1 a3)]
      grind
end

/-! ### marks, and the law's levels -/
section
variable {zs : List P2} {n : Nat}
@[simp] theorem len_bu (ys : List P2) : gLen [buD ys] = some (.int (ys.length : Int)) := by simp [buD]
theorem marks_comp (h : Pz zs n) {b : Option D} (s : S) : compL (tgName 2) cYes (cCall 2 f_slope (cCons (cOp gIx (cVar 1) (cVar 2)) (cCons (cOp gIx (cVar 1) (cOp gAdd (cVar 2) (cC (.int 1)))) cNil))) [b, some (.lst (zs.map encB)), none] ((List.range n).map fun (i : Nat) => D.int (i : Int)) s
    = .ok ((List.range n).map fun i => frD (sq zs i (i + 1))) s := by
  refine comp_map (e := fun i => frD (sq zs i (i + 1))) fun i hi => ?_
  have hi := List.mem_range.mp hi
  refine ⟨_, rfl, fun s => ?_⟩
  have p1 : atI (zs.map encB) (i : Int) = some (encB (pz zs i)) := by rw [at_nat]; exact h.at (by omega)
  have p2 : atI (zs.map encB) ((i : Int) + 1) = some (encB (pz zs (i + 1))) := by
    rw [show (i : Int) + 1 = ((i + 1 : Nat) : Int) by omega, at_nat]; exact h.at (by omega)
  have sl := slope_is h (show i < i + 1 by omega) (show i + 1 ≤ n by omega) s
  simp [p1, p2, sl, -at_nat]
theorem marks_of_is {ys : List P2} (v : VU ys) (s : S) : f_marks_of [buD ys] s = .ok (.lst (((List.range ys.length).map fun i => frD (sq (pts ys) i (i + 1))).reverse)) s := by
  have h := pts_ok v
  have n5 := v.len5
  have r1 := g_r1 ys.length (by omega)
  have st := stair_is v s
  have c := marks_comp h (b := some (buD ys)) s
  generalize pts ys = zs at *
  have hl : ys.length ≤ 100000 := by omega
  have hl2 : ((List.range ys.length).map fun (i : Nat) => D.int (i : Int)).length ≤ 100000 := by simpa using hl
  rw [upto0] at r1
  have e : b_marks_of [some (buD ys), none, none] s = (cRet (cUn gRev (cLc [2] (cItA gR1 (cCons (cB gLen (cCons (cVar 0) cNil)) cNil)) (tgName 2) cYes (cCall 2 f_slope (cCons (cOp gIx (cVar 1) (cVar 2)) (cCons (cOp gIx (cVar 1) (cOp gAdd (cVar 2) (cC (D.int 1)))) cNil)))))) [some (buD ys), some (.lst (zs.map encB)), none] s := by
    show ((Out.bind (f_stair [buD ys] s) fun d s1 => .ok (Fl.next [some (buD ys), some d, none]) s1).bind fun fl s1 => match fl with | .next δ' => (cRet (cUn gRev (cLc [2] (cItA gR1 (cCons (cB gLen (cCons (cVar 0) cNil)) cNil)) (tgName 2) cYes (cCall 2 f_slope (cCons (cOp gIx (cVar 1) (cVar 2)) (cCons (cOp gIx (cVar 1) (cOp gAdd (cVar 2) (cC (D.int 1)))) cNil)))))) δ' s1 | fl => .ok fl s1) = _
    rw [st, bind_ok, bind_ok]
  rw [u_marks_of, e, e_ret, e_un, e_lc, e_itA, e_cons, e_b, e_cons, e_var, List.getElem?_cons_zero, Option.join_some, lift_some, bind_ok, e_nil, bind_ok, bind_ok, len_bu, lift_some, bind_ok, e_nil, bind_ok, bind_ok, r1, lift_some, bind_ok, if_pos hl2]
  rw [show wipeD [some (buD ys), some (D.lst (zs.map encB)), none] [2] = [some (buD ys), some (D.lst (zs.map encB)), none] from rfl, c]
  rw [bind_ok, bind_ok, g_revL, lift_some, bind_ok, bind_ok, ed_ret]
theorem marks_is {ys : List P2} (v : VU ys) (s : S) : f_marks [buD ys] s = .ok (.lst (((List.range ys.length).map fun i => frD (sq (pts ys) i (i + 1))).reverse)) s := by
  rw [u_marks]; unfold b_marks
  simp [need_buyer_is v, marks_of_is v]
theorem levels_is {ys : List P2} (v : VU ys) (s : S) : f_levels [buD ys] s = f_levels_of [buD ys] s := by
  rw [u_levels]; unfold b_levels
  simp [need_buyer_is v]
  cases f_levels_of [buD ys] s <;> simp
def pvl (x : P2) : Rat := Rat.divInt x.1 x.2
def OkP (x : P2) : Prop := 0 < x.2 ∧ x.2 < 2 ^ 40 ∧ Bd 90 x.1
theorem law_less_is {x y : P2} (hx : OkP x) (hy : OkP y) (s : S) : f__law_less [encB x, encB y] s = .ok (.bl (decide (pvl x < pvl y))) s := by
  have e : decide (pvl x < pvl y) = decide (x.1 * y.2 < y.1 * x.2) := by unfold pvl; simp [q_lt hx.1 hy.1]
  have b1 : Bd 90 x.2 := by have := hx.1; have := hx.2.1; unfold Bd; omega
  have b2 : Bd 90 y.2 := by have := hy.1; have := hy.2.1; unfold Bd; omega
  rw [u__law_less]; unfold b__law_less encB
  simp [g_mul hx.2.2 b2 (by decide), g_mul hy.2.2 b1 (by decide), e]
def rise (zs : List P2) (i j : Nat) : P2 := ((pz zs j).2 - (pz zs i).2, (pz zs j).1 - (pz zs i).1)
theorem rise_ok (h : Pz zs n) {i j : Nat} (hij : i < j) (hj : j ≤ n) : OkP (rise zs i j) ∧ pvl (rise zs i j) = sq zs i j :=
  ⟨⟨(h.dif hij hj).1, (h.dif hij hj).2.1, (h.dif hij hj).2.2⟩, sq_eq zs i j⟩
def encO : Option P2 → D | none => .non | some x => encB x
@[simp] theorem isN_enc (o : Option P2) : isNonB (encO o) = o.isNone := by cases o <;> rfl
theorem law_most (h : Pz zs n) {p a : Nat} (ha : a ≤ p) (hp : p < n) {bd fo le : Option D} (le0 : Option D) (s : S) {w8 w7 : Option D} :
    ∃ w d e, forL (tgName 7) l1__law_levels ((List.range (n - p)).map fun (i : Nat) => D.int ((p : Int) + 1 + (i : Int))) [bd, some (.lst (zs.map encB)), fo, some (.int (p : Int)), le, some (.int (a : Int)), some .non, w7, w8] s
      = .ok (.next [bd, some (.lst (zs.map encB)), fo, some (.int (p : Int)), le, some (.int (a : Int)), some (encB w), d, e]) s ∧ OkP w ∧ (∃ b, p < b ∧ b ≤ n ∧ pvl w = sq zs a b) ∧ ∀ b, p < b → b ≤ n → sq zs a b ≤ pvl w := by
  have key := for_inv (tg := tgName 7) (F := l1__law_levels) (enc := fun (i : Nat) => D.int ((p : Int) + 1 + (i : Int))) (xs := List.range (n - p))
    (fun pre δ s' => s' = s ∧ ∃ o d e, δ = [bd, some (.lst (zs.map encB)), fo, some (.int (p : Int)), le, some (.int (a : Int)), some (encO o), d, e] ∧ (o = none ↔ pre = []) ∧ ∀ w, o = some w → OkP w ∧ (∃ b, p < b ∧ b ≤ n ∧ pvl w = sq zs a b) ∧ ∀ b, p < b → b ≤ p + pre.length → sq zs a b ≤ pvl w)
    (δ := [bd, some (.lst (zs.map encB)), fo, some (.int (p : Int)), le, some (.int (a : Int)), some .non, w7, w8]) (s := s) ⟨rfl, none, w7, w8, rfl, by simp, by simp⟩ ?_
  · obtain ⟨δ', s', h1, rfl, o, d, e, rfl, g1, g2⟩ := key
    cases o with
    | none => have := g1.mp rfl; simp at this; omega
    | some w =>
      obtain ⟨k1, k2, k3⟩ := g2 w rfl
      refine ⟨w, d, e, h1, k1, k2, fun b b1 b2 => k3 b b1 (by simp; omega)⟩
  · rintro pre x post δ s' e ⟨rfl, o, d, e', rfl, g1, g2⟩
    obtain ⟨hx, hpl⟩ := range_split e
    subst hx
    have hb : p + 1 + pre.length ≤ n := by omega
    have hab : a < p + 1 + pre.length := by omega
    have ro := rise_ok h hab hb
    have c1 : ((p : Int) + 1 + (pre.length : Int)) = ((p + 1 + pre.length : Nat) : Int) := by omega
    have p1 : atI (zs.map encB) ((p : Int) + 1 + (pre.length : Int)) = some (encB (pz zs (p + 1 + pre.length))) := by rw [c1, at_nat]; exact h.at hb
    have p2 : atI (zs.map encB) (a : Int) = some (encB (pz zs a)) := by rw [at_nat]; exact h.at (by omega)
    have step : ∀ w, (o = none ∨ (∃ u, o = some u ∧ pvl u < pvl (rise zs a (p + 1 + pre.length)))) ∧ w = rise zs a (p + 1 + pre.length) ∨ (o = some w ∧ ¬ pvl w < pvl (rise zs a (p + 1 + pre.length))) →
        l1__law_levels [bd, some (.lst (zs.map encB)), fo, some (.int (p : Int)), le, some (.int (a : Int)), some (encO o), some (.int ((p : Int) + 1 + (pre.length : Int))), e'] s' = .ok (.next [bd, some (.lst (zs.map encB)), fo, some (.int (p : Int)), le, some (.int (a : Int)), some (encB w), some (.int ((p : Int) + 1 + (pre.length : Int))), some (encB (rise zs a (p + 1 + pre.length)))]) s' := by
      intro w hw
      unfold l1__law_levels
      have er : encB (rise zs a (p + 1 + pre.length)) = .tup [.int ((pz zs (p + 1 + pre.length)).2 - (pz zs a).2), .int ((pz zs (p + 1 + pre.length)).1 - (pz zs a).1)] := rfl
      simp [p1, p2, encB, -at_nat]
      cases o with
      | none =>
        rcases hw with ⟨_, rfl⟩ | ⟨z, _⟩
        · simp [encO, rise]
        · cases z
      | some u =>
        have hl := law_less_is (g2 u rfl).1 ro.1 s'
        rw [er] at hl
        rcases hw with ⟨z, rfl⟩ | ⟨z, z2⟩
        · rcases z with z | ⟨u', z, z2⟩
          · cases z
          · cases z
            simp [encO, hl, z2]
            simp [rise, encB]
        · cases z
          simp [encO, hl, z2]
          simp [rise, encB]
    by_cases ho : o = none ∨ ∃ u, o = some u ∧ pvl u < pvl (rise zs a (p + 1 + pre.length))
    · refine ⟨_, _, s', rfl, step (rise zs a (p + 1 + pre.length)) (.inl ⟨ho, rfl⟩), rfl, some (rise zs a (p + 1 + pre.length)), _, _, rfl, by simp, fun w hw => ?_⟩
      cases hw
      refine ⟨ro.1, ⟨_, by omega, hb, ro.2⟩, fun b b1 b2 => ?_⟩
      rw [ro.2] at ho ⊢
      rcases Nat.lt_or_ge b (p + 1 + pre.length) with z | z
      · rcases ho with w | ⟨u, w, w2⟩
        · have := g1.mp w; subst this; simp at z; omega
        · have := (g2 u w).2.2 b b1 (by omega)
          grind
      · have : b = p + 1 + pre.length := by simp at b2; omega
        subst this; exact Rat.le_refl
    · cases o with
      | none => exact absurd (.inl rfl) ho
      | some u =>
        have z2 : ¬ pvl u < pvl (rise zs a (p + 1 + pre.length)) := fun w => ho (.inr ⟨u, rfl, w⟩)
        refine ⟨_, _, s', rfl, step u (.inr ⟨rfl, z2⟩), rfl, some u, _, _, rfl, by simp, fun w hw => ?_⟩
        cases hw
        obtain ⟨k1, k2, k3⟩ := g2 u rfl
        refine ⟨k1, k2, fun b b1 b2 => ?_⟩
        rcases Nat.lt_or_ge b (p + 1 + pre.length) with z | z
        · exact k3 b b1 (by omega)
        · have : b = p + 1 + pre.length := by simp at b2; omega
          subst this
          rw [ro.2] at z2; exact Rat.not_lt.mp z2
end

/-! ### the law's levels: least of the greatest -/
section
variable {zs : List P2} {n : Nat}
theorem law_least (h : Pz zs n) {p : Nat} (hp : p < n) {bd fo : Option D} {w5 w6 w7 w8 : Option D} (s : S) :
    ∃ w d e f g, forL (tgName 5) l2__law_levels ((List.range (p + 1)).map fun (i : Nat) => D.int (i : Int)) [bd, some (.lst (zs.map encB)), fo, some (.int (p : Int)), some .non, w5, w6, w7, w8] s
      = .ok (.next [bd, some (.lst (zs.map encB)), fo, some (.int (p : Int)), some (encB w), d, e, f, g]) s ∧ OkP w ∧ MinMax (xq zs) (yq zs) n p (pvl w) := by
  have n5 := h.n5
  have key := for_inv (tg := tgName 5) (F := l2__law_levels) (enc := fun (i : Nat) => D.int (i : Int)) (xs := List.range (p + 1))
    (fun pre δ s' => s' = s ∧ ∃ o d e f g, δ = [bd, some (.lst (zs.map encB)), fo, some (.int (p : Int)), some (encO o), d, e, f, g] ∧ (o = none ↔ pre = []) ∧ ∀ w, o = some w → OkP w ∧ (∃ a, a ≤ p ∧ ∀ b, p < b → b ≤ n → sq zs a b ≤ pvl w) ∧ ∀ a, a < pre.length → ∃ b, p < b ∧ b ≤ n ∧ pvl w ≤ sq zs a b)
    (δ := [bd, some (.lst (zs.map encB)), fo, some (.int (p : Int)), some .non, w5, w6, w7, w8]) (s := s) ⟨rfl, none, w5, w6, w7, w8, rfl, by simp, by simp⟩ ?_
  · obtain ⟨δ', s', h1, rfl, o, d, e, f, g, rfl, g1, g2⟩ := key
    cases o with
    | none => have := g1.mp rfl; simp at this
    | some w =>
      obtain ⟨k1, k2, k3⟩ := g2 w rfl
      exact ⟨w, d, e, f, g, h1, k1, k2, fun a ha => k3 a (by simp; omega)⟩
  · rintro pre x post δ s' e ⟨rfl, o, d, e', f, g, rfl, g1, g2⟩
    obtain ⟨hx, hpl⟩ := range_split e
    subst hx
    have lenz : ((zs.map encB).length : Int) = ((n + 1 : Nat) : Int) := by simp [h.len]
    have r2 : gR2 [.int ((p : Int) + 1), .int ((zs.length : Nat) : Int)] = some ((List.range (n - p)).map fun (i : Nat) => D.int ((p : Int) + 1 + (i : Int))) := by
      rw [h.len, g_r2 _ _ (by omega), upto_map, show (((n + 1 : Nat) : Int) - ((p : Int) + 1)).toNat = n - p by omega]
    obtain ⟨u, d2, e2, m1, m2, ⟨b0, m3, m4, m5⟩, m6⟩ := law_most h (a := pre.length) (p := p) (by omega) hp (bd := bd) (fo := fo) (le := some (encO o)) none s' (w7 := f) (w8 := g)
    have step : ∀ w, (o = none ∨ (∃ v, o = some v ∧ pvl u < pvl v)) ∧ w = u ∨ (o = some w ∧ ¬ pvl u < pvl w) →
        l2__law_levels [bd, some (.lst (zs.map encB)), fo, some (.int (p : Int)), some (encO o), some (.int (pre.length : Int)), e', f, g] s' = .ok (.next [bd, some (.lst (zs.map encB)), fo, some (.int (p : Int)), some (encB w), some (.int (pre.length : Int)), some (encB u), d2, e2]) s' := by
      intro w hw
      unfold l2__law_levels
      simp -implicitDefEqProofs [r2, m1]
      cases o with
      | none =>
        rcases hw with ⟨_, rfl⟩ | ⟨z, _⟩
        · simp [encO]
        · cases z
      | some v =>
        have hl := law_less_is m2 (g2 v rfl).1 s'
        rcases hw with ⟨z, rfl⟩ | ⟨z, z2⟩
        · rcases z with z | ⟨u', z, z2⟩
          · cases z
          · cases z
            simp [encO, hl, z2]
        · cases z
          simp [encO, hl, z2]
    by_cases ho : o = none ∨ ∃ v, o = some v ∧ pvl u < pvl v
    · refine ⟨_, _, s', rfl, step u (.inl ⟨ho, rfl⟩), rfl, some u, _, _, _, _, rfl, by simp, fun w hw => ?_⟩
      cases hw
      refine ⟨m2, ⟨pre.length, by omega, m6⟩, fun a ha => ?_⟩
      rcases Nat.lt_or_ge a pre.length with z | z
      · rcases ho with w | ⟨v, w, w2⟩
        · have := g1.mp w; subst this; simp at z
        · obtain ⟨b, b1, b2, b3⟩ := (g2 v w).2.2 a z
          exact ⟨b, b1, b2, by grind⟩
      · have : a = pre.length := by simp at ha; omega
        subst this
        exact ⟨b0, m3, m4, by rw [m5]; exact Rat.le_refl⟩
    · cases o with
      | none => exact absurd (.inl rfl) ho
      | some v =>
        have z2 : ¬ pvl u < pvl v := fun w => ho (.inr ⟨v, rfl, w⟩)
        refine ⟨_, _, s', rfl, step v (.inr ⟨rfl, z2⟩), rfl, some v, _, _, _, _, rfl, by simp, fun w hw => ?_⟩
        cases hw
        obtain ⟨k1, k2, k3⟩ := g2 v rfl
        refine ⟨k1, k2, fun a ha => ?_⟩
        rcases Nat.lt_or_ge a pre.length with z | z
        · exact k3 a z
        · have : a = pre.length := by simp at ha; omega
          subst this
          exact ⟨b0, m3, m4, by rw [← m5]; exact Rat.not_lt.mp z2⟩
structure Dues (zs : List P2) (n : Nat) (ws : List P2) : Prop where
  len : ws.length = n
  ok : ∀ p w, ws[p]? = some w → OkP w ∧ MinMax (xq zs) (yq zs) n p (pvl w)
theorem law_levels_is {ys : List P2} (v : VU ys) (s : S) : ∃ ws, Dues (pts ys) ys.length ws ∧ f__law_levels [buD ys] s = .ok (.lst (ws.map encB).reverse) s := by
  have h := pts_ok v
  have n5 := v.len5
  have hst := law_stair_is v s
  generalize pts ys = zs at *
  have key := for_inv (tg := tgName 3) (F := l3__law_levels) (enc := fun (i : Nat) => D.int (i : Int)) (xs := List.range ys.length)
    (fun pre δ s' => s' = s ∧ ∃ ws c d e f g i, δ = [some (buD ys), some (.lst (zs.map encB)), some (.lst (ws.map encB)), c, d, e, f, g, i] ∧ ws.length = pre.length ∧ ∀ p w, ws[p]? = some w → OkP w ∧ MinMax (xq zs) (yq zs) ys.length p (pvl w))
    (δ := [some (buD ys), some (.lst (zs.map encB)), some (.lst []), none, none, none, none, none, none]) (s := s) ⟨rfl, [], none, none, none, none, none, none, rfl, rfl, by simp⟩ ?_
  · obtain ⟨δ', s', h1, rfl, ws, c, d, e, f, g, i, rfl, g1, g2⟩ := key
    refine ⟨ws, ⟨by simpa using g1, g2⟩, ?_⟩
    have r1 := g_r1 ys.length (by omega)
    rw [upto0] at r1
    rw [u__law_levels]; unfold b__law_levels
    simp -implicitDefEqProofs [hst, r1]
    rw [h1]; simp
  · rintro pre x post δ s' e ⟨rfl, ws, c, d, e', f, g, i, rfl, g1, g2⟩
    obtain ⟨hx, hpl⟩ := range_split e
    subst hx
    obtain ⟨w, d2, e2, f2, i2, m1, m2, m3⟩ := law_least h (p := pre.length) hpl (bd := some (buD ys)) (fo := some (.lst (ws.map encB))) (w5 := e') (w6 := f) (w7 := g) (w8 := i) s'
    have r1 : gR1 [.int ((pre.length : Int) + 1)] = some ((List.range (pre.length + 1)).map fun (i : Nat) => D.int (i : Int)) := by
      have := g_r1 (pre.length + 1) (by omega)
      rw [upto0] at this
      exact this
    refine ⟨_, [some (buD ys), some (.lst (zs.map encB)), some (.lst ((ws ++ [w]).map encB)), some (.int (pre.length : Int)), some (encB w), d2, e2, f2, i2], s', rfl, ?_, rfl, ws ++ [w], _, _, _, _, _, _, rfl, by simp; omega, fun p q hq => ?_⟩
    · unfold l3__law_levels
      simp -implicitDefEqProofs [r1, m1, show ws.length < 100000 by omega]
    · rcases Nat.lt_trichotomy p ws.length with z | z | z
      · rw [List.getElem?_append_left z] at hq; exact g2 p q hq
      · subst z
        simp at hq; subst hq
        rw [g1]; exact ⟨m2, m3⟩
      · have := (List.getElem?_eq_some_iff.mp hq).1
        simp at this; omega
end

/-! ### the draw of a buyer -/
theorem draw_is (s : S) {m : Int} (h0 : 0 < m) (h1 : m < 1073741824) : ∃ v s', 0 ≤ v ∧ v < m ∧ drawF [.row, .int m] s = .ok (.int v) s' :=
  ⟨(draw s m).1, (draw s m).2, (draw_lt s h0).1, (draw_lt s h0).2, by show (if 0 < m ∧ m < 1073741824 then _ else _) = _; rw [if_pos ⟨h0, h1⟩]⟩
theorem pick4 {a b c d v : Int} (h0 : 0 ≤ v) (h1 : v < 4) : ∃ m, atI [D.int a, D.int b, D.int c, D.int d] v = some (.int m) ∧ (m = a ∨ m = b ∨ m = c ∨ m = d) := by
  have : v = 0 ∨ v = 1 ∨ v = 2 ∨ v = 3 := by omega
  rcases this with rfl | rfl | rfl | rfl
  · exact ⟨a, rfl, by simp⟩
  · exact ⟨b, rfl, by simp⟩
  · exact ⟨c, rfl, by simp⟩
  · exact ⟨d, rfl, by simp⟩
theorem pow6 : gPow (.int 10) (.int 6) = some (.int 1000000) := g_pow 10 6
theorem pow8 : gPow (.int 10) (.int 8) = some (.int 100000000) := g_pow 10 8
theorem law_buyer_is (s : S) : ∃ ys s', VU ys ∧ f__law_buyer [.row, .int 5] s = .ok (buD ys) s' := by
  obtain ⟨w0, s1, a1, a2, a3⟩ := draw_is s (m := 4) (by omega) (by omega)
  obtain ⟨c0, s2, b1, b2, b3⟩ := draw_is s1 (m := 4) (by omega) (by omega)
  obtain ⟨st, p1, p2⟩ := pick4 (a := 1) (b := 3) (c := 9) (d := 1000000) b1 b2
  obtain ⟨k, s3, k1, k2, k3⟩ := draw_is s2 (m := 5) (by omega) (by omega)
  have hst : 0 < st ∧ st ≤ 1000000 := by omega
  have key := for_inv (tg := tgName 5) (F := l1__law_buyer) (enc := fun (i : Nat) => D.int (i : Int)) (xs := List.range (k.toNat + 1))
    (fun pre δ s' => ∃ (ys : List P2) (w : Int) (d : Option D), δ = [some .row, some (.int 5), some (.int w), some (.lst (ys.map encB)), some (.int st), d] ∧ ys.length = pre.length ∧ (∀ y ∈ ys, 0 ≤ y.1 ∧ y.1 < w ∧ 1 ≤ y.2 ∧ y.2 ≤ 1000000000) ∧ ys.Pairwise (fun a b => a.1 < b.1) ∧ 0 ≤ w ∧ w ≤ 3 + 1000000 * pre.length)
    (δ := [some .row, some (.int 5), some (.int w0), some (.lst []), some (.int st), none]) (s := s3) ⟨[], w0, none, rfl, rfl, by simp, by simp, a1, by simp; omega⟩ ?_
  · obtain ⟨δ', s', h1, ys, w, d, rfl, g1, g2, g3, g4, g5⟩ := key
    rw [List.length_range] at g1 g5
    refine ⟨ys, s', ⟨by omega, by omega, fun y hy => ?_, g3⟩, ?_⟩
    · have := g2 y hy
      omega
    · have r1 : gR1 [.int (1 + k)] = some ((List.range (k.toNat + 1)).map fun (i : Nat) => D.int (i : Int)) := by
        have := g_r1 (k.toNat + 1) (by omega)
        rw [upto0] at this
        rw [show (1 + k) = ((k.toNat + 1 : Nat) : Int) by omega]; exact this
      rw [u__law_buyer]; unfold b__law_buyer
      simp -implicitDefEqProofs [a3, b3, k3, p1, pow6, r1]
      rw [h1]; simp [buD]
  · rintro pre x post δ s' e ⟨ys, w, d, rfl, g1, g2, g3, g4, g5⟩
    obtain ⟨hx, hpl⟩ := range_split e
    obtain ⟨c1, t1, q1, q2, q3⟩ := draw_is s' (m := 4) (by omega) (by omega)
    obtain ⟨m, r1, r2⟩ := pick4 (a := 1) (b := 3) (c := 9) (d := 100000000) q1 q2
    have hm : 0 < m ∧ m ≤ 100000000 := by omega
    obtain ⟨u, t2, u1, u2, u3⟩ := draw_is t1 (m := m) (by omega) (by omega)
    obtain ⟨z, t3, z1, z2, z3⟩ := draw_is t2 (m := st) (by omega) (by omega)
    refine ⟨_, [some .row, some (.int 5), some (.int (w + 1 + z)), some (.lst ((ys ++ [(w, 1 + u)]).map encB)), some (.int st), some (.int (x : Int))], t3, rfl, ?_, ys ++ [(w, 1 + u)], w + 1 + z, _, rfl, by simp; omega, ?_, ?_, by omega, by simp; omega⟩
    · unfold l1__law_buyer
      simp -implicitDefEqProofs [q3, r1, u3, z3, pow8, encB, show ys.length < 100000 by omega]
    · intro y hy
      rcases List.mem_append.mp hy with q | q
      · have := g2 y q
        omega
      · have : y = (w, 1 + u) := by simpa using q
        subst this
        exact ⟨g4, by show w < w + 1 + z; omega, by show 1 ≤ 1 + u; omega, by show 1 + u ≤ _; omega⟩
    · refine List.pairwise_append.mpr ⟨g3, by simp, fun a ha b hb => ?_⟩
      have : b = (w, 1 + u) := by simpa using hb
      subst this
      exact (g2 a ha).2.1

/-! ### stretches -/
open Classical in
noncomputable def stF (L : List Rat) : Nat → List P2
  | 0 => []
  | i + 1 => if 0 < i ∧ L[i - 1]? = L[i]? then (stF L i).set ((stF L i).length - 1) (((stF L i).getLastD (0, 0)).1, (i : Int)) else stF L i ++ [((i : Int), (i : Int))]
theorem stF_ne (L : List Rat) : ∀ i, (i = 0 ∨ stF L i ≠ []) ∧ (stF L i).length ≤ i
  | 0 => ⟨.inl rfl, by simp [stF]⟩
  | i + 1 => by
    have ih := stF_ne L i
    unfold stF
    split
    · rename_i h
      refine ⟨.inr ?_, by rw [List.length_set]; omega⟩
      rcases ih.1 with z | z
      · omega
      · intro w
        exact z (by simpa using w)
    · exact ⟨.inr (by simp), by simp; omega⟩
theorem e_put {δ : En} {s : S} (i) (fi f : En → M D) : cPut i fi f δ s = (lift (ownL δ i) s).bind fun ds s0 => (f δ s0).bind fun d s1 => (fi δ s1).bind fun k s2 => (lift (asI k) s2).bind fun j s3 => (lift (ixN ds.length j) s3).bind fun m s4 => .ok (.next (δ.set i (some (.lst (ds.set m d))))) s4 := rfl
theorem frD_inj {p q : Rat} (h : frD p = frD q) : p = q := by
  unfold frD at h
  simp at h
  exact Rat.ext h.1 (by omega)
theorem frD_sm (q : Rat) : Sm 60 (frD q) := by simp [frD, Sm, Sms]
open Classical in
theorem eq_fr (p q : Rat) : gEq (frD p) (frD q) = some (.bl (decide (p = q))) := by
  rw [gEq_sm (frD_sm p) (frD_sm q)]
  congr 2
  by_cases h : p = q
  · simp [h]
  · have : ¬ frD p = frD q := fun z => h (frD_inj z)
    simp [h, this]
theorem ixN_last {n : Nat} (h : 0 < n) : ixN n (-1) = some (n - 1) := by
  unfold ixN
  rw [if_neg (by omega), if_pos (by omega)]
  congr 1; omega
theorem set_encB (l : List P2) (i : Nat) (x : P2) : (l.map encB).set i (encB x) = (l.set i x).map encB := by rw [List.map_set]
theorem last_encB {l : List P2} (h : l ≠ []) : atI (l.map encB) (-1) = some (encB (l.getLastD (0, 0))) := by
  rw [at_m1]
  rcases List.eq_nil_or_concat l with z | ⟨m, a, z⟩
  · exact absurd z h
  · subst z; simp
theorem stretches_is {ys : List P2} (v : VU ys) {fl : List Rat} (hfl : fl.length = ys.length) (s : S) (hl : f_levels_of [buD ys] s = .ok (.lst (fl.map frD)) s) : f_stretches [buD ys] s = .ok (.lst ((stF fl fl.length).map encB)) s := by
  have n5 := v.len5
  have key := for_inv (tg := tgTup 2 (tgCons (tgName 3) (tgCons (tgName 4) tgNil))) (F := l1_stretches) (enc := fun i => .tup [D.int ((i : Nat) : Int), frD (fl.getD i 0)]) (xs := List.range fl.length)
    (fun pre δ s' => s' = s ∧ ∃ (d e : Option D), δ = [some (buD ys), some (.lst (fl.map frD)), some (.lst ((stF fl pre.length).map encB)), d, e])
    (δ := [some (buD ys), some (.lst (fl.map frD)), some (.lst []), none, none]) (s := s) ⟨rfl, none, none, rfl⟩ ?_
  · obtain ⟨δ', s', h1, rfl, d, e, rfl⟩ := key
    rw [List.length_range] at h1
    have en : enumD (fl.map frD) = (List.range fl.length).map fun i => .tup [D.int ((i : Nat) : Int), frD (fl.getD i 0)] := by
      unfold enumD
      rw [List.length_map]
      refine List.map_congr_left fun i hi => ?_
      have hi := List.mem_range.mp hi
      simp [List.getD_eq_getElem?_getD, hi]
    rw [u_stretches]; unfold b_stretches
    simp -implicitDefEqProofs [need_buyer_is v, hl, en]
    simp at h1
    rw [h1]; simp
  · rintro pre x post δ s' e ⟨rfl, d, e', rfl⟩
    obtain ⟨hx, hpl⟩ := range_split e
    subst hx
    have hne := stF_ne fl pre.length
    have lvl : fl[pre.length]? = some (fl.getD pre.length 0) := by simp [List.getD_eq_getElem?_getD, hpl]
    refine ⟨_, [some (buD ys), some (.lst (fl.map frD)), some (.lst ((stF fl (pre.length + 1)).map encB)), some (.int (pre.length : Int)), some (frD (fl.getD pre.length 0))], s', rfl, ?_, rfl, some (.int (pre.length : Int)), some (frD (fl.getD pre.length 0)), by simp⟩
    show l1_stretches [some (buD ys), some (.lst (fl.map frD)), some (.lst ((stF fl pre.length).map encB)), some (.int (pre.length : Int)), some (frD (fl.getD pre.length 0))] s' = _
    generalize fl.getD pre.length 0 = qa at *
    by_cases h0 : 0 < pre.length
    · have e1 : atI (fl.map frD) ((pre.length : Int) - 1) = some (frD (fl.getD (pre.length - 1) 0)) := by
        rw [show (pre.length : Int) - 1 = ((pre.length - 1 : Nat) : Int) by omega, at_nat]
        simp [List.getD_eq_getElem?_getD, show pre.length - 1 < fl.length by omega]
      have lv0 : fl[pre.length - 1]? = some (fl.getD (pre.length - 1) 0) := by simp [List.getD_eq_getElem?_getD, show pre.length - 1 < fl.length by omega]
      generalize fl.getD (pre.length - 1) 0 = qb at *
      have hn : stF fl pre.length ≠ [] := hne.1.resolve_left (by omega)
      have hln : 0 < (stF fl pre.length).length := List.length_pos_iff.mpr hn
      have la := last_encB hn
      have ix := ixN_last hln
      by_cases hq : qb = qa
      · have st : stF fl (pre.length + 1) = (stF fl pre.length).set ((stF fl pre.length).length - 1) (((stF fl pre.length).getLastD (0, 0)).1, (pre.length : Int)) := by
          conv => lhs; unfold stF
          rw [if_pos ⟨h0, by rw [lv0, lvl, hq]⟩]
        rw [st, ← set_encB]
        unfold l1_stretches
        simp -implicitDefEqProofs [e1, eq_fr, hq, h0, e_put, la, ix, encB, PV.scal, -at_nat]
      · have st : stF fl (pre.length + 1) = stF fl pre.length ++ [((pre.length : Int), (pre.length : Int))] := by
          conv => lhs; unfold stF
          rw [if_neg (fun z => hq (by rw [lv0, lvl] at z; exact Option.some.inj z.2))]
        rw [st]
        unfold l1_stretches
        simp -implicitDefEqProofs [e1, eq_fr, hq, h0, encB, -at_nat, show (stF fl pre.length).length < 100000 by omega]
    · have p0 : pre = [] := List.eq_nil_of_length_eq_zero (by omega)
      subst p0
      unfold l1_stretches
      simp -implicitDefEqProofs [stF, encB]

/-! ### the law's own loops -/
theorem law_is_is {q : Rat} {o u : Int} (s : S) (hu : 0 < u) (h1 : Bd 400000 q.num) (h2 : Bd 400000 (q.den : Int)) (h3 : Bd 400000 o) (h4 : Bd 400000 u) (hd : (q.den : Int) < 2 ^ 70) : f__law_is [frD q, .int o, .int u] s = .ok (.bl (decide (q = Rat.divInt o u))) s := by
  have hden := q.den_pos
  have hg : Int.gcd q.num (q.den : Int) = 1 := by
    have := q.reduced
    simpa [Int.gcd, Nat.Coprime] using this
  have e1 := law_gcd_is (L := 140) (a := q.num) (b := (q.den : Int)) s (by omega) hd (by decide)
  have e2 : decide (q = Rat.divInt o u) = decide (q.num * u = o * q.den) := by
    have : q = Rat.divInt o u ↔ q.num * u = o * q.den := by
      conv => lhs; lhs; rw [← q_self q]
      exact q_eq (by omega) hu
    simp [this]
  rw [hg] at e1
  rw [u__law_is]; unfold b__law_is frD
  simp [show ¬ ((q.den : Int) < 1) by omega, g_mul h1 h4 (by decide), g_mul h3 h2 (by decide), e2]
  by_cases z : q.num * u = o * q.den <;> simp [z, e1]
abbrev EnL (t b p T pl fl du at' o ot r w to ov un hi lo so : Option D) : En := [none, some .row, t, b, p, T, none, none, pl, fl, du, at', o, ot, r, w, to, ov, un, hi, lo, so]
theorem rev_at {α : Type} {l : List α} {i : Nat} (h : i < l.length) : l.reverse[i]? = l[l.length - 1 - i]? := List.getElem?_reverse h
/-- what is known of a list of fractions, each the slope of a line over the stair -/
structure Frs (zs : List P2) (n : Nat) (qs : List Rat) : Prop where
  len : qs.length = n
  bd : ∀ (p : Nat) (q : Rat), qs[p]? = some q → Bd 400000 q.num ∧ Bd 400000 (q.den : Int) ∧ (q.den : Int) < 2 ^ 40 ∧ Bd 90 q.num
  sum : tele zs 0 qs = yq zs n - yq zs 0
section
variable {zs : List P2} {n : Nat}
theorem Levs.frs (h : Pz zs n) {lv : List Rat} (l : Levs zs n lv) : Frs zs n lv := ⟨l.len, fun p q e => by
  obtain ⟨i, j, h1, h2, h3, rfl, _⟩ := l.ok p q e
  exact h.bd (by omega) h3, l.sum⟩
theorem tele_mk (h : Pz zs n) : ∀ (k i : Nat), i + k ≤ n → tele zs i ((List.range' i k).map fun i => sq zs i (i + 1)) = yq zs (i + k) - yq zs i
  | 0, i, _ => by simp [tele]; grind
  | k + 1, i, hk => by
    rw [List.range'_succ, List.map_cons, tele, tele_mk h k (i + 1) (by omega)]
    have := slo_mul (x := xq zs) (y := yq zs) (i := i) (j := i + 1) (h.inc i (i + 1) (by omega) (by omega))
    rw [show i + (k + 1) = i + 1 + k by omega]
    unfold sq
    rw [this]; grind
theorem marks_frs (h : Pz zs n) : Frs zs n ((List.range n).map fun i => sq zs i (i + 1)) := by
  refine ⟨by simp, fun p q e => ?_, ?_⟩
  · rw [List.getElem?_map] at e
    obtain ⟨j, h1, h2⟩ := Option.map_eq_some_iff.mp e
    obtain ⟨h3, h4⟩ := List.getElem?_eq_some_iff.mp h1
    rw [List.length_range] at h3
    rw [List.getElem_range] at h4
    subst h4 h2
    exact h.bd (by omega) (by omega)
  · have := tele_mk h n 0 (by omega)
    rw [List.range_eq_range']; simpa using this
theorem law_l1 (h : Pz zs n) {ys : List P2} (hn : ys.length = n) {lv : List Rat} (l : Levs zs n lv) {ws : List P2} (dw : Dues zs n ws) (s : S) {t T o ot r w to ov un hi lo so at' : Option D} :
    ∃ b1 b2 b3 b4 b5, forL (tgName 11) l1_law ((List.range n).map fun (i : Nat) => D.int (i : Int)) (EnL t (some (buD ys)) (some (.lst (zs.map encB))) T (some (.lst (((List.range n).map fun i => frD (sq zs i (i + 1))).reverse))) (some (.lst (lv.map frD).reverse)) (some (.lst (ws.map encB).reverse)) at' o ot r w to ov un hi lo so) s
      = .ok (.next (EnL t (some (buD ys)) (some (.lst (zs.map encB))) T (some (.lst (((List.range n).map fun i => frD (sq zs i (i + 1))).reverse))) (some (.lst (lv.map frD).reverse)) (some (.lst (ws.map encB).reverse)) b1 b2 b3 b4 b5 to ov un hi lo so)) s := by
  have n5 := h.n5
  have key := for_inv (tg := tgName 11) (F := l1_law) (enc := fun (i : Nat) => D.int (i : Int)) (xs := List.range n)
    (fun pre δ s' => s' = s ∧ ∃ at' o ot r w, δ = EnL t (some (buD ys)) (some (.lst (zs.map encB))) T (some (.lst (((List.range n).map fun i => frD (sq zs i (i + 1))).reverse))) (some (.lst (lv.map frD).reverse)) (some (.lst (ws.map encB).reverse)) at' o ot r w to ov un hi lo so)
    (δ := EnL t (some (buD ys)) (some (.lst (zs.map encB))) T (some (.lst (((List.range n).map fun i => frD (sq zs i (i + 1))).reverse))) (some (.lst (lv.map frD).reverse)) (some (.lst (ws.map encB).reverse)) at' o ot r w to ov un hi lo so) (s := s) ⟨rfl, _, _, _, _, _, rfl⟩ ?_
  · obtain ⟨δ', s', h1, rfl, a1, a2, a3, a4, a5, rfl⟩ := key
    exact ⟨a1, a2, a3, a4, a5, h1⟩
  · rintro pre x post δ s' e ⟨rfl, a1, a2, a3, a4, a5, rfl⟩
    obtain ⟨hx, hpl⟩ := range_split e
    clear e
    subst hx
    generalize pre.length = i at *
    have hp : n - 1 - i + 1 = n - i := by omega
    have o1 : atI (zs.map encB) ((n : Int) - (i : Int) - 1) = some (encB (pz zs (n - 1 - i))) := by
      rw [show (n : Int) - (i : Int) - 1 = ((n - 1 - i : Nat) : Int) by omega, at_nat]; exact h.at (by omega)
    have o2 : atI (zs.map encB) ((n : Int) - (i : Int)) = some (encB (pz zs (n - 1 - i + 1))) := by
      rw [show (n : Int) - (i : Int) = ((n - 1 - i + 1 : Nat) : Int) by omega, at_nat]; exact h.at (by omega)
    have p1 : atI (((List.range n).map fun i => frD (sq zs i (i + 1))).reverse) (i : Int) = some (frD (sq zs (n - 1 - i) (n - 1 - i + 1))) := by
      rw [at_nat, rev_at (by simpa using hpl)]
      simp [show n - 1 - i < n by omega]
    have lq : ∀ j, j < n → ∃ q, lv[n - 1 - j]? = some q ∧ atI (lv.map frD).reverse (j : Int) = some (frD q) := fun j hj => by
      have hl := l.len
      refine ⟨lv[n - 1 - j]'(by omega), List.getElem?_eq_getElem (by omega), ?_⟩
      rw [at_nat, rev_at (by simpa [hl] using hj)]
      simp [hl, show n - 1 - j < n by omega]
    obtain ⟨q, q1, q2⟩ := lq i hpl
    obtain ⟨w, w1, w2⟩ : ∃ w, ws[n - 1 - i]? = some w ∧ atI (ws.map encB).reverse (i : Int) = some (encB w) := by
      have hl := dw.len
      refine ⟨ws[n - 1 - i]'(by omega), List.getElem?_eq_getElem (by omega), ?_⟩
      rw [at_nat, rev_at (by simpa [hl] using hpl)]
      simp [hl, show n - 1 - i < n by omega]
    have kd := h.dif (i := n - 1 - i) (j := n - 1 - i + 1) (by omega) (by omega)
    have kb := h.bd (i := n - 1 - i) (j := n - 1 - i + 1) (by omega) (by omega)
    have i1 := law_is_is (q := sq zs (n - 1 - i) (n - 1 - i + 1)) (o := (pz zs (n - 1 - i + 1)).2 - (pz zs (n - 1 - i)).2) (u := (pz zs (n - 1 - i + 1)).1 - (pz zs (n - 1 - i)).1) s' kd.1 kb.1 kb.2.1 (kd.2.2.mono (by decide)) (Bd.mono (n := 40) (by unfold Bd; omega) (by decide)) (by omega)
    rw [sq_eq] at i1
    have fb := (l.frs h).bd _ _ q1
    have wo := dw.ok _ _ w1
    have eqw : q = pvl w := minmax_eq h.inc (l.ok _ _ q1) wo.2
    have i2 := law_is_is (q := q) (o := w.1) (u := w.2) s' wo.1.1 fb.1 fb.2.1 (wo.1.2.2.mono (by decide)) (Bd.mono (n := 40) (by have := wo.1.1; have := wo.1.2.1; unfold Bd; omega) (by decide)) (by omega)
    have e3 : decide (q = Rat.divInt w.1 w.2) = true := by simpa [pvl] using eqw
    rw [e3] at i2
    have i3 : 0 < i → ∃ q', atI (lv.map frD).reverse ((i : Int) - 1) = some (frD q') ∧ f__law_less [frD q, frD q'] s' = .ok (.bl false) s' := fun h0 => by
      obtain ⟨q', g1, g2⟩ := lq (i - 1) (by omega)
      refine ⟨q', by rw [show (i : Int) - 1 = ((i - 1 : Nat) : Int) by omega]; exact g2, ?_⟩
      have fb' := (l.frs h).bd _ _ g1
      have le := lev_mono h.inc (l.ok _ _ q1) (l.ok _ _ g1) (by omega)
      have := law_less_is (x := (q.num, (q.den : Int))) (y := (q'.num, (q'.den : Int))) ⟨by have := q.den_pos; show (0 : Int) < q.den; omega, fb.2.2.1, fb.2.2.2⟩ ⟨by have := q'.den_pos; show (0 : Int) < q'.den; omega, fb'.2.2.1, fb'.2.2.2⟩ s'
      unfold pvl at this
      simp only [q_self] at this
      rw [show frD q = encB (q.num, (q.den : Int)) from rfl, show frD q' = encB (q'.num, (q'.den : Int)) from rfl, this]
      simp [Rat.not_lt.mpr le]
    refine ⟨_, EnL t (some (buD ys)) (some (.lst (zs.map encB))) T (some (.lst (((List.range n).map fun i => frD (sq zs i (i + 1))).reverse))) (some (.lst (lv.map frD).reverse)) (some (.lst (ws.map encB).reverse)) (some (.int (i : Int))) (some (encB (pz zs (n - 1 - i)))) (some (encB (pz zs (n - 1 - i + 1)))) (some (.int ((pz zs (n - 1 - i + 1)).2 - (pz zs (n - 1 - i)).2))) (some (.int ((pz zs (n - 1 - i + 1)).1 - (pz zs (n - 1 - i)).1))) to ov un hi lo so, s', rfl, ?_, rfl, _, _, _, _, _, rfl⟩
    have ln : gLen [buD ys] = some (.int (n : Int)) := by unfold buD; simp [hn]
    unfold l1_law
    generalize (List.map (fun i => frD (sq zs i (i + 1))) (List.range n)).reverse = LP at *
    generalize (List.map frD lv).reverse = LF at *
    generalize (List.map encB ws).reverse = LW' at *
    generalize pz zs (n - 1 - i) = za at *
    generalize pz zs (n - 1 - i + 1) = zb at *
    generalize frD (sq zs (n - 1 - i) (n - 1 - i + 1)) = dq at *
    generalize List.map encB zs = LZ at *
    by_cases h0 : 0 < i
    · obtain ⟨q', c1, c2⟩ := i3 h0
      simp -implicitDefEqProofs [ln, o1, o2, p1, q2, w2, i1, i2, c1, c2, h0, encB, -at_nat]
    · simp -implicitDefEqProofs [ln, o1, o2, p1, q2, w2, i1, i2, encB, h0, -at_nat]
end

/-! ### the means -/
theorem stp_get : ∀ (l : List P2) (b : Int) (m : Nat), m < l.length → (stp b l).getD m (0, 0) = (b + tot (l.take (m + 1)), (l.getD m (0, 0)).1 * (b + tot (l.take (m + 1))))
  | [], _, _, h => by simp at h
  | y :: r, b, 0, _ => by simp [stp, tot]
  | y :: r, b, m + 1, h => by
    have ih := stp_get r (b + y.2) m (by simpa using h)
    rw [stp, List.getD_cons_succ, ih, List.getD_cons_succ]
    have : b + tot ((y :: r).take (m + 1 + 1)) = b + y.2 + tot (r.take (m + 1)) := by rw [List.take_succ_cons]; simp [tot]; omega
    rw [this]
theorem pts_x (ys : List P2) (m : Nat) (h : m ≤ ys.length) : (pz (pts ys) m).1 = tot (ys.reverse.take m) := by
  unfold pz pts
  cases m with
  | zero => simp [tot]
  | succ m => rw [List.getD_cons_succ, stp_get _ _ _ (by rw [List.length_reverse]; omega)]; simp
theorem pts_dx (ys : List P2) (m : Nat) (h : m < ys.length) : (pz (pts ys) (m + 1)).1 - (pz (pts ys) m).1 = (ys.getD (ys.length - 1 - m) (0, 0)).2 := by
  rw [pts_x ys _ (by omega), pts_x ys _ (by omega)]
  have e : ys.reverse[m]? = some (ys[ys.length - 1 - m]'(by omega)) := by rw [rev_at h]; simp [show ys.length - 1 - m < ys.length by omega]
  rw [List.take_succ, e]
  simp only [Option.toList_some, tot_snoc]
  simp [List.getD_eq_getElem?_getD, show ys.length - 1 - m < ys.length by omega]; omega
theorem tot_rev (ys : List P2) : tot ys.reverse = tot ys := by simp [tot, List.map_reverse, List.sum_reverse]
theorem pts_y (ys : List P2) (h : 1 ≤ ys.length) : (pz (pts ys) ys.length).2 = (ys.getD 0 (0, 0)).1 * tot ys := by
  obtain ⟨m, hm⟩ : ∃ m, ys.length = m + 1 := ⟨ys.length - 1, by omega⟩
  unfold pz pts
  rw [hm, List.getD_cons_succ, stp_get _ _ _ (by rw [List.length_reverse]; omega)]
  have e : ys.reverse.take (m + 1) = ys.reverse := List.take_of_length_le (by rw [List.length_reverse]; omega)
  have e2 : ys.reverse.getD m (0, 0) = ys.getD 0 (0, 0) := by
    rw [List.getD_eq_getElem?_getD, List.getD_eq_getElem?_getD, rev_at (by omega), show ys.length - 1 - m = 0 by omega]
  rw [e, tot_rev, e2]; simp
theorem tele_drop (zs : List P2) {qs : List Rat} {m : Nat} {q : Rat} (h : qs[m]? = some q) : tele zs m (qs.drop m) = q * (xq zs (m + 1) - xq zs m) + tele zs (m + 1) (qs.drop (m + 1)) := by
  obtain ⟨h1, h2⟩ := List.getElem?_eq_some_iff.mp h
  rw [List.drop_eq_getElem_cons h1, h2]; rfl
theorem bd_add {n m : Nat} {x y : Int} (h : Bd n x) (h' : Bd m y) : Bd (max n m + 1) (x + y) := by
  have a := h.mono (Nat.le_max_left n m)
  have b := h'.mono (Nat.le_max_right n m)
  unfold Bd at *
  rw [Nat.pow_succ]
  omega
theorem den_mul (q : Rat) : ((q.den : Int) : Rat) * q = q.num := by
  have h0 : ((q.den : Int) : Rat) ≠ 0 := fun z => by
    have : (q.den : Int) = 0 := Rat.intCast_inj.mp z
    have := q.den_pos
    omega
  have := q_self q
  rw [Rat.divInt_eq_div] at this
  generalize ((q.den : Int) : Rat) = d at *
  generalize ((q.num : Int) : Rat) = m at *
  subst this
  grind
theorem law_l2 {ys : List P2} (v : VU ys) {qs : List Rat} (f : Frs (pts ys) ys.length qs) (s : S) {t p T pl fl du at' o ot r w hi lo so : Option D} :
    ∃ (over under : Int) (b1 b4 b5 : Option D), forL (tgName 11) l2_law ((List.range ys.length).map fun (i : Nat) => D.int (i : Int)) (EnL t (some (buD ys)) p T pl fl du at' o ot r w (some (.lst (qs.map frD).reverse)) (some (.int 0)) (some (.int 1)) hi lo so) s
      = .ok (.next (EnL t (some (buD ys)) p T pl fl du b1 o ot r w (some (.lst (qs.map frD).reverse)) (some (.int over)) (some (.int under)) b4 b5 so)) s ∧ Bd 1000 under ∧ over = (ys.getD 0 (0, 0)).1 * tot ys * under := by
  have n5 := v.len5
  have hz := pts_ok v
  have key := for_inv (tg := tgName 11) (F := l2_law) (enc := fun (i : Nat) => D.int (i : Int)) (xs := List.range ys.length)
    (fun pre δ s' => s' = s ∧ pre.length ≤ ys.length ∧ ∃ (over under : Int) (b1 b4 b5 : Option D), δ = EnL t (some (buD ys)) p T pl fl du b1 o ot r w (some (.lst (qs.map frD).reverse)) (some (.int over)) (some (.int under)) b4 b5 so ∧ Bd (200 * pre.length + 1) over ∧ Bd (40 * pre.length + 1) under ∧
      (over : Rat) = under * tele (pts ys) (ys.length - pre.length) (qs.drop (ys.length - pre.length)))
    (δ := EnL t (some (buD ys)) p T pl fl du at' o ot r w (some (.lst (qs.map frD).reverse)) (some (.int 0)) (some (.int 1)) hi lo so) (s := s) ⟨rfl, by simp, 0, 1, _, _, _, rfl, by unfold Bd; decide, by unfold Bd; decide, ?_⟩ ?_
  · obtain ⟨δ', s', h1, rfl, _, over, under, b1, b4, b5, rfl, g1, g2, g3⟩ := key
    refine ⟨over, under, b1, b4, b5, h1, g2.mono (by simp; omega), ?_⟩
    rw [List.length_range, Nat.sub_self, List.drop_zero, f.sum] at g3
    have y0 : yq (pts ys) 0 = 0 := by unfold yq pz pts; simp
    have yn : yq (pts ys) ys.length = (((ys.getD 0 (0, 0)).1 * tot ys : Int) : Rat) := by unfold yq; rw [pts_y ys v.len1]
    rw [y0, yn] at g3
    have : (over : Rat) = (((ys.getD 0 (0, 0)).1 * tot ys * under : Int) : Rat) := by rw [g3, Rat.intCast_mul _ under]; grind
    exact Rat.intCast_inj.mp this
  · have : qs.drop ys.length = [] := List.drop_of_length_le (by rw [f.len]; exact Nat.le_refl _)
    simp [this, tele]
  · rintro pre x post δ s' e ⟨rfl, _, over, under, b1, b4, b5, rfl, g1, g2, g3⟩
    obtain ⟨hx, hpl⟩ := range_split e
    clear e
    subst hx
    rw [List.length_append, List.length_singleton]
    generalize pre.length = i at *
    have hq : qs[ys.length - 1 - i]? = some (qs[ys.length - 1 - i]'(by rw [f.len]; omega)) := List.getElem?_eq_getElem _
    generalize qs[ys.length - 1 - i]'(by rw [f.len]; omega) = q at hq
    have fb := f.bd _ _ hq
    have a1 : atI (qs.map frD).reverse (i : Int) = some (frD q) := by
      rw [at_nat, rev_at (by simpa [f.len] using hpl), List.length_map, f.len, List.getElem?_map, hq]; rfl
    have hyl : ys[i]? = some ys[i] := List.getElem?_eq_getElem hpl
    have hwt := v.ok ys[i] (List.getElem_mem _)
    have dx := pts_dx ys (ys.length - 1 - i) (by omega)
    have dx2 : ys.getD (ys.length - 1 - (ys.length - 1 - i)) (0, 0) = ys[i] := by
      rw [show ys.length - 1 - (ys.length - 1 - i) = i by omega, List.getD_eq_getElem?_getD, hyl]; rfl
    rw [dx2] at dx
    generalize ys[i] = y at *
    have a2 : atI (ys.map encB) (i : Int) = some (encB y) := by rw [at_nat, List.getElem?_map, hyl]; rfl
    have bw : Bd 40 y.2 := by unfold Bd; omega
    have bden : Bd 40 (q.den : Int) := by unfold Bd; omega
    have m1 := g_mul g1 bden (by omega)
    have m2 := g_mul fb.2.2.2 bw (by omega)
    have m3 := g_mul (fb.2.2.2.mul bw) g2 (by omega)
    have m4 := g_mul g2 bden (by omega)
    refine ⟨_, EnL t (some (buD ys)) p T pl fl du (some (.int (i : Int))) o ot r w (some (.lst (qs.map frD).reverse)) (some (.int (over * q.den + q.num * y.2 * under))) (some (.int (under * q.den))) (some (.int q.num)) (some (.int q.den)) so, s', rfl, ?_, rfl, by omega, _, _, _, _, _, rfl, ?_, ?_, ?_⟩
    · have ix : gIx (buD ys) (.int (i : Int)) = some (encB y) := a2
      unfold l2_law
      generalize (List.map frD qs).reverse = LQ at *
      generalize buD ys = BB at *
      unfold frD at a1
      simp -implicitDefEqProofs [a1, ix, encB, m1, m2, m3, m4, -at_nat]
    · exact (bd_add (g1.mul bden) ((fb.2.2.2.mul bw).mul g2)).mono (by omega)
    · exact (g2.mul bden).mono (by omega)
    · have td := tele_drop (pts ys) hq
      rw [show ys.length - (i + 1) = ys.length - 1 - i by omega, td, show ys.length - 1 - i + 1 = ys.length - i by omega]
      have ex : xq (pts ys) (ys.length - i) - xq (pts ys) (ys.length - 1 - i) = (y.2 : Rat) := by
        unfold xq
        rw [show ys.length - i = ys.length - 1 - i + 1 by omega, ← Rat.intCast_sub, dx]
      rw [ex]
      have hqd : ((q.den : Int) : Rat) * q = q.num := den_mul q
      simp only [Rat.intCast_add, Rat.intCast_mul]
      rw [g3]
      rw [← hqd]; grind
theorem law_l3 {ys : List P2} (v : VU ys) {qs : List Rat} (f : Frs (pts ys) ys.length qs) (s : S) {t p pl fl du at' o ot r w ov un hi lo so : Option D} :
    ∃ (b1 b2 b3 b4 b5 : Option D), l3_law (EnL t (some (buD ys)) p (some (.int (tot ys))) pl fl du at' o ot r w (some (.lst (qs.map frD).reverse)) ov un hi lo so) s
      = .ok (.next (EnL t (some (buD ys)) p (some (.int (tot ys))) pl fl du b1 o ot r w (some (.lst (qs.map frD).reverse)) b2 b3 b4 b5 so)) s := by
  obtain ⟨over, under, b1, b4, b5, h1, h2, h3⟩ := law_l2 v f s (t := t) (p := p) (T := some (.int (tot ys))) (pl := pl) (fl := fl) (du := du) (at' := at') (o := o) (ot := ot) (r := r) (w := w) (hi := hi) (lo := lo) (so := so)
  refine ⟨b1, some (.int over), some (.int under), b4, b5, ?_⟩
  have n5 := v.len5
  have r1 := g_r1 ys.length (by omega)
  rw [upto0] at r1
  have ln : gLen [buD ys] = some (.int (ys.length : Int)) := by unfold buD; simp
  have sb := sum_bd ys fun y hy => (v.ok y hy).2.2
  obtain ⟨y0, hy0⟩ : ∃ y0, ys[0]? = some y0 := ⟨ys[0]'(by have := v.len1; omega), List.getElem?_eq_getElem _⟩
  have hm := v.ok y0 (List.mem_of_getElem? hy0)
  have e0 : ys.getD 0 (0, 0) = y0 := by rw [List.getD_eq_getElem?_getD, hy0]; rfl
  rw [e0] at h3
  have ix : gIx (buD ys) (.int 0) = some (encB y0) := by unfold buD; simp [hy0]
  have m1 := g_mul (bd_of (x := y0.1) (by omega)) (bd_of (x := tot ys) (by omega)) (by decide)
  have m2 := g_mul ((bd_of (x := y0.1) (by omega)).mul (bd_of (x := tot ys) (by omega))) h2 (by decide)
  unfold l3_law
  have x1 : cPar (pCons [21] 17 (cV (cC (.int 0))) (pCons [21] 18 (cV (cC (.int 1))) pNil)) (EnL t (some (buD ys)) p (some (.int (tot ys))) pl fl du at' o ot r w (some (.lst (qs.map frD).reverse)) ov un hi lo so) s
    = .ok (.next (EnL t (some (buD ys)) p (some (.int (tot ys))) pl fl du at' o ot r w (some (.lst (qs.map frD).reverse)) (some (.int 0)) (some (.int 1)) hi lo so)) s := by simp
  rw [e_seq, x1, bind_ok]
  generalize (List.map frD qs).reverse = LQ at *
  generalize buD ys = BB at *
  subst h3
  simp -implicitDefEqProofs [ln, r1, h1, ix, encB, m1, m2, -at_nat]

/-! ### the law -/
theorem law_l4 {ys : List P2} {fl : List Rat} (hfl : fl.length = ys.length) (n5 : ys.length ≤ 5) (s : S) {t b p T pl du at' o ot r w to ov un hi lo : Option D} :
    ∃ b1 : Option D, forL (tgName 11) l4_law ((List.range ys.length).map fun (i : Nat) => D.int (i : Int)) (EnL t b p T pl (some (.lst (fl.map frD))) du at' o ot r w to ov un hi lo (some (.lst []))) s
      = .ok (.next (EnL t b p T pl (some (.lst (fl.map frD))) du b1 o ot r w to ov un hi lo (some (.lst ((stF fl ys.length).map encB))))) s := by
  have key := for_inv (tg := tgName 11) (F := l4_law) (enc := fun (i : Nat) => D.int (i : Int)) (xs := List.range ys.length)
    (fun pre δ s' => s' = s ∧ ∃ (b1 : Option D), δ = EnL t b p T pl (some (.lst (fl.map frD))) du b1 o ot r w to ov un hi lo (some (.lst ((stF fl pre.length).map encB))))
    (δ := EnL t b p T pl (some (.lst (fl.map frD))) du at' o ot r w to ov un hi lo (some (.lst []))) (s := s) ⟨rfl, _, rfl⟩ ?_
  · obtain ⟨δ', s', h1, rfl, d, rfl⟩ := key
    rw [List.length_range] at h1
    exact ⟨d, h1⟩
  · rintro pre x post δ s' e ⟨rfl, b1, rfl⟩
    obtain ⟨hx, hpl⟩ := range_split e
    subst hx
    have hne := stF_ne fl pre.length
    have lvl : fl[pre.length]? = some (fl.getD pre.length 0) := by simp [List.getD_eq_getElem?_getD, hfl, hpl]
    have e0 : atI (fl.map frD) (pre.length : Int) = some (frD (fl.getD pre.length 0)) := by rw [at_nat, List.getElem?_map, lvl]; rfl
    refine ⟨_, EnL t b p T pl (some (.lst (fl.map frD))) du (some (.int (pre.length : Int))) o ot r w to ov un hi lo (some (.lst ((stF fl (pre.length + 1)).map encB))), s', rfl, ?_, rfl, some (.int (pre.length : Int)), by simp⟩
    show l4_law (EnL t b p T pl (some (.lst (fl.map frD))) du (some (.int (pre.length : Int))) o ot r w to ov un hi lo (some (.lst ((stF fl pre.length).map encB)))) s' = _
    generalize fl.getD pre.length 0 = qa at *
    by_cases h0 : 0 < pre.length
    · have e1 : atI (fl.map frD) ((pre.length : Int) - 1) = some (frD (fl.getD (pre.length - 1) 0)) := by
        rw [show (pre.length : Int) - 1 = ((pre.length - 1 : Nat) : Int) by omega, at_nat]
        simp [List.getD_eq_getElem?_getD, show pre.length - 1 < fl.length by omega]
      have lv0 : fl[pre.length - 1]? = some (fl.getD (pre.length - 1) 0) := by simp [List.getD_eq_getElem?_getD, show pre.length - 1 < fl.length by omega]
      generalize fl.getD (pre.length - 1) 0 = qb at *
      have hn : stF fl pre.length ≠ [] := hne.1.resolve_left (by omega)
      have hln : 0 < (stF fl pre.length).length := List.length_pos_iff.mpr hn
      have la := last_encB hn
      have ix := ixN_last hln
      by_cases hq : qa = qb
      · have st : stF fl (pre.length + 1) = (stF fl pre.length).set ((stF fl pre.length).length - 1) (((stF fl pre.length).getLastD (0, 0)).1, (pre.length : Int)) := by
          conv => lhs; unfold stF
          rw [if_pos ⟨h0, by rw [lv0, lvl, hq]⟩]
        rw [st, ← set_encB]
        unfold l4_law
        simp -implicitDefEqProofs [e0, e1, eq_fr, hq, h0, e_put, la, ix, encB, PV.scal, -at_nat]
      · have st : stF fl (pre.length + 1) = stF fl pre.length ++ [((pre.length : Int), (pre.length : Int))] := by
          conv => lhs; unfold stF
          rw [if_neg (fun z => hq (by rw [lv0, lvl] at z; exact (Option.some.inj z.2).symm))]
        rw [st]
        unfold l4_law
        simp -implicitDefEqProofs [e0, e1, eq_fr, hq, h0, encB, -at_nat, show (stF fl pre.length).length < 100000 by omega]
    · have p0 : pre = [] := List.eq_nil_of_length_eq_zero (by omega)
      subst p0
      unfold l4_law
      simp -implicitDefEqProofs [stF, encB]
theorem encB_sm (l : List P2) : Sm 60 (.lst (l.map encB)) := by
  show Sms 59 _
  refine Sms_iff.mpr fun d hd => ?_
  obtain ⟨i, _, rfl⟩ := List.mem_map.mp hd
  simp [encB, Sm, Sms]
theorem bind_assoc {α β γ : Type} (o : Out α) (f : α → S → Out β) (g : β → S → Out γ) : (o.bind f).bind g = o.bind fun a s => (f a s).bind g := by cases o <;> rfl
theorem seq_ok {F G : En → M Fl} {δ δ' : En} {s s' : S} (h : F δ s = .ok (.next δ') s') : cSeq F G δ s = G δ' s' := by rw [e_seq, h]; rfl
theorem turn_is (t c1 c2 c3 c4 c5 c6 c7 c8 c9 c10 c11 c12 c13 c14 c15 c16 c17 : Option D) (s : S) : ∃ d1 d2 d3 d4 d5 d6 d7 d8 d9 d10 d11 d12 d13 d14 d15 d16 d17 s', l5_law (EnL t c1 c2 c3 c4 c5 c6 c7 c8 c9 c10 c11 c12 c13 c14 c15 c16 c17) s = .ok (.next (EnL t d1 d2 d3 d4 d5 d6 d7 d8 d9 d10 d11 d12 d13 d14 d15 d16 d17)) s' := by
  obtain ⟨ys, s1, v, hb⟩ := law_buyer_is s
  have n5 := v.len5
  have h := pts_ok v
  obtain ⟨lv, l, hlv⟩ := levels_of_is v s1
  obtain ⟨ws, dw, hws⟩ := law_levels_is v s1
  have hst := law_stair_is v s1
  have hmk := marks_is v s1
  have hle : f_levels [buD ys] s1 = .ok (.lst (lv.map frD).reverse) s1 := (levels_is v s1).trans hlv
  have rv : (lv.map frD).reverse = lv.reverse.map frD := by rw [List.map_reverse]
  have hsr := stretches_is v (fl := lv.reverse) (by rw [List.length_reverse]; exact l.len) s1 (by rw [← rv]; exact hlv)
  have mf := marks_frs h
  have mm : ((List.range ys.length).map fun i => frD (sq (pts ys) i (i + 1))).reverse = ((((List.range ys.length).map fun i => sq (pts ys) i (i + 1))).map frD).reverse := by rw [List.map_map]; rfl
  have r1 := g_r1 ys.length (by omega)
  rw [upto0] at r1
  have ln : gLen [buD ys] = some (.int (ys.length : Int)) := by unfold buD; simp
  have sm : (cB gSum (cCons (cLc [6, 7] (cItU (cVar 3)) (tgTup 2 (tgCons (tgName 6) (tgCons (tgName 7) tgNil))) cYes (cVar 7)) cNil)) (EnL t (some (buD ys)) (some (.lst ((pts ys).map encB))) c3 c4 c5 c6 c7 c8 c9 c10 c11 c12 c13 c14 c15 c16 c17) s1 = .ok (.int (tot ys)) s1 := by
    unfold buD
    simp -implicitDefEqProofs [show ys.length ≤ 100000 by omega]
    rw [comp_map (xs := ys) (enc := encB) (e := fun y => .int y.2)]
    · simp [tot]
    · intro y _
      exact ⟨_, rfl, fun s => rfl⟩
  obtain ⟨b1, b2, b3, b4, b5, hl1⟩ := law_l1 h rfl l dw s1 (t := t) (T := some (.int (tot ys))) (at' := c7) (o := c8) (ot := c9) (r := c10) (w := c11) (to := c12) (ov := c13) (un := c14) (hi := c15) (lo := c16) (so := c17)
  rw [mm] at hl1 hmk
  obtain ⟨e1, e2, e3, e4, e5, hl3⟩ := law_l3 v mf s1 (t := t) (p := some (.lst ((pts ys).map encB))) (pl := some (.lst (((List.range ys.length).map fun i => sq (pts ys) i (i + 1)).map frD).reverse)) (fl := some (.lst (lv.map frD).reverse)) (du := some (.lst (ws.map encB).reverse)) (at' := b1) (o := b2) (ot := b3) (r := b4) (w := b5) (ov := c13) (un := c14) (hi := c15) (lo := c16) (so := c17)
  obtain ⟨f1, f2, f3, f4, f5, hl3'⟩ := law_l3 v (l.frs h) s1 (t := t) (p := some (.lst ((pts ys).map encB))) (pl := some (.lst (((List.range ys.length).map fun i => sq (pts ys) i (i + 1)).map frD).reverse)) (fl := some (.lst (lv.map frD).reverse)) (du := some (.lst (ws.map encB).reverse)) (at' := e1) (o := b2) (ot := b3) (r := b4) (w := b5) (ov := e2) (un := e3) (hi := e4) (lo := e5) (so := c17)
  obtain ⟨g1, hl4⟩ := law_l4 (ys := ys) (fl := lv.reverse) (by rw [List.length_reverse]; exact l.len) n5 s1 (t := t) (b := some (buD ys)) (p := some (.lst ((pts ys).map encB))) (T := some (.int (tot ys))) (pl := some (.lst (((List.range ys.length).map fun i => sq (pts ys) i (i + 1)).map frD).reverse)) (du := some (.lst (ws.map encB).reverse)) (at' := f1) (o := b2) (ot := b3) (r := b4) (w := b5) (to := some (.lst (lv.map frD).reverse)) (ov := f2) (un := f3) (hi := f4) (lo := f5)
  rw [← rv] at hl4
  have lnf : lv.length = ys.length := l.len
  rw [show lv.reverse.length = ys.length by rw [List.length_reverse]; exact lnf] at hsr
  refine ⟨(some (buD ys)), (some (.lst ((pts ys).map encB))), (some (.int (tot ys))), (some (.lst (((List.range ys.length).map fun i => sq (pts ys) i (i + 1)).map frD).reverse)), (some (.lst (lv.map frD).reverse)), (some (.lst (ws.map encB).reverse)), g1, b2, b3, b4, b5, (some (.lst (lv.map frD).reverse)), f2, f3, f4, f5, (some (.lst ((stF lv.reverse ys.length).map encB))), s1, ?_⟩
  unfold l5_law
  rw [seq_ok (δ' := EnL t (some (buD ys)) c2 c3 c4 c5 c6 c7 c8 c9 c10 c11 c12 c13 c14 c15 c16 c17) (s' := s1) (by simp -implicitDefEqProofs [hb])]
  rw [seq_ok (δ' := EnL t (some (buD ys)) (some (.lst ((pts ys).map encB))) c3 c4 c5 c6 c7 c8 c9 c10 c11 c12 c13 c14 c15 c16 c17) (s' := s1) (by simp -implicitDefEqProofs [hst])]
  rw [seq_ok (δ' := EnL t (some (buD ys)) (some (.lst ((pts ys).map encB))) (some (.int (tot ys))) c4 c5 c6 c7 c8 c9 c10 c11 c12 c13 c14 c15 c16 c17) (s' := s1) (by rw [e_set, sm]; rfl)]
  rw [seq_ok (δ' := EnL t (some (buD ys)) (some (.lst ((pts ys).map encB))) (some (.int (tot ys))) (some (.lst (((List.range ys.length).map fun i => sq (pts ys) i (i + 1)).map frD).reverse)) (some (.lst (lv.map frD).reverse)) c6 c7 c8 c9 c10 c11 c12 c13 c14 c15 c16 c17) (s' := s1) (by simp -implicitDefEqProofs [hmk, hle, -List.map_map])]
  rw [seq_ok (δ' := EnL t (some (buD ys)) (some (.lst ((pts ys).map encB))) (some (.int (tot ys))) (some (.lst (((List.range ys.length).map fun i => sq (pts ys) i (i + 1)).map frD).reverse)) (some (.lst (lv.map frD).reverse)) (some (.lst (ws.map encB).reverse)) c7 c8 c9 c10 c11 c12 c13 c14 c15 c16 c17) (s' := s1) (by simp -implicitDefEqProofs [hws])]
  rw [seq_ok (δ' := EnL t (some (buD ys)) (some (.lst ((pts ys).map encB))) (some (.int (tot ys))) (some (.lst (((List.range ys.length).map fun i => sq (pts ys) i (i + 1)).map frD).reverse)) (some (.lst (lv.map frD).reverse)) (some (.lst (ws.map encB).reverse)) c7 c8 c9 c10 c11 c12 c13 c14 c15 c16 c17) (s' := s1) (by simp -implicitDefEqProofs [ln, lnf])]
  rw [seq_ok (δ' := EnL t (some (buD ys)) (some (.lst ((pts ys).map encB))) (some (.int (tot ys))) (some (.lst (((List.range ys.length).map fun i => sq (pts ys) i (i + 1)).map frD).reverse)) (some (.lst (lv.map frD).reverse)) (some (.lst (ws.map encB).reverse)) b1 b2 b3 b4 b5 c12 c13 c14 c15 c16 c17) (s' := s1) (by simp -implicitDefEqProofs only [e_for, e_itA, e_cons, e_nil, e_b, e_var, List.getElem?_cons_succ, List.getElem?_cons_zero, Option.join_some, lift_some, bind_ok, ln, r1]; exact hl1)]
  rw [seq_ok (δ' := EnL t (some (buD ys)) (some (.lst ((pts ys).map encB))) (some (.int (tot ys))) (some (.lst (((List.range ys.length).map fun i => sq (pts ys) i (i + 1)).map frD).reverse)) (some (.lst (lv.map frD).reverse)) (some (.lst (ws.map encB).reverse)) f1 b2 b3 b4 b5 (some (.lst (lv.map frD).reverse)) f2 f3 f4 f5 c17) (s' := s1) (by
    simp -implicitDefEqProofs only [e_for, e_itU, e_lst, e_cons, e_nil, e_var, List.getElem?_cons_succ, List.getElem?_cons_zero, Option.join_some, lift_some, bind_ok, List.length_cons, List.length_nil, show (0 + 1 + 1 ≤ 100000) by omega, if_true, g_seqL, forL, tg_name, List.set_cons_succ, List.set_cons_zero]
    rw [hl3]
    simp -implicitDefEqProofs only [bind_ok, List.set_cons_succ, List.set_cons_zero]
    rw [hl3']
    simp -implicitDefEqProofs only [bind_ok])]
  rw [seq_ok (δ' := EnL t (some (buD ys)) (some (.lst ((pts ys).map encB))) (some (.int (tot ys))) (some (.lst (((List.range ys.length).map fun i => sq (pts ys) i (i + 1)).map frD).reverse)) (some (.lst (lv.map frD).reverse)) (some (.lst (ws.map encB).reverse)) f1 b2 b3 b4 b5 (some (.lst (lv.map frD).reverse)) f2 f3 f4 f5 (some (.lst []))) (s' := s1) (by simp -implicitDefEqProofs)]
  rw [seq_ok (δ' := EnL t (some (buD ys)) (some (.lst ((pts ys).map encB))) (some (.int (tot ys))) (some (.lst (((List.range ys.length).map fun i => sq (pts ys) i (i + 1)).map frD).reverse)) (some (.lst (lv.map frD).reverse)) (some (.lst (ws.map encB).reverse)) g1 b2 b3 b4 b5 (some (.lst (lv.map frD).reverse)) f2 f3 f4 f5 (some (.lst ((stF lv.reverse ys.length).map encB)))) (s' := s1) (by simp -implicitDefEqProofs only [e_for, e_itA, e_cons, e_nil, e_b, e_var, List.getElem?_cons_succ, List.getElem?_cons_zero, Option.join_some, lift_some, bind_ok, ln, r1]; exact hl4)]
  have ne := gNe_sm (encB_sm (stF lv.reverse ys.length)) (encB_sm (stF lv.reverse ys.length))
  simp -implicitDefEqProofs only [e_ite, e_pk, e_tst, e_op, e_call, e_cons, e_nil, e_var, List.getElem?_cons_succ, List.getElem?_cons_zero, Option.join_some, lift_some, bind_ok, List.length_cons, List.length_nil, hsr, ne, decide_true, Bool.not_true, g_asB, calm_ok, if_true, e_next, Nat.zero_add, Bool.false_eq_true, if_false]
theorem law_true : ∀ ns : List Int, ns.length ≤ 63 → ∃ s', b_law (lawEn N_law.length) ⟨ns, 0, 602, 0⟩ = .ok (.ret (.bl true)) s' := by
  intro ns _
  have e0 : lawEn N_law.length = EnL none none none none none none none none none none none none none none none none none none := rfl
  rw [e0]
  have key := for_inv (tg := tgName 2) (F := l5_law) (enc := fun i : Nat => D.int (i : Int)) (xs := List.range 3) (fun pre δ s' => ∃ t c1 c2 c3 c4 c5 c6 c7 c8 c9 c10 c11 c12 c13 c14 c15 c16 c17, δ = EnL t c1 c2 c3 c4 c5 c6 c7 c8 c9 c10 c11 c12 c13 c14 c15 c16 c17)
    (δ := EnL none none none none none none none none none none none none none none none none none none) (s := ⟨ns, 0, 602, 0⟩) ⟨_, _, _, _, _, _, _, _, _, _, _, _, _, _, _, _, _, _, rfl⟩ (by
      rintro pre i post δ s' e ⟨t, c1, c2, c3, c4, c5, c6, c7, c8, c9, c10, c11, c12, c13, c14, c15, c16, c17, rfl⟩
      obtain ⟨d1, d2, d3, d4, d5, d6, d7, d8, d9, d10, d11, d12, d13, d14, d15, d16, d17, s'', h⟩ := turn_is (some (.int (i : Int))) c1 c2 c3 c4 c5 c6 c7 c8 c9 c10 c11 c12 c13 c14 c15 c16 c17 s'
      exact ⟨_, _, s'', rfl, h, _, _, _, _, _, _, _, _, _, _, _, _, _, _, _, _, _, _, rfl⟩)
  obtain ⟨δ', s', h, _⟩ := key
  refine ⟨s', ?_⟩
  unfold b_law
  have x1 : cItA gR1 (cCons (cC (.int 3)) cNil) (EnL none none none none none none none none none none none none none none none none none none) ⟨ns, 0, 602, 0⟩ = .ok ((List.range 3).map fun i : Nat => D.int (i : Int)) ⟨ns, 0, 602, 0⟩ := by
    simp [show gR1 [D.int 3] = some (upto 0 3) from g_r1 3 (by decide), upto0]
  rw [e_seq, e_for, x1, bind_ok, h, bind_ok]
  simp

theorem all_mk {l : PySem.W.OpenLaw} {w : World} {K : PySem.W.Frag} {h : Heap} {mg : Str → Option Value} {fa : Addr} (hl : ∀ ns : List Int, ns.length ≤ 63 → ∃ s', b_law (lawEn N_law.length) ⟨ns, 0, 602, 0⟩ = .ok (.ret (.bl true)) s') (X : K.In h) (G : h.Ns mainGlobals mg) (hfa : mg "law" = some (.ref fa))
    {f0 : Addr} {od0 an0 : Option Addr} {sl0 : Array (Option Value)} {oc0 kV0 dc0 pm0 cd0 ct0 : Value}
    (a0 : PySem.W.nsIn K mainGlobals "_law_taken" = some (some (.ref f0))) (l0 : K.lookup f0 = some ⟨oc0, od0, .func (PySem.W.fnOf "_law_taken" "_law_taken" (defArgs s__law_taken) (defBody s__law_taken) (defScope s__law_taken) .none kV0 dc0 pm0 an0 cd0 ct0), sl0⟩) (c0 : PySem.W.codeIn K cd0 "_law_taken" = true) (k0 : PySem.W.keepIn K (.ref f0) = true)
    {f1 : Addr} {od1 an1 : Option Addr} {sl1 : Array (Option Value)} {oc1 kV1 dc1 pm1 cd1 ct1 : Value}
    (a1 : PySem.W.nsIn K mainGlobals "_law_buyer" = some (some (.ref f1))) (l1 : K.lookup f1 = some ⟨oc1, od1, .func (PySem.W.fnOf "_law_buyer" "_law_buyer" (defArgs s__law_buyer) (defBody s__law_buyer) (defScope s__law_buyer) .none kV1 dc1 pm1 an1 cd1 ct1), sl1⟩) (c1 : PySem.W.codeIn K cd1 "_law_buyer" = true) (k1 : PySem.W.keepIn K (.ref f1) = true)
    {f2 : Addr} {od2 an2 : Option Addr} {sl2 : Array (Option Value)} {oc2 kV2 dc2 pm2 cd2 ct2 : Value}
    (a2 : PySem.W.nsIn K mainGlobals "_law_stair" = some (some (.ref f2))) (l2 : K.lookup f2 = some ⟨oc2, od2, .func (PySem.W.fnOf "_law_stair" "_law_stair" (defArgs s__law_stair) (defBody s__law_stair) (defScope s__law_stair) .none kV2 dc2 pm2 an2 cd2 ct2), sl2⟩) (c2 : PySem.W.codeIn K cd2 "_law_stair" = true) (k2 : PySem.W.keepIn K (.ref f2) = true)
    {f3 : Addr} {od3 an3 : Option Addr} {sl3 : Array (Option Value)} {oc3 kV3 dc3 pm3 cd3 ct3 : Value}
    (a3 : PySem.W.nsIn K mainGlobals "_law_less" = some (some (.ref f3))) (l3 : K.lookup f3 = some ⟨oc3, od3, .func (PySem.W.fnOf "_law_less" "_law_less" (defArgs s__law_less) (defBody s__law_less) (defScope s__law_less) .none kV3 dc3 pm3 an3 cd3 ct3), sl3⟩) (c3 : PySem.W.codeIn K cd3 "_law_less" = true) (k3 : PySem.W.keepIn K (.ref f3) = true)
    {f4 : Addr} {od4 an4 : Option Addr} {sl4 : Array (Option Value)} {oc4 kV4 dc4 pm4 cd4 ct4 : Value}
    (a4 : PySem.W.nsIn K mainGlobals "_law_levels" = some (some (.ref f4))) (l4 : K.lookup f4 = some ⟨oc4, od4, .func (PySem.W.fnOf "_law_levels" "_law_levels" (defArgs s__law_levels) (defBody s__law_levels) (defScope s__law_levels) .none kV4 dc4 pm4 an4 cd4 ct4), sl4⟩) (c4 : PySem.W.codeIn K cd4 "_law_levels" = true) (k4 : PySem.W.keepIn K (.ref f4) = true)
    {f5 : Addr} {od5 an5 : Option Addr} {sl5 : Array (Option Value)} {oc5 kV5 dc5 pm5 cd5 ct5 : Value}
    (a5 : PySem.W.nsIn K mainGlobals "is_from" = some (some (.ref f5))) (l5 : K.lookup f5 = some ⟨oc5, od5, .func (PySem.W.fnOf "is_from" "is_from" (defArgs s_is_from) (defBody s_is_from) (defScope s_is_from) .none kV5 dc5 pm5 an5 cd5 ct5), sl5⟩) (c5 : PySem.W.codeIn K cd5 "is_from" = true) (k5 : PySem.W.keepIn K (.ref f5) = true)
    {f6 : Addr} {od6 an6 : Option Addr} {sl6 : Array (Option Value)} {oc6 kV6 dc6 pm6 cd6 ct6 : Value}
    (a6 : PySem.W.nsIn K mainGlobals "is_pair" = some (some (.ref f6))) (l6 : K.lookup f6 = some ⟨oc6, od6, .func (PySem.W.fnOf "is_pair" "is_pair" (defArgs s_is_pair) (defBody s_is_pair) (defScope s_is_pair) .none kV6 dc6 pm6 an6 cd6 ct6), sl6⟩) (c6 : PySem.W.codeIn K cd6 "is_pair" = true) (k6 : PySem.W.keepIn K (.ref f6) = true)
    {f7 : Addr} {od7 an7 : Option Addr} {sl7 : Array (Option Value)} {oc7 kV7 dc7 pm7 cd7 ct7 : Value}
    (a7 : PySem.W.nsIn K mainGlobals "is_buyer" = some (some (.ref f7))) (l7 : K.lookup f7 = some ⟨oc7, od7, .func (PySem.W.fnOf "is_buyer" "is_buyer" (defArgs s_is_buyer) (defBody s_is_buyer) (defScope s_is_buyer) .none kV7 dc7 pm7 an7 cd7 ct7), sl7⟩) (c7 : PySem.W.codeIn K cd7 "is_buyer" = true) (k7 : PySem.W.keepIn K (.ref f7) = true)
    {f8 : Addr} {od8 an8 : Option Addr} {sl8 : Array (Option Value)} {oc8 kV8 dc8 pm8 cd8 ct8 : Value}
    (a8 : PySem.W.nsIn K mainGlobals "need_buyer" = some (some (.ref f8))) (l8 : K.lookup f8 = some ⟨oc8, od8, .func (PySem.W.fnOf "need_buyer" "need_buyer" (defArgs s_need_buyer) (defBody s_need_buyer) (defScope s_need_buyer) .none kV8 dc8 pm8 an8 cd8 ct8), sl8⟩) (c8 : PySem.W.codeIn K cd8 "need_buyer" = true) (k8 : PySem.W.keepIn K (.ref f8) = true)
    {f9 : Addr} {od9 an9 : Option Addr} {sl9 : Array (Option Value)} {oc9 kV9 dc9 pm9 cd9 ct9 : Value}
    (a9 : PySem.W.nsIn K mainGlobals "stair" = some (some (.ref f9))) (l9 : K.lookup f9 = some ⟨oc9, od9, .func (PySem.W.fnOf "stair" "stair" (defArgs s_stair) (defBody s_stair) (defScope s_stair) .none kV9 dc9 pm9 an9 cd9 ct9), sl9⟩) (c9 : PySem.W.codeIn K cd9 "stair" = true) (k9 : PySem.W.keepIn K (.ref f9) = true)
    {f10 : Addr} {od10 an10 : Option Addr} {sl10 : Array (Option Value)} {oc10 kV10 dc10 pm10 cd10 ct10 : Value}
    (a10 : PySem.W.nsIn K mainGlobals "common" = some (some (.ref f10))) (l10 : K.lookup f10 = some ⟨oc10, od10, .func (PySem.W.fnOf "common" "common" (defArgs s_common) (defBody s_common) (defScope s_common) .none kV10 dc10 pm10 an10 cd10 ct10), sl10⟩) (c10 : PySem.W.codeIn K cd10 "common" = true) (k10 : PySem.W.keepIn K (.ref f10) = true)
    {f11 : Addr} {od11 an11 : Option Addr} {sl11 : Array (Option Value)} {oc11 kV11 dc11 pm11 cd11 ct11 : Value}
    (a11 : PySem.W.nsIn K mainGlobals "made" = some (some (.ref f11))) (l11 : K.lookup f11 = some ⟨oc11, od11, .func (PySem.W.fnOf "made" "made" (defArgs s_made) (defBody s_made) (defScope s_made) .none kV11 dc11 pm11 an11 cd11 ct11), sl11⟩) (c11 : PySem.W.codeIn K cd11 "made" = true) (k11 : PySem.W.keepIn K (.ref f11) = true)
    {f12 : Addr} {od12 an12 : Option Addr} {sl12 : Array (Option Value)} {oc12 kV12 dc12 pm12 cd12 ct12 : Value}
    (a12 : PySem.W.nsIn K mainGlobals "slope" = some (some (.ref f12))) (l12 : K.lookup f12 = some ⟨oc12, od12, .func (PySem.W.fnOf "slope" "slope" (defArgs s_slope) (defBody s_slope) (defScope s_slope) .none kV12 dc12 pm12 an12 cd12 ct12), sl12⟩) (c12 : PySem.W.codeIn K cd12 "slope" = true) (k12 : PySem.W.keepIn K (.ref f12) = true)
    {f13 : Addr} {od13 an13 : Option Addr} {sl13 : Array (Option Value)} {oc13 kV13 dc13 pm13 cd13 ct13 : Value}
    (a13 : PySem.W.nsIn K mainGlobals "marks_of" = some (some (.ref f13))) (l13 : K.lookup f13 = some ⟨oc13, od13, .func (PySem.W.fnOf "marks_of" "marks_of" (defArgs s_marks_of) (defBody s_marks_of) (defScope s_marks_of) .none kV13 dc13 pm13 an13 cd13 ct13), sl13⟩) (c13 : PySem.W.codeIn K cd13 "marks_of" = true) (k13 : PySem.W.keepIn K (.ref f13) = true)
    {f14 : Addr} {od14 an14 : Option Addr} {sl14 : Array (Option Value)} {oc14 kV14 dc14 pm14 cd14 ct14 : Value}
    (a14 : PySem.W.nsIn K mainGlobals "marks" = some (some (.ref f14))) (l14 : K.lookup f14 = some ⟨oc14, od14, .func (PySem.W.fnOf "marks" "marks" (defArgs s_marks) (defBody s_marks) (defScope s_marks) .none kV14 dc14 pm14 an14 cd14 ct14), sl14⟩) (c14 : PySem.W.codeIn K cd14 "marks" = true) (k14 : PySem.W.keepIn K (.ref f14) = true)
    {f15 : Addr} {od15 an15 : Option Addr} {sl15 : Array (Option Value)} {oc15 kV15 dc15 pm15 cd15 ct15 : Value}
    (a15 : PySem.W.nsIn K mainGlobals "is_less" = some (some (.ref f15))) (l15 : K.lookup f15 = some ⟨oc15, od15, .func (PySem.W.fnOf "is_less" "is_less" (defArgs s_is_less) (defBody s_is_less) (defScope s_is_less) .none kV15 dc15 pm15 an15 cd15 ct15), sl15⟩) (c15 : PySem.W.codeIn K cd15 "is_less" = true) (k15 : PySem.W.keepIn K (.ref f15) = true)
    {f16 : Addr} {od16 an16 : Option Addr} {sl16 : Array (Option Value)} {oc16 kV16 dc16 pm16 cd16 ct16 : Value}
    (a16 : PySem.W.nsIn K mainGlobals "is_bend" = some (some (.ref f16))) (l16 : K.lookup f16 = some ⟨oc16, od16, .func (PySem.W.fnOf "is_bend" "is_bend" (defArgs s_is_bend) (defBody s_is_bend) (defScope s_is_bend) .none kV16 dc16 pm16 an16 cd16 ct16), sl16⟩) (c16 : PySem.W.codeIn K cd16 "is_bend" = true) (k16 : PySem.W.keepIn K (.ref f16) = true)
    {f17 : Addr} {od17 an17 : Option Addr} {sl17 : Array (Option Value)} {oc17 kV17 dc17 pm17 cd17 ct17 : Value}
    (a17 : PySem.W.nsIn K mainGlobals "hull" = some (some (.ref f17))) (l17 : K.lookup f17 = some ⟨oc17, od17, .func (PySem.W.fnOf "hull" "hull" (defArgs s_hull) (defBody s_hull) (defScope s_hull) .none kV17 dc17 pm17 an17 cd17 ct17), sl17⟩) (c17 : PySem.W.codeIn K cd17 "hull" = true) (k17 : PySem.W.keepIn K (.ref f17) = true)
    {f18 : Addr} {od18 an18 : Option Addr} {sl18 : Array (Option Value)} {oc18 kV18 dc18 pm18 cd18 ct18 : Value}
    (a18 : PySem.W.nsIn K mainGlobals "levels_of" = some (some (.ref f18))) (l18 : K.lookup f18 = some ⟨oc18, od18, .func (PySem.W.fnOf "levels_of" "levels_of" (defArgs s_levels_of) (defBody s_levels_of) (defScope s_levels_of) .none kV18 dc18 pm18 an18 cd18 ct18), sl18⟩) (c18 : PySem.W.codeIn K cd18 "levels_of" = true) (k18 : PySem.W.keepIn K (.ref f18) = true)
    {f19 : Addr} {od19 an19 : Option Addr} {sl19 : Array (Option Value)} {oc19 kV19 dc19 pm19 cd19 ct19 : Value}
    (a19 : PySem.W.nsIn K mainGlobals "levels" = some (some (.ref f19))) (l19 : K.lookup f19 = some ⟨oc19, od19, .func (PySem.W.fnOf "levels" "levels" (defArgs s_levels) (defBody s_levels) (defScope s_levels) .none kV19 dc19 pm19 an19 cd19 ct19), sl19⟩) (c19 : PySem.W.codeIn K cd19 "levels" = true) (k19 : PySem.W.keepIn K (.ref f19) = true)
    {f20 : Addr} {od20 an20 : Option Addr} {sl20 : Array (Option Value)} {oc20 kV20 dc20 pm20 cd20 ct20 : Value}
    (a20 : PySem.W.nsIn K mainGlobals "stretches" = some (some (.ref f20))) (l20 : K.lookup f20 = some ⟨oc20, od20, .func (PySem.W.fnOf "stretches" "stretches" (defArgs s_stretches) (defBody s_stretches) (defScope s_stretches) .none kV20 dc20 pm20 an20 cd20 ct20), sl20⟩) (c20 : PySem.W.codeIn K cd20 "stretches" = true) (k20 : PySem.W.keepIn K (.ref f20) = true)
    {f21 : Addr} {od21 an21 : Option Addr} {sl21 : Array (Option Value)} {oc21 kV21 dc21 pm21 cd21 ct21 : Value}
    (a21 : PySem.W.nsIn K mainGlobals "_law_gcd" = some (some (.ref f21))) (l21 : K.lookup f21 = some ⟨oc21, od21, .func (PySem.W.fnOf "_law_gcd" "_law_gcd" (defArgs s__law_gcd) (defBody s__law_gcd) (defScope s__law_gcd) .none kV21 dc21 pm21 an21 cd21 ct21), sl21⟩) (c21 : PySem.W.codeIn K cd21 "_law_gcd" = true) (k21 : PySem.W.keepIn K (.ref f21) = true)
    {f22 : Addr} {od22 an22 : Option Addr} {sl22 : Array (Option Value)} {oc22 kV22 dc22 pm22 cd22 ct22 : Value}
    (a22 : PySem.W.nsIn K mainGlobals "_law_is" = some (some (.ref f22))) (l22 : K.lookup f22 = some ⟨oc22, od22, .func (PySem.W.fnOf "_law_is" "_law_is" (defArgs s__law_is) (defBody s__law_is) (defScope s__law_is) .none kV22 dc22 pm22 an22 cd22 ct22), sl22⟩) (c22 : PySem.W.codeIn K cd22 "_law_is" = true) (k22 : PySem.W.keepIn K (.ref f22) = true)
    {f23 : Addr} {od23 an23 : Option Addr} {sl23 : Array (Option Value)} {oc23 kV23 dc23 pm23 cd23 ct23 : Value}
    (a23 : PySem.W.nsIn K mainGlobals "law" = some (some (.ref f23))) (l23 : K.lookup f23 = some ⟨oc23, od23, .func (PySem.W.fnOf "law" "law" (defArgs s_law) (defBody s_law) (defScope s_law) .none kV23 dc23 pm23 an23 cd23 ct23), sl23⟩) (c23 : PySem.W.codeIn K cd23 "law" = true) (k23 : PySem.W.keepIn K (.ref f23) = true)
    (z_abs : PySem.W.nsIn K mainGlobals "abs" = some none)
    (z_all : PySem.W.nsIn K mainGlobals "all" = some none)
    (z_bool : PySem.W.nsIn K mainGlobals "bool" = some none)
    (z_enumerate : PySem.W.nsIn K mainGlobals "enumerate" = some none)
    (z_int : PySem.W.nsIn K mainGlobals "int" = some none)
    (z_isinstance : PySem.W.nsIn K mainGlobals "isinstance" = some none)
    (z_len : PySem.W.nsIn K mainGlobals "len" = some none)
    (z_range : PySem.W.nsIn K mainGlobals "range" = some none)
    (z_reversed : PySem.W.nsIn K mainGlobals "reversed" = some none)
    (z_sum : PySem.W.nsIn K mainGlobals "sum" = some none)
    (z_tuple : PySem.W.nsIn K mainGlobals "tuple" = some none)
    {t_MOST : Tok} (g_MOST : PySem.W.nsIn K mainGlobals "MOST" = some (some (.int 1000000000 t_MOST)))
    {t_MOST_WORTHS : Tok} (g_MOST_WORTHS : PySem.W.nsIn K mainGlobals "MOST_WORTHS" = some (some (.int 5 t_MOST_WORTHS)))
    : ∃ fd : FuncData, (∀ (s : Shared) (v : Value), BindsTo s fd ⟨[v], []⟩ [("_law_script", v)]) ∧ ∀ base : Heap, K.In base → base.Ns mainGlobals mg → FnOk l.prog w K mg base CX0 143 fa fd ["_law_script"] (spLaw K) := by
  have e := hfa.symm.trans (PySem.W.mg_of X G a23)
  cases e
  let B : Bs := ⟨K, 0, fun _ => 0⟩
  have F0 := fun_mk (st := s__law_taken) l0 c0 k0
  have b0 : Binds K _ P__law_taken [] := F0.binds (ps := P__law_taken) fun _ _ _ _ _ _ us hl => match us, hl with | [_, _], _ => rfl
  have F1 := fun_mk (st := s__law_buyer) l1 c1 k1
  have b1 : Binds K _ P__law_buyer [] := F1.binds (ps := P__law_buyer) fun _ _ _ _ _ _ us hl => match us, hl with | [_, _], _ => rfl
  have F2 := fun_mk (st := s__law_stair) l2 c2 k2
  have b2 : Binds K _ P__law_stair [] := F2.binds (ps := P__law_stair) fun _ _ _ _ _ _ us hl => match us, hl with | [_], _ => rfl
  have F3 := fun_mk (st := s__law_less) l3 c3 k3
  have b3 : Binds K _ P__law_less [] := F3.binds (ps := P__law_less) fun _ _ _ _ _ _ us hl => match us, hl with | [_, _], _ => rfl
  have F4 := fun_mk (st := s__law_levels) l4 c4 k4
  have b4 : Binds K _ P__law_levels [] := F4.binds (ps := P__law_levels) fun _ _ _ _ _ _ us hl => match us, hl with | [_], _ => rfl
  have F5 := fun_mk (st := s_is_from) l5 c5 k5
  have b5 : Binds K _ P_is_from [] := F5.binds (ps := P_is_from) fun _ _ _ _ _ _ us hl => match us, hl with | [_, _, _], _ => rfl
  have F6 := fun_mk (st := s_is_pair) l6 c6 k6
  have b6 : Binds K _ P_is_pair [] := F6.binds (ps := P_is_pair) fun _ _ _ _ _ _ us hl => match us, hl with | [_], _ => rfl
  have F7 := fun_mk (st := s_is_buyer) l7 c7 k7
  have b7 : Binds K _ P_is_buyer [] := F7.binds (ps := P_is_buyer) fun _ _ _ _ _ _ us hl => match us, hl with | [_], _ => rfl
  have F8 := fun_mk (st := s_need_buyer) l8 c8 k8
  have b8 : Binds K _ P_need_buyer [] := F8.binds (ps := P_need_buyer) fun _ _ _ _ _ _ us hl => match us, hl with | [_], _ => rfl
  have F9 := fun_mk (st := s_stair) l9 c9 k9
  have b9 : Binds K _ P_stair [] := F9.binds (ps := P_stair) fun _ _ _ _ _ _ us hl => match us, hl with | [_], _ => rfl
  have F10 := fun_mk (st := s_common) l10 c10 k10
  have b10 : Binds K _ P_common [] := F10.binds (ps := P_common) fun _ _ _ _ _ _ us hl => match us, hl with | [_, _], _ => rfl
  have F11 := fun_mk (st := s_made) l11 c11 k11
  have b11 : Binds K _ P_made [] := F11.binds (ps := P_made) fun _ _ _ _ _ _ us hl => match us, hl with | [_, _], _ => rfl
  have F12 := fun_mk (st := s_slope) l12 c12 k12
  have b12 : Binds K _ P_slope [] := F12.binds (ps := P_slope) fun _ _ _ _ _ _ us hl => match us, hl with | [_, _], _ => rfl
  have F13 := fun_mk (st := s_marks_of) l13 c13 k13
  have b13 : Binds K _ P_marks_of [] := F13.binds (ps := P_marks_of) fun _ _ _ _ _ _ us hl => match us, hl with | [_], _ => rfl
  have F14 := fun_mk (st := s_marks) l14 c14 k14
  have b14 : Binds K _ P_marks [] := F14.binds (ps := P_marks) fun _ _ _ _ _ _ us hl => match us, hl with | [_], _ => rfl
  have F15 := fun_mk (st := s_is_less) l15 c15 k15
  have b15 : Binds K _ P_is_less [] := F15.binds (ps := P_is_less) fun _ _ _ _ _ _ us hl => match us, hl with | [_, _], _ => rfl
  have F16 := fun_mk (st := s_is_bend) l16 c16 k16
  have b16 : Binds K _ P_is_bend [] := F16.binds (ps := P_is_bend) fun _ _ _ _ _ _ us hl => match us, hl with | [_, _, _], _ => rfl
  have F17 := fun_mk (st := s_hull) l17 c17 k17
  have b17 : Binds K _ P_hull [] := F17.binds (ps := P_hull) fun _ _ _ _ _ _ us hl => match us, hl with | [_], _ => rfl
  have F18 := fun_mk (st := s_levels_of) l18 c18 k18
  have b18 : Binds K _ P_levels_of [] := F18.binds (ps := P_levels_of) fun _ _ _ _ _ _ us hl => match us, hl with | [_], _ => rfl
  have F19 := fun_mk (st := s_levels) l19 c19 k19
  have b19 : Binds K _ P_levels [] := F19.binds (ps := P_levels) fun _ _ _ _ _ _ us hl => match us, hl with | [_], _ => rfl
  have F20 := fun_mk (st := s_stretches) l20 c20 k20
  have b20 : Binds K _ P_stretches [] := F20.binds (ps := P_stretches) fun _ _ _ _ _ _ us hl => match us, hl with | [_], _ => rfl
  have F21 := fun_mk (st := s__law_gcd) l21 c21 k21
  have b21 : Binds K _ P__law_gcd [] := F21.binds (ps := P__law_gcd) fun _ _ _ _ _ _ us hl => match us, hl with | [_, _], _ => rfl
  have F22 := fun_mk (st := s__law_is) l22 c22 k22
  have b22 : Binds K _ P__law_is [] := F22.binds (ps := P__law_is) fun _ _ _ _ _ _ us hl => match us, hl with | [_, _, _], _ => rfl
  have F23 := fun_mk (st := s_law) l23 c23 k23
  have b23 : Binds K _ P_law [] := F23.binds (ps := P_law) fun _ _ _ _ _ _ us hl => match us, hl with | [_], _ => rfl
  let T : Tx B mg := { f__law_taken := f0, d__law_taken := _, F__law_taken := F0, m__law_taken := PySem.W.mg_of X G a0, k__law_taken := k0, b__law_taken := b0, f__law_buyer := f1, d__law_buyer := _, F__law_buyer := F1, m__law_buyer := PySem.W.mg_of X G a1, k__law_buyer := k1, b__law_buyer := b1, f__law_stair := f2, d__law_stair := _, F__law_stair := F2, m__law_stair := PySem.W.mg_of X G a2, k__law_stair := k2, b__law_stair := b2, f__law_less := f3, d__law_less := _, F__law_less := F3, m__law_less := PySem.W.mg_of X G a3, k__law_less := k3, b__law_less := b3, f__law_levels := f4, d__law_levels := _, F__law_levels := F4, m__law_levels := PySem.W.mg_of X G a4, k__law_levels := k4, b__law_levels := b4, f_is_from := f5, d_is_from := _, F_is_from := F5, m_is_from := PySem.W.mg_of X G a5, k_is_from := k5, b_is_from := b5, f_is_pair := f6, d_is_pair := _, F_is_pair := F6, m_is_pair := PySem.W.mg_of X G a6, k_is_pair := k6, b_is_pair := b6, f_is_buyer := f7, d_is_buyer := _, F_is_buyer := F7, m_is_buyer := PySem.W.mg_of X G a7, k_is_buyer := k7, b_is_buyer := b7, f_need_buyer := f8, d_need_buyer := _, F_need_buyer := F8, m_need_buyer := PySem.W.mg_of X G a8, k_need_buyer := k8, b_need_buyer := b8, f_stair := f9, d_stair := _, F_stair := F9, m_stair := PySem.W.mg_of X G a9, k_stair := k9, b_stair := b9, f_common := f10, d_common := _, F_common := F10, m_common := PySem.W.mg_of X G a10, k_common := k10, b_common := b10, f_made := f11, d_made := _, F_made := F11, m_made := PySem.W.mg_of X G a11, k_made := k11, b_made := b11, f_slope := f12, d_slope := _, F_slope := F12, m_slope := PySem.W.mg_of X G a12, k_slope := k12, b_slope := b12, f_marks_of := f13, d_marks_of := _, F_marks_of := F13, m_marks_of := PySem.W.mg_of X G a13, k_marks_of := k13, b_marks_of := b13, f_marks := f14, d_marks := _, F_marks := F14, m_marks := PySem.W.mg_of X G a14, k_marks := k14, b_marks := b14, f_is_less := f15, d_is_less := _, F_is_less := F15, m_is_less := PySem.W.mg_of X G a15, k_is_less := k15, b_is_less := b15, f_is_bend := f16, d_is_bend := _, F_is_bend := F16, m_is_bend := PySem.W.mg_of X G a16, k_is_bend := k16, b_is_bend := b16, f_hull := f17, d_hull := _, F_hull := F17, m_hull := PySem.W.mg_of X G a17, k_hull := k17, b_hull := b17, f_levels_of := f18, d_levels_of := _, F_levels_of := F18, m_levels_of := PySem.W.mg_of X G a18, k_levels_of := k18, b_levels_of := b18, f_levels := f19, d_levels := _, F_levels := F19, m_levels := PySem.W.mg_of X G a19, k_levels := k19, b_levels := b19, f_stretches := f20, d_stretches := _, F_stretches := F20, m_stretches := PySem.W.mg_of X G a20, k_stretches := k20, b_stretches := b20, f__law_gcd := f21, d__law_gcd := _, F__law_gcd := F21, m__law_gcd := PySem.W.mg_of X G a21, k__law_gcd := k21, b__law_gcd := b21, f__law_is := f22, d__law_is := _, F__law_is := F22, m__law_is := PySem.W.mg_of X G a22, k__law_is := k22, b__law_is := b22, f_law := fa, d_law := _, F_law := F23, m_law := PySem.W.mg_of X G a23, k_law := k23, b_law := b23, n_abs := PySem.W.mg_none_of X G z_abs, n_all := PySem.W.mg_none_of X G z_all, n_bool := PySem.W.mg_none_of X G z_bool, n_enumerate := PySem.W.mg_none_of X G z_enumerate, n_int := PySem.W.mg_none_of X G z_int, n_isinstance := PySem.W.mg_none_of X G z_isinstance, n_len := PySem.W.mg_none_of X G z_len, n_range := PySem.W.mg_none_of X G z_range, n_reversed := PySem.W.mg_none_of X G z_reversed, n_sum := PySem.W.mg_none_of X G z_sum, n_tuple := PySem.W.mg_none_of X G z_tuple, t_MOST := t_MOST, m_MOST := PySem.W.mg_of X G g_MOST, t_MOST_WORTHS := t_MOST_WORTHS, m_MOST_WORTHS := PySem.W.mg_of X G g_MOST_WORTHS }
  exact ⟨_, fun s v => .of_eq rfl, fun base _ _ => ok_law (B := B) T hl⟩
end LW
open PySem PySem.W PyProof.Rows
set_option maxHeartbeats 0 in
theorem PySem.Challenge.cw_floorprices_k02_whole_levels_holds : PySem.Challenge.rw_floorprices_k02_whole_levels.Holds := by
  w_on; o_law; k_head; (case hw => w_witness2)
  k_fill
  refine L2.walk_of (l := PySem.Challenge.rw_floorprices_k02_whole_levels) (n := 63) (k := 143) (x := "_law_script") (CX := fun _ => L2.CX0) (sp := fun w => PV.spLaw _) rfl (by decide) rfl ⟨rfl, by decide, by decide⟩ (fun w h Y => PySem.W.kIn_of Y) ?F (fun _ _ a ns hl hO hS => ⟨a, ns, rfl, hS, hO, hl, fun _ => rfl⟩) (fun _ _ _ _ _ h => h)
  case F =>
    intro w mg fa h KX G hmg
    refine' LW.all_mk LW.law_true KX G hmg ?a0 ?l0 ?c0 ?k0 ?a1 ?l1 ?c1 ?k1 ?a2 ?l2 ?c2 ?k2 ?a3 ?l3 ?c3 ?k3 ?a4 ?l4 ?c4 ?k4 ?a5 ?l5 ?c5 ?k5 ?a6 ?l6 ?c6 ?k6 ?a7 ?l7 ?c7 ?k7 ?a8 ?l8 ?c8 ?k8 ?a9 ?l9 ?c9 ?k9 ?a10 ?l10 ?c10 ?k10 ?a11 ?l11 ?c11 ?k11 ?a12 ?l12 ?c12 ?k12 ?a13 ?l13 ?c13 ?k13 ?a14 ?l14 ?c14 ?k14 ?a15 ?l15 ?c15 ?k15 ?a16 ?l16 ?c16 ?k16 ?a17 ?l17 ?c17 ?k17 ?a18 ?l18 ?c18 ?k18 ?a19 ?l19 ?c19 ?k19 ?a20 ?l20 ?c20 ?k20 ?a21 ?l21 ?c21 ?k21 ?a22 ?l22 ?c22 ?k22 ?a23 ?l23 ?c23 ?k23 ?z_abs ?z_all ?z_bool ?z_enumerate ?z_int ?z_isinstance ?z_len ?z_range ?z_reversed ?z_sum ?z_tuple ?g_MOST ?g_MOST_WORTHS
    (case a0 => k_is); (case l0 => k_is); (case c0 => k_is); (case k0 => k_is); (case a1 => k_is); (case l1 => k_is); (case c1 => k_is); (case k1 => k_is); (case a2 => k_is); (case l2 => k_is); (case c2 => k_is); (case k2 => k_is); (case a3 => k_is); (case l3 => k_is); (case c3 => k_is); (case k3 => k_is); (case a4 => k_is); (case l4 => k_is); (case c4 => k_is); (case k4 => k_is); (case a5 => k_is); (case l5 => k_is); (case c5 => k_is); (case k5 => k_is); (case a6 => k_is); (case l6 => k_is); (case c6 => k_is); (case k6 => k_is); (case a7 => k_is); (case l7 => k_is); (case c7 => k_is); (case k7 => k_is); (case a8 => k_is); (case l8 => k_is); (case c8 => k_is); (case k8 => k_is); (case a9 => k_is); (case l9 => k_is); (case c9 => k_is); (case k9 => k_is); (case a10 => k_is); (case l10 => k_is); (case c10 => k_is); (case k10 => k_is); (case a11 => k_is); (case l11 => k_is); (case c11 => k_is); (case k11 => k_is); (case a12 => k_is); (case l12 => k_is); (case c12 => k_is); (case k12 => k_is); (case a13 => k_is); (case l13 => k_is); (case c13 => k_is); (case k13 => k_is); (case a14 => k_is); (case l14 => k_is); (case c14 => k_is); (case k14 => k_is); (case a15 => k_is); (case l15 => k_is); (case c15 => k_is); (case k15 => k_is); (case a16 => k_is); (case l16 => k_is); (case c16 => k_is); (case k16 => k_is); (case a17 => k_is); (case l17 => k_is); (case c17 => k_is); (case k17 => k_is); (case a18 => k_is); (case l18 => k_is); (case c18 => k_is); (case k18 => k_is); (case a19 => k_is); (case l19 => k_is); (case c19 => k_is); (case k19 => k_is); (case a20 => k_is); (case l20 => k_is); (case c20 => k_is); (case k20 => k_is); (case a21 => k_is); (case l21 => k_is); (case c21 => k_is); (case k21 => k_is); (case a22 => k_is); (case l22 => k_is); (case c22 => k_is); (case k22 => k_is); (case a23 => k_is); (case l23 => k_is); (case c23 => k_is); (case k23 => k_is); (case z_abs => k_is); (case z_all => k_is); (case z_bool => k_is); (case z_enumerate => k_is); (case z_int => k_is); (case z_isinstance => k_is); (case z_len => k_is); (case z_range => k_is); (case z_reversed => k_is); (case z_sum => k_is); (case z_tuple => k_is); (case g_MOST => k_is); (case g_MOST_WORTHS => k_is)

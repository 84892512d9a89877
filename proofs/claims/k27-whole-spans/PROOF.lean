import PyProof.Rows.All
import Wide.All
import OpenK.AllK
import Wide.FinOn
import PySem.Challenge.RW_floorprices_k27_whole_spans
import HandS.ForMost
import HandS.ForExc
import HandS.Walk
import HandS.Evl
import HandS.TupAny
import HandS.TupMul
import HandS.Style
import HandS.Wide
import HandS.Zip
import HandS.Rev
import HandS.IsInst
import HandS.SortInts
import HandS.SortRule
import HandS.Strs
set_option Elab.async false
set_option linter.all false
set_option maxRecDepth 100000
set_option maxHeartbeats 4000000
/-! PV: Python data as plain values; readings of the hand layer as functions over them. -/
namespace PV
open PySem L2

inductive D where
  | non
  | bl (b : Bool)
  | int (i : Int)
  | str (x : Str)
  | tup (ds : List D)
  | lst (ds : List D)
  | dic (ks : List Str) (ds : List D)
  | sal (c n : D)
  | row
instance : Inhabited D := ⟨.non⟩

/-- the state of the draws -/
structure S where
  ns : List Int
  pos : Nat
  mix : Int
  rest : Int

structure Err where
  cls : Str
  val : List D

inductive Out (α : Type) where
  | stuck
  | ok (a : α) (s : S)
  | err (e : Err) (s : S)

abbrev M (α : Type) := S → Out α
def Out.bind {α β : Type} : Out α → (α → S → Out β) → Out β
  | .stuck, _ => .stuck
  | .ok a s, k => k a s
  | .err e s, _ => .err e s
@[simp] theorem bind_ok {α β : Type} {a : α} {s : S} {k : α → S → Out β} : (Out.ok a s).bind k = k a s := rfl
@[simp] theorem bind_err {α β : Type} {e : Err} {s : S} {k : α → S → Out β} : (Out.err e s).bind k = .err e s := rfl
@[simp] theorem bind_stuck {α β : Type} {k : α → S → Out β} : (Out.stuck : Out α).bind k = .stuck := rfl
def Out.post {α : Type} (P : α → S → Prop) (R : Err → S → Prop) : Out α → Prop
  | .stuck => False
  | .ok a s => P a s
  | .err e s => R e s
theorem post_bind {α β : Type} {o : Out α} {k : α → S → Out β} {P : β → S → Prop} {R : Err → S → Prop} (h : (o.bind k).post P R) : o.post (fun a s => (k a s).post P R) R := by
  cases o with
  | stuck => exact h
  | ok a s => exact h
  | err e s => exact h
theorem post_mono {α : Type} {o : Out α} {P P' : α → S → Prop} {R R' : Err → S → Prop} (h : o.post P R) (hp : ∀ a s, P a s → P' a s) (hr : ∀ e s, R e s → R' e s) : o.post P' R' := by
  cases o with
  | stuck => exact h
  | ok a s => exact hp a s h
  | err e s => exact hr e s h

/-- the written part, and the class of sales -/
structure Bs where
  K : PySem.W.Frag
  cs : Addr
  xc : Str → Addr

def hid (H : Hp) (O : List Addr) : Hp := fun a => if a ∈ O then none else H a
theorem hid_in {H : Hp} {O : List Addr} {a : Addr} (h : a ∈ O) : hid H O a = none := if_pos h
theorem hid_out {H : Hp} {O : List Addr} {a : Addr} (h : a ∉ O) : hid H O a = H a := if_neg h
theorem hid_some {H : Hp} {O : List Addr} {a : Addr} {o : HO} (h : hid H O a = some o) : a ∉ O ∧ H a = some o := by
  by_cases q : a ∈ O
  · rw [hid_in q] at h; cases h
  · rw [hid_out q] at h; exact ⟨q, h⟩
theorem hid_le {H : Hp} {O : List Addr} : Same (hid H O) H := fun a o h => (hid_some h).2
theorem hid_sub {H : Hp} {O O' : List Addr} (h : ∀ a ∈ O, a ∈ O') : Same (hid H O') (hid H O) := fun a o e => by
  have ⟨h1, h2⟩ := hid_some e
  rw [hid_out fun z => h1 (h a z)]; exact h2
theorem hid_upd {H : Hp} {O : List Addr} {p : Addr} {o : HO} (h : p ∈ O) : hid (upd H p o) O = hid H O := by
  funext a
  by_cases q : a ∈ O
  · rw [hid_in q, hid_in q]
  · rw [hid_out q, hid_out q, upd_ne (fun e => q (by rw [e]; exact h))]

/-! ### what stands for what -/
mutual
inductive Rep (B : Bs) (r : Addr) (H : Hp) : V → D → Prop
  | non : Rep B r H .non .non
  | bl (b : Bool) : Rep B r H (.bl b) (.bl b)
  | int (i : Int) : Rep B r H (.int i) (.int i)
  | str (x : Str) : Rep B r H (.str x) (.str x)
  | tup {a : Addr} {vs : List V} {ds : List D} : SqT B.K H a vs → Reps B r H vs ds → Rep B r H (.ref a) (.tup ds)
  | lst {a : Addr} {vs : List V} {ds : List D} : H a = some (.lst vs) → Reps B r H vs ds → Rep B r H (.ref a) (.lst ds)
  | dic {a : Addr} {kvs : List (Key × V)} {vs : List V} {ks : List Str} {ds : List D} : H a = some (.dK kvs) → kvs = (ks.map Sum.inr).zip vs → ks.length = vs.length → Reps B r H vs ds → Rep B r H (.ref a) (.dic ks ds)
  | sal {a dx : Addr} {vc vn : V} {c n : D} : H a = some (.ins B.cs dx [("crowd", vc), ("stock", vn)]) → Rep B r H vc c → Rep B r H vn n → Rep B r H (.ref a) (.sal c n)
  | row : Rep B r H (.ref r) .row
inductive Reps (B : Bs) (r : Addr) (H : Hp) : List V → List D → Prop
  | nil : Reps B r H [] []
  | cons {v : V} {d : D} {vs : List V} {ds : List D} : Rep B r H v d → Reps B r H vs ds → Reps B r H (v :: vs) (d :: ds)
end

theorem same_t {K : PySem.W.Frag} {H H' : Hp} {a : Addr} {xs : List V} (e : Same H H') (h : SqT K H a xs) : SqT K H' a xs := Evl.ex_t e h
mutual
theorem Rep.mono {B : Bs} {r : Addr} {H H' : Hp} (e : Same H H') : ∀ {v : V} {d : D}, Rep B r H v d → Rep B r H' v d
  | _, _, .non => .non
  | _, _, .bl b => .bl b
  | _, _, .int i => .int i
  | _, _, .str x => .str x
  | _, _, .tup h hs => .tup (same_t e h) (Reps.mono e hs)
  | _, _, .lst h hs => .lst (e _ _ h) (Reps.mono e hs)
  | _, _, .dic h hk hl hs => .dic (e _ _ h) hk hl (Reps.mono e hs)
  | _, _, .sal h h1 h2 => .sal (e _ _ h) (Rep.mono e h1) (Rep.mono e h2)
  | _, _, .row => .row
theorem Reps.mono {B : Bs} {r : Addr} {H H' : Hp} (e : Same H H') : ∀ {vs : List V} {ds : List D}, Reps B r H vs ds → Reps B r H' vs ds
  | _, _, .nil => .nil
  | _, _, .cons h hs => .cons (Rep.mono e h) (Reps.mono e hs)
end
section
variable {B : Bs} {r : Addr} {H : Hp}
theorem Reps.length : ∀ {vs : List V} {ds : List D}, Reps B r H vs ds → vs.length = ds.length
  | _, _, .nil => rfl
  | _, _, .cons _ hs => by rw [List.length_cons, List.length_cons, Reps.length hs]
theorem Reps.get : ∀ {vs : List V} {ds : List D}, Reps B r H vs ds → ∀ (i : Nat) (d : D), ds[i]? = some d → ∃ v, vs[i]? = some v ∧ Rep B r H v d
  | _, _, .nil, i, d, h => by simp at h
  | _, _, .cons h hs, 0, d, e => by
    cases (Option.some.inj e : _ = d)
    exact ⟨_, rfl, h⟩
  | _, _, .cons h hs, i + 1, d, e => by
    obtain ⟨v, h1, h2⟩ := Reps.get hs i d (by simpa using e)
    exact ⟨v, by simpa using h1, h2⟩
theorem Reps.get' : ∀ {vs : List V} {ds : List D}, Reps B r H vs ds → ∀ (i : Nat) (v : V), vs[i]? = some v → ∃ d, ds[i]? = some d ∧ Rep B r H v d
  | _, _, .nil, i, d, h => by simp at h
  | _, _, .cons h hs, 0, d, e => by
    cases (Option.some.inj e : _ = d)
    exact ⟨_, rfl, h⟩
  | _, _, .cons h hs, i + 1, d, e => by
    obtain ⟨v, h1, h2⟩ := Reps.get' hs i d (by simpa using e)
    exact ⟨v, by simpa using h1, h2⟩
theorem Reps.append : ∀ {vs ws : List V} {ds es : List D}, Reps B r H vs ds → Reps B r H ws es → Reps B r H (vs ++ ws) (ds ++ es)
  | _, _, _, _, .nil, q => q
  | _, _, _, _, .cons h hs, q => .cons h (Reps.append hs q)
theorem Reps.take : ∀ {vs : List V} {ds : List D} (n : Nat), Reps B r H vs ds → Reps B r H (vs.take n) (ds.take n)
  | _, _, 0, _ => by simpa using Reps.nil
  | _, _, n + 1, .nil => .nil
  | _, _, n + 1, .cons h hs => .cons h (Reps.take n hs)
theorem Reps.drop : ∀ {vs : List V} {ds : List D} (n : Nat), Reps B r H vs ds → Reps B r H (vs.drop n) (ds.drop n)
  | _, _, 0, h => h
  | _, _, n + 1, .nil => .nil
  | _, _, n + 1, .cons h hs => Reps.drop n hs
theorem Reps.reverse : ∀ {vs : List V} {ds : List D}, Reps B r H vs ds → Reps B r H vs.reverse ds.reverse
  | _, _, .nil => .nil
  | _, _, .cons h hs => by
    rw [List.reverse_cons, List.reverse_cons]
    exact (Reps.reverse hs).append (.cons h .nil)
theorem Reps.set : ∀ {vs : List V} {ds : List D} {v : V} {d : D} (n : Nat), Reps B r H vs ds → Rep B r H v d → Reps B r H (vs.set n v) (ds.set n d)
  | _, _, _, _, _, .nil, _ => .nil
  | _, _, _, _, 0, .cons h hs, q => .cons q hs
  | _, _, _, _, n + 1, .cons h hs, q => .cons h (Reps.set n hs q)
theorem Reps.rep {v : V} {d : D} (h : Rep B r H v d) : ∀ n, Reps B r H (List.replicate n v) (List.replicate n d)
  | 0 => .nil
  | n + 1 => .cons h (Reps.rep h n)
theorem Reps.flat {vs : List V} {ds : List D} (h : Reps B r H vs ds) : ∀ n, Reps B r H (List.replicate n vs).flatten (List.replicate n ds).flatten
  | 0 => .nil
  | n + 1 => by
    rw [List.replicate_succ, List.replicate_succ, List.flatten_cons, List.flatten_cons]
    exact h.append (Reps.flat h n)
theorem Reps.ints {ns : List Int} : ∀ {vs : List V}, Reps B r H vs (ns.map D.int) → vs = ns.map V.int := by
  induction ns with
  | nil => intro vs h; cases h; rfl
  | cons n ns ih => intro vs h; cases h with | cons h hs => cases h; rw [ih hs]; rfl
theorem Reps.of_ints : ∀ (ns : List Int), Reps B r H (ns.map V.int) (ns.map D.int)
  | [] => .nil
  | n :: ns => .cons (.int n) (Reps.of_ints ns)
theorem Reps.bls {bs : List Bool} : ∀ {vs : List V}, Reps B r H vs (bs.map D.bl) → vs = bs.map V.bl := by
  induction bs with
  | nil => intro vs h; cases h; rfl
  | cons n ns ih => intro vs h; cases h with | cons h hs => cases h; rw [ih hs]; rfl
end

/-! ### the state of a def -/
abbrev En := List (Option D)
def Scr (K : PySem.W.Frag) (H : Hp) (sa : Addr) (xs : List V) : Prop := (∃ o, H sa = some (.frz o (.lst xs))) ∨ ∀ H', SqL K H' sa xs
theorem Scr.sq {K : PySem.W.Frag} {H : Hp} {sa : Addr} {xs : List V} (h : Scr K H sa xs) : SqL K H sa xs := h.elim (fun ⟨o, e⟩ => .inl (.inr ⟨o, e⟩)) (fun z => z H)
def RowAt (B : Bs) (r sa : Addr) (H : Hp) (s : S) : Prop := H r = some (.lst [.ref sa, .int (s.pos : Int), .int s.mix, .int s.rest]) ∧ Scr B.K H sa (s.ns.map V.int)
/-- all but the row stands as it did -/
def Stp (r : Addr) (H H' : Hp) : Prop := ∀ a o, a ≠ r → H a = some o → H' a = some o
theorem Stp.refl {r : Addr} (H : Hp) : Stp r H H := fun _ _ _ h => h
theorem Stp.trans {r : Addr} {H H1 H2 : Hp} (a : Stp r H H1) (b : Stp r H1 H2) : Stp r H H2 := fun x o n h => b x o n (a x o n h)
theorem Stp.of {r : Addr} {H H' : Hp} (e : Same H H') : Stp r H H' := fun a o _ h => e a o h
theorem Stp.hid {r : Addr} {H H' : Hp} {O : List Addr} (e : Stp r H H') (hr : r ∈ O) : Same (hid H O) (hid H' O) := fun a o h => by
  have ⟨h1, h2⟩ := hid_some h
  rw [hid_out h1]
  exact e a o (fun z => h1 (z ▸ hr)) h2
theorem Stp.new {r : Addr} {H : Hp} {p : Addr} {o : HO} (h : H p = none) : Stp r H (upd H p o) := fun a u _ e => by
  rw [upd_ne (ne_of_none e h)]; exact e
theorem RowAt.same {B : Bs} {r sa : Addr} {H H' : Hp} {s : S} (e : Same H H') (h : RowAt B r sa H s) : RowAt B r sa H' s := ⟨e _ _ h.1, h.2.elim (fun ⟨o, q⟩ => .inl ⟨o, e _ _ q⟩) .inr⟩
theorem RowAt.new {B : Bs} {r sa : Addr} {H : Hp} {s : S} {p : Addr} {o : HO} (h : RowAt B r sa H s) (n : H p = none) : RowAt B r sa (upd H p o) s := h.same fun a u e => by
  rw [upd_ne (ne_of_none e n)]; exact e

structure Gd (B : Bs) (r sa : Addr) (H0 : Hp) (O0 : List Addr) (W : List Nat) (O : List Addr) (σ : St) (δ : En) (s : S) (H : Hp) : Prop where
  len : σ.length = δ.length
  row : RowAt B r sa H s
  r0 : r ∈ O0
  dom : ∀ p ∈ O, H p ≠ none
  dom0 : ∀ p ∈ O0, H0 p ≠ none
  sub : ∀ p ∈ O0, p ∈ O
  frsh : ∀ p ∈ O, p ∈ O0 ∨ H0 p = none
  stp : Stp r H0 H
  val : ∀ i d, i ∉ W → δ[i]? = some (some d) → ∃ v, σ[i]? = some (some v) ∧ Rep B r (hid H O) v d
  own : ∀ i d, i ∈ W → δ[i]? = some (some d) → ∃ p vs ds, d = .lst ds ∧ σ[i]? = some (some (.ref p)) ∧ p ∈ O ∧ p ∉ O0 ∧ H p = some (.lst vs) ∧ Reps B r (hid H O) vs ds
  inj : ∀ i j p d e, i ∈ W → j ∈ W → i ≠ j → δ[i]? = some (some d) → δ[j]? = some (some e) → σ[i]? = some (some (.ref p)) → σ[j]? = some (some (.ref p)) → False
section
variable {B : Bs} {r sa : Addr} {H0 : Hp} {O0 : List Addr} {W : List Nat} {O : List Addr} {σ : St} {δ : En} {s s' : S} {H H' : Hp}
theorem Gd.rO (g : Gd B r sa H0 O0 W O σ δ s H) : r ∈ O := g.sub r g.r0
/-- behind an expression -/
theorem Gd.step (g : Gd B r sa H0 O0 W O σ δ s H) (e : Stp r H H') (hr : RowAt B r sa H' s') : Gd B r sa H0 O0 W O σ δ s' H' := by
  have sm : Same (hid H O) (hid H' O) := e.hid g.rO
  refine ⟨g.len, hr, g.r0, fun p hp => ?_, g.dom0, g.sub, g.frsh, g.stp.trans e, fun i d hi h => ?_, fun i d hi h => ?_, g.inj⟩
  · by_cases q : p = r
    · rw [q, hr.1]; exact fun z => nomatch z
    · cases h1 : H p with
      | none => exact absurd h1 (g.dom p hp)
      | some o => rw [e p o q h1]; exact fun z => nomatch z
  · obtain ⟨v, h1, h2⟩ := g.val i d hi h
    exact ⟨v, h1, h2.mono sm⟩
  · obtain ⟨p, vs, ds, h1, h2, h3, h4, h5, h6⟩ := g.own i d hi h
    exact ⟨p, vs, ds, h1, h2, h3, h4, e p _ (fun z => h4 (z ▸ g.r0)) h5, h6.mono sm⟩
/-- the slots change -/
theorem Gd.set {i : Nat} {v : V} {d : D} (g : Gd B r sa H0 O0 W O σ δ s H) (hi : i ∉ W) (h : Rep B r (hid H O) v d) : Gd B r sa H0 O0 W O (σ.set i (some v)) (δ.set i (some d)) s H := by
  refine ⟨by rw [List.length_set, List.length_set, g.len], g.row, g.r0, g.dom, g.dom0, g.sub, g.frsh, g.stp, fun j e hj q => ?_, fun j e hj q => ?_, fun j k p e e' hj hk ne q1 q2 q3 q4 => ?_⟩
  · by_cases z : i = j
    · subst z
      rw [List.getElem?_set] at q
      split at q
      · split at q
        · have q : d = e := by simpa using q
          subst q
          refine ⟨v, ?_, h⟩
          rw [List.getElem?_set_self (by rw [g.len]; assumption)]
        · cases q
      · rename_i hn; exact absurd rfl hn
    · rw [List.getElem?_set_ne z] at q ⊢
      exact g.val j e hj q
  · have z : i ≠ j := fun z => hi (z ▸ hj)
    rw [List.getElem?_set_ne z] at q ⊢
    exact g.own j e hj q
  · have z : i ≠ j := fun z => hi (z ▸ hj)
    have z' : i ≠ k := fun z => hi (z ▸ hk)
    rw [List.getElem?_set_ne z] at q1 q3
    rw [List.getElem?_set_ne z'] at q2 q4
    exact g.inj j k p e e' hj hk ne q1 q2 q3 q4
end
end PV

namespace PV
open PySem L2

def XRep (B : Bs) (r : Addr) (H : Hp) (e : Err) (cl : Value) (d : Option Addr) : Prop :=
  cl = .ref (B.xc e.cls) ∧ (e.val = [] ∨ ∃ dx fs vs, d = some dx ∧ H dx = some (.xd fs) ∧ fs.map (·.2) = vs ∧ Reps B r H vs e.val)
def EPost (B : Bs) (E : Option XK) (r sa : Addr) (H : Hp) (O : List Addr) (e : Err) (s' : S) : Prop := match E with
  | none => False
  | some E => ∀ cl d H', Stp r H H' → RowAt B r sa H' s' → XRep B r (hid H' O) e cl d → E cl d H'
theorem EPost.mono {B : Bs} {E : Option XK} {r sa : Addr} {H H1 : Hp} {O : List Addr} {e : Err} {s' : S} (st : Stp r H H1) (h : EPost B E r sa H O e s') : EPost B E r sa H1 O e s' := by
  cases E with
  | none => exact h
  | some E => exact fun cl d H' a b c => h cl d H' (st.trans a) b c
def xk : Option XK → XK | none => E0 | some E => E
abbrev OkV (B : Bs) (r sa : Addr) (H : Hp) (O : List Addr) (Q : VK) : D → S → Prop := fun d s' => ∀ v H', Stp r H H' → RowAt B r sa H' s' → Rep B r (hid H' O) v d → Q v H'
abbrev OkT (B : Bs) (r sa : Addr) (H : Hp) (Q : Bool → Hp → Prop) : Bool → S → Prop := fun b s' => ∀ H', Stp r H H' → RowAt B r sa H' s' → Q b H'
abbrev OkA (B : Bs) (r sa : Addr) (H : Hp) (O : List Addr) (Q : List V → Hp → Prop) : List D → S → Prop := fun d s' => ∀ v H', Stp r H H' → RowAt B r sa H' s' → Reps B r (hid H' O) v d → Q v H'
def RdE (B : Bs) (W : List Nat) (E : Option XK) (t : TE) (f : En → M D) : Prop :=
  ∀ {r sa : Addr} {H0 : Hp} {O0 O : List Addr} {σ : St} {δ : En} {s : S} {H : Hp}, Gd B r sa H0 O0 W O σ δ s H → ∀ Q : VK, (f δ s).post (OkV B r sa H O Q) (EPost B E r sa H O) → t σ H Q
def RdT (B : Bs) (W : List Nat) (E : Option XK) (t : TT) (f : En → M Bool) : Prop :=
  ∀ {r sa : Addr} {H0 : Hp} {O0 O : List Addr} {σ : St} {δ : En} {s : S} {H : Hp}, Gd B r sa H0 O0 W O σ δ s H → ∀ Q : Bool → Hp → Prop, (f δ s).post (OkT B r sa H Q) (EPost B E r sa H O) → t σ H Q
def RdA (B : Bs) (W : List Nat) (E : Option XK) (t : TA) (f : En → M (List D)) : Prop :=
  ∀ {r sa : Addr} {H0 : Hp} {O0 O : List Addr} {σ : St} {δ : En} {s : S} {H : Hp}, Gd B r sa H0 O0 W O σ δ s H → ∀ Q : List V → Hp → Prop, (f δ s).post (OkA B r sa H O Q) (EPost B E r sa H O) → t σ H Q

/-- of a value or none -/
def lift {α : Type} (o : Option α) (s : S) : Out α := match o with | some a => .ok a s | none => .stuck
@[simp] theorem lift_some {α : Type} (a : α) (s : S) : lift (some a) s = .ok a s := rfl
@[simp] theorem lift_none {α : Type} (s : S) : lift (none : Option α) s = .stuck := rfl
theorem post_lift {α : Type} {o : Option α} {s : S} {P : α → S → Prop} {R : Err → S → Prop} (h : (lift o s).post P R) : ∃ a, o = some a ∧ P a s := by
  cases o with
  | none => exact h.elim
  | some a => exact ⟨a, rfl, h⟩

def cVar (i : Nat) : En → M D := fun δ s => lift (δ[i]?.join) s
def cC (d : D) : En → M D := fun _ s => .ok d s
def cOp (g : D → D → Option D) (fa fb : En → M D) : En → M D := fun δ s => (fa δ s).bind fun x s1 => (fb δ s1).bind fun y s2 => lift (g x y) s2
def cUn (g : D → Option D) (fa : En → M D) : En → M D := fun δ s => (fa δ s).bind fun x s1 => lift (g x) s1
def cNil : En → M (List D) := fun _ s => .ok [] s
def cCons (fa : En → M D) (fr : En → M (List D)) : En → M (List D) := fun δ s => (fa δ s).bind fun x s1 => (fr δ s1).bind fun xs s2 => .ok (x :: xs) s2
def cB (g : List D → Option D) (fa : En → M (List D)) : En → M D := fun δ s => (fa δ s).bind fun ds s1 => lift (g ds) s1
def asB : D → Option Bool | .bl b => some b | _ => none
def cTst (f : En → M D) : En → M Bool := fun δ s => (f δ s).bind fun d s1 => lift (asB d) s1
def cAnd (fa fb : En → M Bool) : En → M Bool := fun δ s => (fa δ s).bind fun b s1 => if b then fb δ s1 else .ok false s1
def cOr (fa fb : En → M Bool) : En → M Bool := fun δ s => (fa δ s).bind fun b s1 => if b then .ok true s1 else fb δ s1
def cNot (fa : En → M Bool) : En → M Bool := fun δ s => (fa δ s).bind fun b s1 => .ok (!b) s1
def cAndV (fa fb : En → M D) : En → M D := fun δ s => (fa δ s).bind fun d s1 => (lift (asB d) s1).bind fun b s2 => if b then fb δ s2 else .ok (.bl false) s2
def cOrV (fa fb : En → M D) : En → M D := fun δ s => (fa δ s).bind fun d s1 => (lift (asB d) s1).bind fun b s2 => if b then .ok (.bl true) s2 else fb δ s2
def cNotV (fa : En → M D) : En → M D := fun δ s => (fa δ s).bind fun d s1 => (lift (asB d) s1).bind fun b s2 => .ok (.bl (!b)) s2
def cIf (c : En → M Bool) (fa fb : En → M D) : En → M D := fun δ s => (c δ s).bind fun b s1 => if b then fa δ s1 else fb δ s1
def cTup (fa : En → M (List D)) : En → M D := fun δ s => (fa δ s).bind fun ds s1 => if ds.length ≤ 100000 then .ok (.tup ds) s1 else .stuck
def cLst (fa : En → M (List D)) : En → M D := fun δ s => (fa δ s).bind fun ds s1 => if ds.length ≤ 100000 then .ok (.lst ds) s1 else .stuck
def scal : D → Bool | .non => true | .bl _ => true | .int _ => true | .str _ => true | _ => false
def calmO {α : Type} (p : α → Bool) : Out α → Out α | .ok a s => if p a then .ok a s else .stuck | _ => .stuck
theorem post_calm {α : Type} {p : α → Bool} {o : Out α} {P : α → S → Prop} {R R' : Err → S → Prop} (h : (calmO p o).post P R) : o.post (fun a s => p a = true ∧ P a s) R' := by
  cases o with
  | stuck => exact h
  | err e s => exact h.elim
  | ok a s =>
    have h : (if p a then Out.ok a s else Out.stuck).post P R := h
    cases q : p a with
    | true => rw [q] at h; exact ⟨q, h⟩
    | false => rw [q] at h; exact h.elim
def cScal (f : En → M D) : En → M D := fun δ s => calmO scal (f δ s)
def cPk (f : En → M Bool) : En → M Bool := fun δ s => calmO (fun _ => true) (f δ s)
def cChain (g g' : D → D → Option D) (fa fb fc : En → M D) : En → M D := fun δ s => (fa δ s).bind fun x s1 => (fb δ s1).bind fun y s2 => (lift (g x y) s2).bind fun z s3 => (lift (asB z) s3).bind fun b s4 => if b then (fc δ s4).bind fun w s5 => lift (g' y w) s5 else .ok (.bl false) s4

/-- operations by values -/
def OpS (B : Bs) (r2 : R2) (g : D → D → Option D) : Prop := ∀ (r : Addr) (O : List Addr) (H : Hp) (x y : V) (dx dy d : D) (Q : VK), (∀ p ∈ O, H p ≠ none) → Rep B r (hid H O) x dx → Rep B r (hid H O) y dy → g dx dy = some d →
  (∀ v H', Same H H' → Rep B r (hid H' O) v d → Q v H') → r2 x y H Q
def UnS (B : Bs) (r1 : V → Hp → VK → Prop) (g : D → Option D) : Prop := ∀ (r : Addr) (O : List Addr) (H : Hp) (x : V) (dx d : D) (Q : VK), (∀ p ∈ O, H p ≠ none) → Rep B r (hid H O) x dx → g dx = some d →
  (∀ v H', Same H H' → Rep B r (hid H' O) v d → Q v H') → r1 x H Q
def CaS (B : Bs) (rc : List V → Hp → VK → Prop) (g : List D → Option D) : Prop := ∀ (r : Addr) (O : List Addr) (H : Hp) (xs : List V) (ds : List D) (d : D) (Q : VK), (∀ p ∈ O, H p ≠ none) → Reps B r (hid H O) xs ds → g ds = some d →
  (∀ v H', Same H H' → Rep B r (hid H' O) v d → Q v H') → rc xs H Q

section
variable {B : Bs} {W : List Nat} {E : Option XK} {ta tb tc te : TE} {tA tB' : TT} {tr : TA} {fa fb fc : En → M D} {ba bb : En → M Bool} {fr : En → M (List D)} {r2 r2' : R2} {g g' : D → D → Option D}

theorem rd_var {i : Nat} (hi : decide (i ∉ W) = true := by rfl) : RdE B W E (tVar i) (cVar i) := by
  intro r sa H0 O0 O σ δ s H gd Q h
  obtain ⟨d, e, h⟩ := post_lift h
  obtain ⟨v, h1, h2⟩ := gd.val i d (of_decide_eq_true hi) (by
    cases q : δ[i]? with
    | none => rw [q] at e; cases e
    | some o => rw [q] at e; cases o with
      | none => cases e
      | some d' => cases (Option.some.inj e : d' = d); rfl)
  exact ⟨v, h1, h v H (Stp.refl H) gd.row h2⟩
theorem rd_c {v : V} {d : D} (hv : ∀ r H, Rep B r H v d) : RdE B W E (tC v) (cC d) := by
  intro r sa H0 O0 O σ δ s H gd Q h
  exact h v H (Stp.refl H) gd.row (hv r _)
theorem rd_int {i : Int} : RdE B W E (tC (.int i)) (cC (.int i)) := rd_c fun _ _ => .int i
theorem rd_bl {b : Bool} : RdE B W E (tC (.bl b)) (cC (.bl b)) := rd_c fun _ _ => .bl b
theorem rd_non : RdE B W E (tC .non) (cC .non) := rd_c fun _ _ => .non
theorem rd_str {x : Str} : RdE B W E (tC (.str x)) (cC (.str x)) := rd_c fun _ _ => .str x

theorem rd_op (ho : OpS B r2 g) (ha : RdE B W E ta fa) (hb : RdE B W E tb fb) : RdE B W E (tOp r2 ta tb) (cOp g fa fb) := by
  intro r sa H0 O0 O σ δ s H gd Q h
  refine ha gd _ (post_mono (post_bind h) (fun x s1 hx v H1 st ra rp => ?_) (fun _ _ z => z))
  refine hb (gd.step st ra) _ (post_mono (post_bind hx) (fun y s2 hy w H2 st2 ra2 rp2 => ?_) (fun _ _ z => z.mono st))
  obtain ⟨d, e, hd⟩ := post_lift hy
  have gd2 := (gd.step st ra).step st2 ra2
  refine ho r O H2 v w x y d Q gd2.dom (rp.mono (st2.hid gd.rO)) rp2 e fun u H3 sm rp3 => hd u H3 ((st.trans st2).trans (Stp.of sm)) (ra2.same sm) rp3
theorem rd_un {r1 : V → Hp → VK → Prop} {g : D → Option D} (ho : UnS B r1 g) (ha : RdE B W E ta fa) : RdE B W E (tUn r1 ta) (cUn g fa) := by
  intro r sa H0 O0 O σ δ s H gd Q h
  refine ha gd _ (post_mono (post_bind h) (fun x s1 hx v H1 st ra rp => ?_) (fun _ _ z => z))
  obtain ⟨d, e, hd⟩ := post_lift hx
  refine ho r O H1 v x d Q (gd.step st ra).dom rp e fun u H3 sm rp3 => hd u H3 (st.trans (Stp.of sm)) (ra.same sm) rp3
theorem rd_nil : RdA B W E tNil cNil := by
  intro r sa H0 O0 O σ δ s H gd Q h
  exact h [] H (Stp.refl H) gd.row .nil
theorem rd_cons (ha : RdE B W E ta fa) (hb : RdA B W E tr fr) : RdA B W E (tCons ta tr) (cCons fa fr) := by
  intro r sa H0 O0 O σ δ s H gd Q h
  refine ha gd _ (post_mono (post_bind h) (fun x s1 hx v H1 st ra rp => ?_) (fun _ _ z => z))
  refine hb (gd.step st ra) _ (post_mono (post_bind hx) (fun y s2 hy w H2 st2 ra2 rp2 => ?_) (fun _ _ z => z.mono st))
  exact hy _ _ (st.trans st2) ra2 (.cons (rp.mono (st2.hid gd.rO)) rp2)
theorem rd_b {rc : List V → Hp → VK → Prop} {g : List D → Option D} (ho : CaS B rc g) (ha : RdA B W E tr fr) : RdE B W E (tCB rc tr) (cB g fr) := by
  intro r sa H0 O0 O σ δ s H gd Q h
  refine ha gd _ (post_mono (post_bind h) (fun x s1 hx v H1 st ra rp => ?_) (fun _ _ z => z))
  obtain ⟨d, e, hd⟩ := post_lift hx
  refine ho r O H1 v x d Q (gd.step st ra).dom rp e fun u H3 sm rp3 => hd u H3 (st.trans (Stp.of sm)) (ra.same sm) rp3
theorem rep_bl {r : Addr} {H : Hp} {v : V} {d : D} {b : Bool} (h : Rep B r H v d) (e : asB d = some b) : v = .bl b ∧ d = .bl b := by
  cases d <;> simp [asB] at e
  subst e
  cases h; exact ⟨rfl, rfl⟩
theorem rt_b (ha : RdE B W E ta fa) : RdT B W E (tB ta) (cTst fa) := by
  intro r sa H0 O0 O σ δ s H gd Q h
  refine ha gd _ (post_mono (post_bind h) (fun x s1 hx v H1 st ra rp => ?_) (fun _ _ z => z))
  obtain ⟨b, e, hd⟩ := post_lift hx
  exact ⟨b, (rep_bl rp e).1, hd H1 st ra⟩
theorem rt_and (ha : RdT B W E tA ba) (hb : RdT B W E tB' bb) : RdT B W E (tAnd tA tB') (cAnd ba bb) := by
  intro r sa H0 O0 O σ δ s H gd Q h
  refine ha gd _ (post_mono (post_bind h) (fun b s1 hx H1 st ra => ?_) (fun _ _ z => z))
  cases b with
  | true => exact hb (gd.step st ra) Q (post_mono hx (fun c s2 q H2 st2 ra2 => q H2 (st.trans st2) ra2) (fun _ _ z => z.mono st))
  | false => exact hx H1 st ra
theorem rt_or (ha : RdT B W E tA ba) (hb : RdT B W E tB' bb) : RdT B W E (tOr tA tB') (cOr ba bb) := by
  intro r sa H0 O0 O σ δ s H gd Q h
  refine ha gd _ (post_mono (post_bind h) (fun b s1 hx H1 st ra => ?_) (fun _ _ z => z))
  cases b with
  | false => exact hb (gd.step st ra) Q (post_mono hx (fun c s2 q H2 st2 ra2 => q H2 (st.trans st2) ra2) (fun _ _ z => z.mono st))
  | true => exact hx H1 st ra
theorem rt_not (ha : RdT B W E tA ba) : RdT B W E (tNot tA) (cNot ba) := by
  intro r sa H0 O0 O σ δ s H gd Q h
  refine ha gd _ (post_mono (post_bind h) (fun b s1 hx H1 st ra => ?_) (fun _ _ z => z))
  exact hx H1 st ra
theorem rd_andV (ha : RdE B W E ta fa) (hb : RdE B W E tb fb) : RdE B W E (tAndV ta tb) (cAndV fa fb) := by
  intro r sa H0 O0 O σ δ s H gd Q h
  refine ha gd _ (post_mono (post_bind h) (fun x s1 hx v H1 st ra rp => ?_) (fun _ _ z => z))
  obtain ⟨b, e, hd⟩ := post_lift (post_bind hx)
  refine ⟨b, (rep_bl rp e).1, ?_⟩
  cases b with
  | true => exact hb (gd.step st ra) Q (post_mono hd (fun c s2 q w H2 st2 ra2 => q w H2 (st.trans st2) ra2) (fun _ _ z => z.mono st))
  | false => exact hd _ H1 st ra (.bl false)
theorem rd_orV (ha : RdE B W E ta fa) (hb : RdE B W E tb fb) : RdE B W E (tOrV ta tb) (cOrV fa fb) := by
  intro r sa H0 O0 O σ δ s H gd Q h
  refine ha gd _ (post_mono (post_bind h) (fun x s1 hx v H1 st ra rp => ?_) (fun _ _ z => z))
  obtain ⟨b, e, hd⟩ := post_lift (post_bind hx)
  refine ⟨b, (rep_bl rp e).1, ?_⟩
  cases b with
  | false => exact hb (gd.step st ra) Q (post_mono hd (fun c s2 q w H2 st2 ra2 => q w H2 (st.trans st2) ra2) (fun _ _ z => z.mono st))
  | true => exact hd _ H1 st ra (.bl true)
theorem rd_notV (ha : RdE B W E ta fa) : RdE B W E (tNotV ta) (cNotV fa) := by
  intro r sa H0 O0 O σ δ s H gd Q h
  refine ha gd _ (post_mono (post_bind h) (fun x s1 hx v H1 st ra rp => ?_) (fun _ _ z => z))
  obtain ⟨b, e, hd⟩ := post_lift (post_bind hx)
  exact ⟨b, (rep_bl rp e).1, hd _ H1 st ra (.bl _)⟩
theorem rd_if (hc : RdT B W E tA ba) (ha : RdE B W E ta fa) (hb : RdE B W E tb fb) : RdE B W E (tIf tA ta tb) (cIf ba fa fb) := by
  intro r sa H0 O0 O σ δ s H gd Q h
  refine hc gd _ (post_mono (post_bind h) (fun b s1 hx H1 st ra => ?_) (fun _ _ z => z))
  cases b with
  | true => exact ha (gd.step st ra) Q (post_mono hx (fun c s2 q w H2 st2 ra2 => q w H2 (st.trans st2) ra2) (fun _ _ z => z.mono st))
  | false => exact hb (gd.step st ra) Q (post_mono hx (fun c s2 q w H2 st2 ra2 => q w H2 (st.trans st2) ra2) (fun _ _ z => z.mono st))
/-- a new object is seen -/
theorem same_new {H : Hp} {p : Addr} {o : HO} (h : H p = none) : Same H (upd H p o) := fun b x e => by
  rw [upd_ne (ne_of_none e h)]; exact e
theorem hid_new {H : Hp} {O : List Addr} {p : Addr} {o : HO} (h : H p = none) (hd : ∀ q ∈ O, H q ≠ none) : Same (hid H O) (hid (upd H p o) O) ∧ hid (upd H p o) O p = some o := by
  have hp : p ∉ O := fun z => hd p z h
  refine ⟨fun a u e => ?_, by rw [hid_out hp, upd_same]⟩
  have ⟨h1, h2⟩ := hid_some e
  rw [hid_out h1, upd_ne (ne_of_none h2 h)]; exact h2
theorem hid_same {H H' : Hp} {O : List Addr} (e : Same H H') : Same (hid H O) (hid H' O) := fun a o q => by
  have ⟨h1, h2⟩ := hid_some q
  rw [hid_out h1]; exact e a o h2
theorem rd_tup (ha : RdA B W E tr fr) : RdE B W E (tTup tr) (cTup fr) := by
  intro r sa H0 O0 O σ δ s H gd Q h
  refine ha gd _ (post_mono (post_bind h) (fun x s1 hx v H1 st ra rp => ?_) (fun _ _ z => z))
  split at hx
  · rename_i hl
    refine ⟨Evl.sz_of (by rw [rp.length]; exact hl), fun p hp => ?_⟩
    have ⟨a1, a2⟩ := hid_new (O := O) (o := .tup v) hp (gd.step st ra).dom
    exact hx _ _ (st.trans (Stp.new hp)) (ra.new hp) (.tup (SqT.of a2) (rp.mono a1))
  · exact hx.elim
theorem rd_lst (ha : RdA B W E tr fr) : RdE B W E (tLst tr) (cLst fr) := by
  intro r sa H0 O0 O σ δ s H gd Q h
  refine ha gd _ (post_mono (post_bind h) (fun x s1 hx v H1 st ra rp => ?_) (fun _ _ z => z))
  split at hx
  · rename_i hl
    refine ⟨Evl.sz_of (by rw [rp.length]; exact hl), fun p hp => ?_⟩
    have ⟨a1, a2⟩ := hid_new (O := O) (o := .lst v) hp (gd.step st ra).dom
    exact hx _ _ (st.trans (Stp.new hp)) (ra.new hp) (.lst a2 (rp.mono a1))
  · exact hx.elim
theorem rd_chain (ho : OpS B r2 g) (ho' : OpS B r2' g') (ha : RdE B W E ta fa) (hb : RdE B W E tb fb) (hc : RdE B W E tc fc) : RdE B W E (tChain r2 r2' ta tb tc) (cChain g g' fa fb fc) := by
  intro r sa H0 O0 O σ δ s H gd Q h
  refine ha gd _ (post_mono (post_bind h) (fun x s1 hx v H1 st ra rp => ?_) (fun _ _ z => z))
  refine hb (gd.step st ra) _ (post_mono (post_bind hx) (fun y s2 hy w H2 st2 ra2 rp2 => ?_) (fun _ _ z => z.mono st))
  obtain ⟨d, e, hd⟩ := post_lift (post_bind hy)
  have gd2 := (gd.step st ra).step st2 ra2
  refine ho r O H2 v w x y d _ gd2.dom (rp.mono (st2.hid gd.rO)) rp2 e fun u H3 sm rp3 => ?_
  obtain ⟨b, e2, hd⟩ := post_lift (post_bind hd)
  refine ⟨b, (rep_bl rp3 e2).1, ?_⟩
  have st3 : Stp r H H3 := (st.trans st2).trans (Stp.of sm)
  have gd3 := gd.step st3 (ra2.same sm)
  cases b with
  | false => exact hd _ H3 st3 gd3.row (.bl false)
  | true =>
    refine hc gd3 _ (post_mono (post_bind hd) (fun z s4 hz q H4 st4 ra4 rp4 => ?_) (fun _ _ z => z.mono st3))
    obtain ⟨d', e', hd'⟩ := post_lift hz
    have gd4 := gd3.step st4 ra4
    refine ho' r O H4 w q y z d' Q gd4.dom (rp2.mono ((hid_same sm).trans (st4.hid gd.rO))) rp4 e' fun u H5 sm5 rp5 => hd' u H5 (st3.trans (st4.trans (Stp.of sm5))) (ra4.same sm5) rp5
/-- a slot that is owned is looked at: what comes out is a scalar -/
theorem Gd.peek {r sa : Addr} {H0 : Hp} {O0 O : List Addr} {σ : St} {δ : En} {s : S} {H : Hp} {i : Nat} (gd : Gd B r sa H0 O0 W O σ δ s H) : ∃ O', Gd B r sa H0 O0 (W.filter (· != i)) O' σ δ s H ∧ (∀ a ∈ O', a ∈ O) := by
  by_cases hi : i ∈ W
  · cases e : δ[i]?.join with
    | none =>
      refine ⟨O, ⟨gd.len, gd.row, gd.r0, gd.dom, gd.dom0, gd.sub, gd.frsh, gd.stp, fun j d hj q => ?_, fun j d hj q => gd.own j d (List.mem_filter.mp hj).1 q, fun j k p d e' hj hk => gd.inj j k p d e' (List.mem_filter.mp hj).1 (List.mem_filter.mp hk).1⟩, fun _ h => h⟩
      by_cases hjW : j ∈ W
      · have : j = i := by
          by_cases z : j = i
          · exact z
          · exact absurd (List.mem_filter.mpr ⟨hjW, by simp [z]⟩) hj
        subst this
        rw [q] at e; cases e
      · exact gd.val j d hjW q
    | some d0 =>
      have e0 : δ[i]? = some (some d0) := by
        cases q : δ[i]? with
        | none => rw [q] at e; cases e
        | some o => rw [q] at e; cases o with
          | none => cases e
          | some d' => cases (Option.some.inj e : d' = d0); rfl
      obtain ⟨p, vs, ds, h1, h2, h3, h4, h5, h6⟩ := gd.own i d0 hi e0
      have hsub : ∀ a ∈ O.filter (· != p), a ∈ O := fun a h => (List.mem_filter.mp h).1
      have sm : Same (hid H O) (hid H (O.filter (· != p))) := hid_sub hsub
      have pn : p ∉ O.filter (· != p) := fun z => by have := (List.mem_filter.mp z).2; simp at this
      refine ⟨O.filter (· != p), ⟨gd.len, gd.row, gd.r0, fun q hq => gd.dom q (hsub q hq), gd.dom0, fun q hq => List.mem_filter.mpr ⟨gd.sub q hq, ?_⟩, fun q hq => gd.frsh q (hsub q hq), gd.stp, fun j d hj q => ?_, fun j d hj q => ?_, fun j k p d e' hj hk => gd.inj j k p d e' (List.mem_filter.mp hj).1 (List.mem_filter.mp hk).1⟩, hsub⟩
      · have : q ≠ p := fun z => h4 (z ▸ hq)
        simp [this]
      · by_cases hjW : j ∈ W
        · have : j = i := by
            by_cases z : j = i
            · exact z
            · exact absurd (List.mem_filter.mpr ⟨hjW, by simp [z]⟩) hj
          subst this
          rw [e0] at q
          cases q
          subst h1
          exact ⟨_, h2, .lst (by rw [hid_out pn]; exact h5) (h6.mono sm)⟩
        · obtain ⟨v, q1, q2⟩ := gd.val j d hjW q
          exact ⟨v, q1, q2.mono sm⟩
      · obtain ⟨p', vs', ds', q1, q2, q3, q4, q5, q6⟩ := gd.own j d (List.mem_filter.mp hj).1 q
        have hne : p' ≠ p := fun z => by
          have nj : i ≠ j := fun z => by have := (List.mem_filter.mp hj).2; simp [z] at this
          exact gd.inj i j p d0 d hi (List.mem_filter.mp hj).1 nj e0 q h2 (z ▸ q2)
        exact ⟨p', vs', ds', q1, q2, List.mem_filter.mpr ⟨q3, by simp [hne]⟩, q4, q5, q6.mono sm⟩
  · refine ⟨O, ?_, fun _ h => h⟩
    have e : W.filter (· != i) = W := by
      refine List.filter_eq_self.mpr fun a ha => ?_
      have : a ≠ i := fun z => hi (z ▸ ha)
      simp [this]
    rw [e]; exact gd
theorem XRep.mono {r : Addr} {H H' : Hp} {e : Err} {cl : Value} {d : Option Addr} (sm : Same H H') (h : XRep B r H e cl d) : XRep B r H' e cl d := by
  refine ⟨h.1, ?_⟩
  rcases h.2 with h | ⟨dx, fs, vs, h1, h2, h3, h4⟩
  · exact .inl h
  · exact .inr ⟨dx, fs, vs, h1, sm _ _ h2, h3, h4.mono sm⟩
theorem rep_scal {r : Addr} {H H' : Hp} {v : V} {d : D} (h : Rep B r H v d) (hs : scal d = true) : Rep B r H' v d := by
  cases h <;> first | (cases hs; done) | (constructor; done)
theorem rd_peek {i : Nat} {W' : List Nat} (hW : W.filter (· != i) = W') (h : RdE B W' E te fa) : RdE B W E te (cScal fa) := by
  intro r sa H0 O0 O σ δ s H gd Q hp
  obtain ⟨O', gd', sub⟩ := gd.peek (i := i)
  rw [hW] at gd'
  exact h gd' _ (post_mono (post_calm (R' := EPost B E r sa H O') hp) (fun x s1 hx v H1 st ra rp => hx.2 v H1 st ra (rep_scal rp hx.1)) (fun _ _ z => z))
theorem rt_peek {i : Nat} {W' : List Nat} (hW : W.filter (· != i) = W') (h : RdT B W' E tA ba) : RdT B W E tA (cPk ba) := by
  intro r sa H0 O0 O σ δ s H gd Q hp
  obtain ⟨O', gd', sub⟩ := gd.peek (i := i)
  rw [hW] at gd'
  exact h gd' _ (post_mono (post_calm (R' := EPost B E r sa H O') hp) (fun x s1 hx H1 st ra => hx.2 H1 st ra) (fun _ _ z => z))
end
end PV

namespace PV
open PySem L2
section
variable {B : Bs} {r : Addr} {H : Hp} {v : V}
theorem Rep.inv_int {i : Int} (h : Rep B r H v (.int i)) : v = .int i := by cases h; rfl
theorem Rep.inv_bl {b : Bool} (h : Rep B r H v (.bl b)) : v = .bl b := by cases h; rfl
theorem Rep.inv_str {x : Str} (h : Rep B r H v (.str x)) : v = .str x := by cases h; rfl
theorem Rep.inv_non (h : Rep B r H v .non) : v = .non := by cases h; rfl
theorem Rep.inv_tup {ds : List D} (h : Rep B r H v (.tup ds)) : ∃ a vs, v = .ref a ∧ SqT B.K H a vs ∧ Reps B r H vs ds := by cases h with | tup h hs => exact ⟨_, _, rfl, h, hs⟩
theorem Rep.inv_lst {ds : List D} (h : Rep B r H v (.lst ds)) : ∃ a vs, v = .ref a ∧ H a = some (.lst vs) ∧ Reps B r H vs ds := by cases h with | lst h hs => exact ⟨_, _, rfl, h, hs⟩
theorem sqT_le {K : PySem.W.Frag} {H : Hp} {O : List Addr} {a : Addr} {xs : List V} (h : SqT K (hid H O) a xs) : SqT K H a xs := same_t hid_le h
theorem new_tup {H : Hp} {O : List Addr} {p : Addr} {vs : List V} {ds : List D} (hp : H p = none) (hd : ∀ q ∈ O, H q ≠ none) (h : Reps B r (hid H O) vs ds) : Rep B r (hid (upd H p (.tup vs)) O) (.ref p) (.tup ds) := by
  have ⟨a1, a2⟩ := hid_new (O := O) (o := .tup vs) hp hd
  exact .tup (SqT.of a2) (h.mono a1)
theorem new_lst {H : Hp} {O : List Addr} {p : Addr} {vs : List V} {ds : List D} (hp : H p = none) (hd : ∀ q ∈ O, H q ≠ none) (h : Reps B r (hid H O) vs ds) : Rep B r (hid (upd H p (.lst vs)) O) (.ref p) (.lst ds) := by
  have ⟨a1, a2⟩ := hid_new (O := O) (o := .lst vs) hp hd
  exact .lst a2 (h.mono a1)
end

/-! ### arithmetic -/
def gAdd : D → D → Option D
  | .int i, .int j => some (.int (i + j))
  | .lst xs, .lst ys => if xs.length + ys.length ≤ 100000 then some (.lst (xs ++ ys)) else none
  | .tup xs, .tup ys => if xs.length + ys.length ≤ 100000 then some (.tup (xs ++ ys)) else none
  | .str x, .str y => if x.length + y.length ≤ 100000 then some (.str (x ++ y)) else none
  | _, _ => none
def rAddS' : R2 := fun x y H Q => ∃ i j, x = .str i ∧ y = .str j ∧ i.length + j.length ≤ sizeLine ∧ Q (.str (i ++ j)) H
def rAddU (K : PySem.W.Frag) : R2 := fun x y H Q => rI0 (fun i j => .int (i + j)) x y H Q ∨ (rCat x y H Q ∨ (rCatA K x y H Q ∨ rAddS' x y H Q))
theorem op_addU {X : Cx} : OpR X (binaryOp .Add) (rAddU X.K) := OpR.or op_add (OpR.or op_cat (OpR.or op_catA op_add_str))
theorem os_add {B : Bs} : OpS B (rAddU B.K) gAdd := by
  intro r O H x y dx dy d Q hd rx ry e q
  unfold gAdd at e
  split at e
  · cases e; cases rx; cases ry
    exact .inl ⟨_, _, rfl, rfl, q _ H (Same.refl H) (.int _)⟩
  · split at e
    · rename_i hl
      cases e
      obtain ⟨a, vs, rfl, ha, hs⟩ := rx.inv_lst
      obtain ⟨b, ws, rfl, hb, ht⟩ := ry.inv_lst
      refine .inr (.inl ⟨a, b, vs, ws, rfl, rfl, hid_le _ _ ha, hid_le _ _ hb, Evl.sz_of (by rw [hs.length, ht.length]; exact hl), fun p hp => ?_⟩)
      exact q _ _ (same_new hp) (new_lst hp hd (hs.append ht))
    · cases e
  · split at e
    · rename_i hl
      cases e
      obtain ⟨a, vs, rfl, ha, hs⟩ := rx.inv_tup
      obtain ⟨b, ws, rfl, hb, ht⟩ := ry.inv_tup
      refine .inr (.inr (.inl ⟨a, b, vs, ws, rfl, rfl, sqT_le ha, sqT_le hb, Evl.sz_of (by rw [hs.length, ht.length]; exact hl), fun e => ?_, fun _ e => ?_, fun _ _ p hp => ?_⟩))
      · subst e
        cases hs
        exact q _ H (Same.refl H) ry
      · subst e
        cases ht
        rw [List.append_nil] at q
        exact q _ H (Same.refl H) rx
      · exact q _ _ (same_new hp) (new_tup hp hd (hs.append ht))
    · cases e
  · split at e
    · rename_i hl
      cases e; cases rx; cases ry
      exact .inr (.inr (.inr ⟨_, _, rfl, rfl, Evl.sz_of hl, q _ H (Same.refl H) (.str _)⟩))
    · cases e
  · cases e
def gI (f : Int → Int → D) : D → D → Option D
  | .int i, .int j => some (f i j)
  | _, _ => none
def gIc (c : Int → Int → Bool) (f : Int → Int → D) : D → D → Option D
  | .int i, .int j => if c i j then some (f i j) else none
  | _, _ => none
theorem os_i0 {B : Bs} {g : Int → Int → V} {f : Int → Int → D} (h : ∀ i j r H, Rep B r H (g i j) (f i j)) : OpS B (rI0 g) (gI f) := by
  intro r O H x y dx dy d Q hd rx ry e q
  unfold gI at e
  split at e
  · cases e; cases rx; cases ry
    exact ⟨_, _, rfl, rfl, q _ H (Same.refl H) (h _ _ _ _)⟩
  · cases e
theorem os_ic {B : Bs} {C : Int → Int → Prop} {c : Int → Int → Bool} {g : Int → Int → V} {f : Int → Int → D} (hc : ∀ i j, c i j = true → C i j) (h : ∀ i j r H, Rep B r H (g i j) (f i j)) : OpS B (rI C g) (gIc c f) := by
  intro r O H x y dx dy d Q hd rx ry e q
  unfold gIc at e
  split at e
  · split at e
    · rename_i z
      cases e; cases rx; cases ry
      exact ⟨_, _, rfl, rfl, hc _ _ z, q _ H (Same.refl H) (h _ _ _ _)⟩
    · cases e
  · cases e
def gDif := gI fun i j => .int (i - j)
theorem os_dif {B : Bs} : OpS B (rI0 fun i j => .int (i - j)) gDif := os_i0 fun _ _ _ _ => .int _
def okMul (i j : Int) : Bool := decide (i.natAbs.log2 + j.natAbs.log2 < 1000000)
def okDiv (i j : Int) : Bool := decide (0 < j ∧ j.natAbs.log2 < 9000)
def okMod (i j : Int) : Bool := decide (0 < j)
def okPow (i j : Int) : Bool := decide (0 ≤ j ∧ j ≤ 1000000 ∧ i.natAbs < 2 ^ 64)
def gFdiv := gIc okDiv fun i j => .int (i / j)
theorem os_fdiv {B : Bs} : OpS B (rI CDivW fun i j => .int (i / j)) gFdiv := os_ic (fun i j h => show 0 < j ∧ j.natAbs.log2 < 9000 from of_decide_eq_true h) fun _ _ _ _ => .int _
def gMod := gIc okMod fun i j => .int (i % j)
theorem os_mod {B : Bs} : OpS B (rI (fun _ j => 0 < j) fun i j => .int (i % j)) gMod := os_ic (fun _ _ h => of_decide_eq_true h) fun _ _ _ _ => .int _
def gPow := gIc okPow fun i j => .int (i ^ j.toNat)
theorem os_pow {B : Bs} : OpS B (rI CPow fun i j => .int (i ^ j.toNat)) gPow := os_ic (fun i j h => show 0 ≤ j ∧ j ≤ 1000000 ∧ i.natAbs < 2 ^ 64 from of_decide_eq_true h) fun _ _ _ _ => .int _
def gLt := gI fun i j => .bl (decide (i < j))
theorem os_lt {B : Bs} : OpS B (rI0 fun i j => .bl (decide (i < j))) gLt := os_i0 fun _ _ _ _ => .bl _
def gLe := gI fun i j => .bl (decide (i ≤ j))
theorem os_le {B : Bs} : OpS B (rI0 fun i j => .bl (decide (i ≤ j))) gLe := os_i0 fun _ _ _ _ => .bl _
def gGt := gI fun i j => .bl (decide (j < i))
theorem os_gt {B : Bs} : OpS B (rI0 fun i j => .bl (decide (j < i))) gGt := os_i0 fun _ _ _ _ => .bl _
def gGe := gI fun i j => .bl (decide (j ≤ i))
theorem os_ge {B : Bs} : OpS B (rI0 fun i j => .bl (decide (j ≤ i))) gGe := os_i0 fun _ _ _ _ => .bl _
/-- * : two ints, a list and an int, a tuple and an int above 1 -/
def gMul : D → D → Option D
  | .int i, .int j => if okMul i j then some (.int (i * j)) else none
  | .lst xs, .int k => if k ≤ 100000 ∧ -100000 ≤ k ∧ xs.length * k.toNat ≤ 100000 then some (.lst (List.replicate k.toNat xs).flatten) else none
  | .tup xs, .int k => if xs ≠ [] ∧ 2 ≤ k ∧ k ≤ 1000 ∧ xs.length ≤ 1000 then some (.tup (List.replicate k.toNat xs).flatten) else none
  | _, _ => none
instance {α : Type} (xs : List α) : Decidable (xs ≠ []) := match xs with | [] => isFalse (fun h => h rfl) | _ :: _ => isTrue (by simp)
def rMulU (K : PySem.W.Frag) : R2 := fun x y H Q => rI CMulW (fun i j => .int (i * j)) x y H Q ∨ (rRep x y H Q ∨ rRepT K x y H Q)
theorem op_mulU {X : Cx} : OpR X (binaryOp .Mult) (rMulU X.K) := OpR.or op_mulW (OpR.or op_rep op_repT)
theorem os_mul {B : Bs} : OpS B (rMulU B.K) gMul := by
  intro r O H x y dx dy d Q hd rx ry e q
  unfold gMul at e
  split at e
  · split at e
    · rename_i z
      cases e; cases rx; cases ry
      exact .inl ⟨_, _, rfl, rfl, (show _ + _ < _ from of_decide_eq_true z), q _ H (Same.refl H) (.int _)⟩
    · cases e
  · split at e
    · rename_i hl
      cases e; cases ry
      obtain ⟨a, vs, rfl, ha, hs⟩ := rx.inv_lst
      refine .inr (.inl ⟨a, _, vs, rfl, rfl, hid_le _ _ ha, by omega, by omega, Evl.sz_of (by rw [hs.length]; exact hl.2.2), fun p hp => ?_⟩)
      exact q _ _ (same_new hp) (new_lst hp hd (hs.flat _))
    · cases e
  · split at e
    · rename_i hl
      cases e; cases ry
      obtain ⟨a, vs, rfl, ha, hs⟩ := rx.inv_tup
      refine .inr (.inr ⟨a, _, vs, rfl, rfl, sqT_le ha, ?_, hl.2.1, hl.2.2.1, by rw [hs.length]; exact hl.2.2.2, fun p hp => ?_⟩)
      · intro z; subst z; cases hs; exact hl.1 rfl
      · exact q _ _ (same_new hp) (new_tup hp hd (hs.flat _))
    · cases e
  · cases e

/-! ### is None, ==, in -/
def isNonB : D → Bool | .non => true | _ => false
def gIsN : D → D → Option D := fun x y => if isNonB y then some (.bl (isNonB x)) else none
def gNotN : D → D → Option D := fun x y => if isNonB y then some (.bl (!isNonB x)) else none
theorem rep_isNon {B : Bs} {r : Addr} {H : Hp} {v : V} {d : D} (h : Rep B r H v d) : decide (v = .non) = isNonB d := by cases h <;> rfl
theorem os_isN {B : Bs} : OpS B (fun x y H Q => y = .non ∧ Q (.bl (decide (x = .non))) H) gIsN := by
  intro r O H x y dx dy d Q hd rx ry e q
  unfold gIsN at e
  split at e
  · rename_i h
    cases e
    have : dy = .non := by cases dy <;> first | rfl | (cases h)
    subst this; cases ry
    exact ⟨rfl, q _ H (Same.refl H) (by rw [rep_isNon rx]; exact .bl _)⟩
  · cases e
theorem os_notN {B : Bs} : OpS B (fun x y H Q => y = .non ∧ Q (.bl (!decide (x = .non))) H) gNotN := by
  intro r O H x y dx dy d Q hd rx ry e q
  unfold gNotN at e
  split at e
  · rename_i h
    cases e
    have : dy = .non := by cases dy <;> first | rfl | (cases h)
    subst this; cases ry
    exact ⟨rfl, q _ H (Same.refl H) (by rw [rep_isNon rx]; exact .bl _)⟩
  · cases e
mutual
/-- plain data of depth at most n -/
def toPy : D → Option PyData
  | .non => some .none
  | .bl b => some (.bool b)
  | .int i => some (.int i)
  | .str x => some (.str x)
  | .tup ds => (toPys ds).map .tuple
  | .lst ds => (toPys ds).map .list
  | _ => none
def toPys : List D → Option (List PyData)
  | [] => some []
  | d :: ds => match toPy d, toPys ds with | some p, some ps => some (p :: ps) | _, _ => none
end
mutual
theorem rep_dp {B : Bs} {r : Addr} {H : Hp} : ∀ {v : V} {d : D} {p : PyData}, Rep B r H v d → toPy d = some p → Dp B.K H v p
  | _, _, _, .non, e => by cases (Option.some.inj e : PyData.none = _); exact .non
  | _, _, _, .bl b, e => by cases (Option.some.inj e : PyData.bool b = _); exact .bl b
  | _, _, _, .int b, e => by cases (Option.some.inj e : PyData.int b = _); exact .int b
  | _, _, _, .str b, e => by cases (Option.some.inj e : PyData.str b = _); exact .str b
  | _, _, _, .tup h hs, e => by
    unfold toPy at e
    obtain ⟨ps, h1, h2⟩ := Option.map_eq_some_iff.mp e
    subst h2
    exact .tup h (reps_dp hs h1)
  | _, _, _, .lst h hs, e => by
    unfold toPy at e
    obtain ⟨ps, h1, h2⟩ := Option.map_eq_some_iff.mp e
    subst h2
    exact .lst (SqL.of h) (reps_dp hs h1)
  | _, _, _, .dic _ _ _ _, e => by cases e
  | _, _, _, .sal _ _ _, e => by cases e
  | _, _, _, .row, e => by cases e
theorem reps_dp {B : Bs} {r : Addr} {H : Hp} : ∀ {vs : List V} {ds : List D} {ps : List PyData}, Reps B r H vs ds → toPys ds = some ps → DpAll B.K H vs ps
  | _, _, _, .nil, e => by cases (Option.some.inj e : [] = _); exact .nil
  | _, _, _, .cons h hs, e => by
    unfold toPys at e
    split at e
    · rename_i p ps h1 h2
      cases e
      exact .cons (rep_dp h h1) (reps_dp hs h2)
    · cases e
end
def pyOk (d : D) : Option PyData := match toPy d with | some p => if SeqAt.shaped p then some p else none | none => none
theorem pyOk_some {d : D} {p : PyData} (h : pyOk d = some p) : toPy d = some p ∧ SeqAt.shaped p = true := by
  unfold pyOk at h
  split at h
  · split at h
    · cases h; exact ⟨by assumption, by assumption⟩
    · cases h
  · cases h
def eqD (x y : D) : Option Bool := match pyOk x, pyOk y with | some p, some q => some (PyData.eqv p q) | _, _ => none
def gEq : D → D → Option D := fun x y => (eqD x y).map .bl
def gNe : D → D → Option D := fun x y => (eqD x y).map fun b => .bl (!b)
theorem eqD_some {x y : D} {b : Bool} (h : eqD x y = some b) : ∃ p q, toPy x = some p ∧ toPy y = some q ∧ SeqAt.shaped p = true ∧ SeqAt.shaped q = true ∧ b = PyData.eqv p q := by
  unfold eqD at h
  split at h
  · rename_i p q h1 h2
    cases h
    exact ⟨p, q, (pyOk_some h1).1, (pyOk_some h2).1, (pyOk_some h1).2, (pyOk_some h2).2, rfl⟩
  · cases h
theorem os_eq {B : Bs} : OpS B (rEqD B.K) gEq := by
  intro r O H x y dx dy d Q hd rx ry e q
  obtain ⟨b, h1, h2⟩ := Option.map_eq_some_iff.mp e
  subst h2
  obtain ⟨p, p', e1, e2, s1, s2, rfl⟩ := eqD_some h1
  exact ⟨p, p', rep_dp (rx.mono hid_le) e1, rep_dp (ry.mono hid_le) e2, s1, s2, q _ H (Same.refl H) (.bl _)⟩
theorem os_ne {B : Bs} : OpS B (rNeD B.K) gNe := by
  intro r O H x y dx dy d Q hd rx ry e q
  obtain ⟨b, h1, h2⟩ := Option.map_eq_some_iff.mp e
  subst h2
  obtain ⟨p, p', e1, e2, s1, s2, rfl⟩ := eqD_some h1
  exact ⟨p, p', rep_dp (rx.mono hid_le) e1, rep_dp (ry.mono hid_le) e2, s1, s2, q _ H (Same.refl H) (.bl _)⟩
/-- == of scalars -/
def eqS : D → D → Bool
  | .non, .non => true
  | .bl a, .bl b => a == b
  | .bl a, .int b => (if a then 1 else 0) == b
  | .int a, .bl b => a == (if b then 1 else 0)
  | .int a, .int b => a == b
  | .str a, .str b => a == b
  | _, _ => false
def seqD : D → Option (List D) | .lst ds => some ds | .tup ds => some ds | _ => none
def inD (neg : Bool) (x y : D) : Option D := match seqD y with
  | some ds => if scal x && ds.all scal then some (.bl (if neg then !ds.any (eqS · x) else ds.any (eqS · x))) else none
  | none => none
def gIn := inD false
def gNotIn := inD true
theorem rep_flat {B : Bs} {r : Addr} {H : Hp} {v : V} {d : D} (h : Rep B r H v d) : scal d = flatV v := by cases h <;> rfl
theorem rep_eqV {B : Bs} {r : Addr} {H : Hp} {v w : V} {d e : D} (h : Rep B r H v d) (h' : Rep B r H w e) : eqV v w = eqS d e := by cases h <;> cases h' <;> rfl
theorem reps_all {B : Bs} {r : Addr} {H : Hp} : ∀ {vs : List V} {ds : List D}, Reps B r H vs ds → ds.all scal = vs.all flatV
  | _, _, .nil => rfl
  | _, _, .cons h hs => by rw [List.all_cons, List.all_cons, rep_flat h, reps_all hs]
theorem reps_in {B : Bs} {r : Addr} {H : Hp} {x : V} {dx : D} (hx : Rep B r H x dx) : ∀ {vs : List V} {ds : List D}, Reps B r H vs ds → inV x vs = ds.any (eqS · dx)
  | _, _, .nil => rfl
  | _, _, .cons h hs => by
    unfold inV
    rw [List.any_cons, List.any_cons, rep_eqV h hx]
    have := reps_in hx hs
    unfold inV at this
    rw [this]
theorem seq_inv {B : Bs} {r : Addr} {H : Hp} {v : V} {d : D} {ds : List D} (h : Rep B r H v d) (e : seqD d = some ds) : ∃ a vs, v = .ref a ∧ (SqL B.K H a vs ∨ SqT B.K H a vs) ∧ Reps B r H vs ds := by
  cases d <;> simp [seqD] at e
  · subst e; obtain ⟨a, vs, h1, h2, h3⟩ := h.inv_tup; exact ⟨a, vs, h1, .inr h2, h3⟩
  · subst e; obtain ⟨a, vs, h1, h2, h3⟩ := h.inv_lst; exact ⟨a, vs, h1, .inl (SqL.of h2), h3⟩
theorem sqLT_le {K : PySem.W.Frag} {H : Hp} {O : List Addr} {a : Addr} {xs : List V} (h : SqL K (hid H O) a xs ∨ SqT K (hid H O) a xs) : SqL K H a xs ∨ SqT K H a xs := h.elim (fun z => .inl (Evl.ex_l hid_le z)) (fun z => .inr (sqT_le z))
theorem os_inG {B : Bs} {neg : Bool} : OpS B (rIn B.K neg) (inD neg) := by
  intro r O H x y dx dy d Q hd rx ry e q
  unfold inD at e
  split at e
  · rename_i ds hs
    obtain ⟨a, vs, rfl, hq, hr⟩ := seq_inv ry hs
    split at e
    · rename_i hz
      cases e
      rw [Bool.and_eq_true] at hz
      refine ⟨a, vs, rfl, sqLT_le hq, by rw [← rep_flat rx]; exact hz.1, by rw [← reps_all hr]; exact hz.2, ?_⟩
      rw [reps_in rx hr]
      exact q _ H (Same.refl H) (.bl _)
    · cases e
  · cases e
theorem os_in {B : Bs} : OpS B (rIn B.K false) gIn := os_inG
theorem os_notIn {B : Bs} : OpS B (rIn B.K true) gNotIn := os_inG

/-! ### unary -/
def gNeg : D → Option D | .int i => some (.int (-i)) | _ => none
theorem us_neg {B : Bs} : UnS B (rU fun i => .int (-i)) gNeg := by
  intro r O H x dx d Q hd rx e q
  unfold gNeg at e
  split at e
  · cases e; cases rx; exact ⟨_, rfl, q _ H (Same.refl H) (.int _)⟩
  · cases e

/-! ### subscripts -/
def gIx : D → D → Option D
  | .tup ds, .int i => atI ds i
  | .lst ds, .int i => atI ds i
  | .str z, .int i => if z.length ≤ 100000 then (atI z.cps.toList i).map fun c => .str ⟨#[c]⟩ else none
  | _, _ => none
theorem reps_at {B : Bs} {r : Addr} {H : Hp} {vs : List V} {ds : List D} {i : Int} {d : D} (h : Reps B r H vs ds) (e : atI ds i = some d) : ∃ v, atI vs i = some v ∧ Rep B r H v d := by
  unfold atI at e ⊢
  rw [h.length]
  obtain ⟨j, h1, h2⟩ := Option.bind_eq_some_iff.mp e
  obtain ⟨v, h3, h4⟩ := h.get j d h2
  exact ⟨v, by rw [h1]; exact h3, h4⟩
theorem os_ix {B : Bs} : OpS B (rIx B.K) gIx := by
  intro r O H x y dx dy d Q hd rx ry e q
  unfold gIx at e
  split at e
  · cases ry
    obtain ⟨a, vs, rfl, ha, hs⟩ := rx.inv_tup
    obtain ⟨v, h1, h2⟩ := reps_at hs e
    exact .inr (.inl ⟨a, vs, _, v, rfl, rfl, sqT_le ha, h1, q _ H (Same.refl H) h2⟩)
  · cases ry
    obtain ⟨a, vs, rfl, ha, hs⟩ := rx.inv_lst
    obtain ⟨v, h1, h2⟩ := reps_at hs e
    exact .inl ⟨a, vs, _, v, rfl, rfl, SqL.of (hid_le _ _ ha), h1, q _ H (Same.refl H) h2⟩
  · split at e
    · rename_i hl
      cases rx; cases ry
      obtain ⟨c, h1, h2⟩ := Option.map_eq_some_iff.mp e
      subst h2
      exact .inr (.inr ⟨_, _, c, rfl, rfl, Evl.sz_of hl, h1, q _ H (Same.refl H) (.str _)⟩)
    · cases e
  · cases e

/-! ### slices -/
def partI : Option D → Option (Option Int) | none => some none | some (.int i) => some (some i) | _ => none
abbrev RdO (B : Bs) (W : List Nat) (E : Option XK) (t : TO) (f : En → M (Option Int)) : Prop :=
  ∀ {r sa : Addr} {H0 : Hp} {O0 O : List Addr} {σ : St} {δ : En} {s : S} {H : Hp}, Gd B r sa H0 O0 W O σ δ s H → ∀ Q : Option Int → Hp → Prop, (f δ s).post (fun o s' => ∀ H', Stp r H H' → RowAt B r sa H' s' → Q o H') (EPost B E r sa H O) → t σ H Q
def cNo : En → M (Option Int) := fun _ s => .ok none s
def asI : D → Option Int | .int i => some i | _ => none
def cPart (f : En → M D) : En → M (Option Int) := fun δ s => (f δ s).bind fun d s1 => (lift (asI d) s1).bind fun i s2 => .ok (some i) s2
def cutD {α : Type} (xs : List α) (lo hi : Option Int) : List α := (xs.drop (HT.sIx xs.length 0 lo)).take (HT.sIx xs.length xs.length hi - HT.sIx xs.length 0 lo)
def gSl : D → Option Int → Option Int → Option D
  | .tup ds, lo, hi => some (.tup (cutD ds lo hi))
  | .lst ds, lo, hi => some (.lst (cutD ds lo hi))
  | .str z, lo, hi => if z.length ≤ 100000 then some (.str (cutS z lo hi)) else none
  | _, _, _ => none
def cSl (f : En → M D) (fl fh : En → M (Option Int)) : En → M D := fun δ s => (f δ s).bind fun d s1 => (fl δ s1).bind fun lo s2 => (fh δ s2).bind fun hi s3 => lift (gSl d lo hi) s3
theorem Reps.cut {B : Bs} {r : Addr} {H : Hp} {vs : List V} {ds : List D} {lo hi : Option Int} (h : Reps B r H vs ds) : Reps B r H (cutV vs lo hi) (cutD ds lo hi) := by
  unfold cutV cutD
  rw [h.length]
  exact (h.drop _).take _
def rSlU (K : PySem.W.Frag) : V → Option Int → Option Int → Hp → VK → Prop := fun x lo hi H Q => rSlL K x lo hi H Q ∨ (rSlA K x lo hi H Q ∨ rSlS x lo hi H Q)
theorem sl_U {X : Cx} : SlR X (rSlU X.K) := SlR.or sl_list (SlR.or sl_tupA sl_str)
section
variable {B : Bs} {W : List Nat} {E : Option XK} {te : TE} {fa : En → M D}
theorem ro_no : RdO B W E tNoPart cNo := by
  intro r sa H0 O0 O σ δ s H gd Q h
  exact h H (Stp.refl H) gd.row
theorem ro_part (ha : RdE B W E te fa) : RdO B W E (tPart te) (cPart fa) := by
  intro r sa H0 O0 O σ δ s H gd Q h
  refine ha gd _ (post_mono (post_bind h) (fun x s1 hx v H1 st ra rp => ?_) (fun _ _ z => z))
  obtain ⟨i, e, hd⟩ := post_lift (post_bind hx)
  have : x = .int i := by cases x <;> simp [asI] at e; subst e; rfl
  subst this; cases rp
  exact ⟨i, rfl, hd H1 st ra⟩
theorem rd_sl {tl th : TO} {fl fh : En → M (Option Int)} (ha : RdE B W E te fa) (hl : RdO B W E tl fl) (hh : RdO B W E th fh) : RdE B W E (tSl (rSlU B.K) te tl th) (cSl fa fl fh) := by
  intro r sa H0 O0 O σ δ s H gd Q h
  refine ha gd _ (post_mono (post_bind h) (fun x s1 hx v H1 st ra rp => ?_) (fun _ _ z => z))
  have gd1 := gd.step st ra
  refine hl gd1 _ (post_mono (post_bind hx) (fun lo s2 hx H2 st2 ra2 => ?_) (fun _ _ z => z.mono st))
  have gd2 := gd1.step st2 ra2
  refine hh gd2 _ (post_mono (post_bind hx) (fun hi s3 hx H3 st3 ra3 => ?_) (fun _ _ z => (z.mono st).mono st2))
  have gd3 := gd2.step st3 ra3
  obtain ⟨d, e, hd⟩ := post_lift hx
  have rp3 := rp.mono ((st2.trans st3).hid gd.rO)
  have hst := st.trans (st2.trans st3)
  unfold gSl at e
  split at e
  · cases e
    obtain ⟨a, vs, rfl, ha, hs⟩ := rp3.inv_tup
    refine .inr (.inl ⟨a, vs, rfl, sqT_le ha, fun ⟨z1, z2⟩ => ?_, fun _ p hp => ?_⟩)
    · refine hd _ H3 hst ra3 (.tup ha ?_)
      have e1 : cutV vs lo hi = vs := by
        unfold cutV; rw [z1, z2]; simp
      have := hs.cut (lo := lo) (hi := hi)
      rw [e1] at this
      exact this
    · exact hd _ _ (hst.trans (Stp.new hp)) (ra3.new hp) (new_tup hp gd3.dom hs.cut)
  · cases e
    obtain ⟨a, vs, rfl, ha, hs⟩ := rp3.inv_lst
    exact .inl ⟨a, vs, rfl, SqL.of (hid_le _ _ ha), fun p hp => hd _ _ (hst.trans (Stp.new hp)) (ra3.new hp) (new_lst hp gd3.dom hs.cut)⟩
  · split at e
    · rename_i hz
      cases e; cases rp3
      exact .inr (.inr ⟨_, rfl, Evl.sz_of hz, hd _ H3 hst ra3 (.str _)⟩)
    · cases e
  · cases e
end
end PV

namespace PV
open PySem L2

inductive Fl where
  | next (δ : En)
  | ret (d : D)
  | brk (δ : En)
  | cont (δ : En)
def FlP (B : Bs) (r sa : Addr) (H0 : Hp) (O0 : List Addr) (W : List Nat) (O : List Addr) (H : Hp) (D : Ends) : Fl → S → Prop := fun fl s' => match fl with
  | .next δ' => ∀ O' σ' H', Gd B r sa H0 O0 W O' σ' δ' s' H' → Same (hid H O) (hid H' O') → D.nx σ' H'
  | .ret d => ∀ v H', Stp r H0 H' → RowAt B r sa H' s' → Rep B r (hid H' O0) v d → D.rt v H'
  | .brk δ' => ∀ O' σ' H', Gd B r sa H0 O0 W O' σ' δ' s' H' → Same (hid H O) (hid H' O') → D.bk σ' H'
  | .cont δ' => ∀ O' σ' H', Gd B r sa H0 O0 W O' σ' δ' s' H' → Same (hid H O) (hid H' O') → D.ct σ' H'
def RdS (B : Bs) (W : List Nat) (E : Option XK) (t : TS) (F : En → M Fl) : Prop :=
  ∀ {r sa : Addr} {H0 : Hp} {O0 O : List Addr} {σ : St} {δ : En} {s : S} {H : Hp}, Gd B r sa H0 O0 W O σ δ s H → ∀ D : Ends, (F δ s).post (FlP B r sa H0 O0 W O H D) (EPost B E r sa H0 O0) → t D σ H
theorem FlP.mono {B : Bs} {r sa : Addr} {H0 : Hp} {O0 : List Addr} {W : List Nat} {O O' : List Addr} {H H' : Hp} {D : Ends} (sm : Same (hid H O) (hid H' O')) : ∀ (fl : Fl) (s : S), FlP B r sa H0 O0 W O H D fl s → FlP B r sa H0 O0 W O' H' D fl s
  | .next _, _, h => fun O2 σ2 H2 g q => h O2 σ2 H2 g (sm.trans q)
  | .ret _, _, h => h
  | .brk _, _, h => fun O2 σ2 H2 g q => h O2 σ2 H2 g (sm.trans q)
  | .cont _, _, h => fun O2 σ2 H2 g q => h O2 σ2 H2 g (sm.trans q)
theorem EPost.up {B : Bs} {E : Option XK} {r sa : Addr} {H0 : Hp} {O0 : List Addr} {W : List Nat} {O : List Addr} {σ : St} {δ : En} {s : S} {H : Hp} (gd : Gd B r sa H0 O0 W O σ δ s H) {e : Err} {s' : S} (h : EPost B E r sa H0 O0 e s') : EPost B E r sa H O e s' := by
  cases E with
  | none => exact h
  | some E => exact fun cl d H' a b c => h cl d H' (gd.stp.trans a) b (c.mono (hid_sub gd.sub))

def cNext : En → M Fl := fun δ s => .ok (.next δ) s
def cSeq (F G : En → M Fl) : En → M Fl := fun δ s => (F δ s).bind fun fl s1 => match fl with | .next δ' => G δ' s1 | fl => .ok fl s1
def cRet (f : En → M D) : En → M Fl := fun δ s => (f δ s).bind fun d s1 => .ok (.ret d) s1
def cDo (f : En → M D) : En → M Fl := fun δ s => (f δ s).bind fun _ s1 => .ok (.next δ) s1
def cIte (c : En → M Bool) (F G : En → M Fl) : En → M Fl := fun δ s => (c δ s).bind fun b s1 => if b then F δ s1 else G δ s1
def cSet (i : Nat) (f : En → M D) : En → M Fl := fun δ s => (f δ s).bind fun d s1 => .ok (.next (δ.set i (some d))) s1
def cAsg (f : En → M D) (tg : D → En → Option En) : En → M Fl := fun δ s => (f δ s).bind fun d s1 => (lift (tg d δ) s1).bind fun δ' s2 => .ok (.next δ') s2
def cAug (i : Nat) (g : Int → Int → Int) (f : En → M D) : En → M Fl := fun δ s => (lift (δ[i]?.join.bind asI) s).bind fun x s0 => (f δ s0).bind fun d s1 => (lift (asI d) s1).bind fun y s2 => .ok (.next (δ.set i (some (.int (g x y))))) s2
def cStuck : En → M Fl := fun _ _ => .stuck
def forL (tg : D → En → Option En) (F : En → M Fl) : List D → En → M Fl
  | [], δ, s => .ok (.next δ) s
  | d :: ds, δ, s => (lift (tg d δ) s).bind fun δ1 s1 => (F δ1 s1).bind fun fl s2 => match fl with
    | .next δ2 => forL tg F ds δ2 s2
    | .cont δ2 => forL tg F ds δ2 s2
    | .brk δ2 => .ok (.next δ2) s2
    | .ret d => .ok (.ret d) s2
def cFor (src : En → M (List D)) (tg : D → En → Option En) (F : En → M Fl) : En → M Fl := fun δ s => (src δ s).bind fun ds s1 => forL tg F ds δ s1
def whileN (c : En → M Bool) (F : En → M Fl) : Nat → En → M Fl
  | 0, _, _ => .stuck
  | n + 1, δ, s => (c δ s).bind fun b s1 => if b then (F δ s1).bind fun fl s2 => match fl with
    | .next δ2 => whileN c F n δ2 s2
    | .cont δ2 => whileN c F n δ2 s2
    | .brk δ2 => .ok (.next δ2) s2
    | .ret d => .ok (.ret d) s2 else .ok (.next δ) s1
def cWhile (fuel : En → Nat) (c : En → M Bool) (F : En → M Fl) : En → M Fl := fun δ s => whileN c F (fuel δ) δ s
def tgName (i : Nat) : D → En → Option En := fun d δ => some (δ.set i (some d))
def tgNil : List D → En → Option En | [], δ => some δ | _ :: _, _ => none
def tgCons (t : D → En → Option En) (u : List D → En → Option En) : List D → En → Option En | [], _ => none | d :: ds, δ => (t d δ).bind fun δ' => u ds δ'
def tgTup (n : Nat) (t : List D → En → Option En) : D → En → Option En := fun d δ => match d with | .tup ds => if ds.length = n then t ds δ else none | _ => none

/-- a target: the slots ts alone are written -/
def RdG (B : Bs) (W : List Nat) (ts : List Nat) (g : TG) (tg : D → En → Option En) : Prop :=
  ∀ {r sa : Addr} {H0 : Hp} {O0 O : List Addr} {σ : St} {δ δ' : En} {s : S} {H : Hp} {v : V} {d : D}, Gd B r sa H0 O0 W O σ δ s H → Rep B r (hid H O) v d → tg d δ = some δ' →
    ∀ Q : St → Hp → Prop, (∀ σ', Gd B r sa H0 O0 W O σ' δ' s H → (∀ i, i ∉ ts → σ'[i]? = σ[i]?) → σ'.length = σ.length → Q σ' H) → g v σ H Q
def RdGs (B : Bs) (W : List Nat) (ts : List Nat) (g : TGs) (tg : List D → En → Option En) : Prop :=
  ∀ {r sa : Addr} {H0 : Hp} {O0 O : List Addr} {σ : St} {δ δ' : En} {s : S} {H : Hp} {v : List V} {d : List D}, Gd B r sa H0 O0 W O σ δ s H → Reps B r (hid H O) v d → tg d δ = some δ' →
    ∀ Q : St → Hp → Prop, (∀ σ', Gd B r sa H0 O0 W O σ' δ' s H → (∀ i, i ∉ ts → σ'[i]? = σ[i]?) → σ'.length = σ.length → Q σ' H) → g v σ H Q
section
variable {B : Bs} {W : List Nat} {E : Option XK}
theorem rg_name {i : Nat} (hi : decide (i ∉ W) = true := by rfl) : RdG B W [i] (gName i) (tgName i) := by
  intro r sa H0 O0 O σ δ δ' s H v d gd rp e Q q
  cases e
  exact q _ (gd.set (of_decide_eq_true hi) rp) (fun j hj => List.getElem?_set_ne (fun z => hj (by simp [z]))) (List.length_set ..)
theorem rg_nil : RdGs B W [] gNil tgNil := by
  intro r sa H0 O0 O σ δ δ' s H v d gd rp e Q q
  cases rp with
  | nil => cases e; exact ⟨rfl, q σ gd (fun _ _ => rfl) rfl⟩
  | cons _ _ => cases e
theorem rg_cons {ts us : List Nat} {g : TG} {gs : TGs} {tg : D → En → Option En} {tgs : List D → En → Option En} (h : RdG B W ts g tg) (hs : RdGs B W us gs tgs) : RdGs B W (ts ++ us) (gCons g gs) (tgCons tg tgs) := by
  intro r sa H0 O0 O σ δ δ' s H v d gd rp e Q q
  cases rp with
  | nil => cases e
  | cons rp rps =>
    obtain ⟨δ1, e1, e2⟩ := Option.bind_eq_some_iff.mp e
    refine ⟨_, _, rfl, h gd rp e1 _ fun σ1 gd1 h1 l1 => hs gd1 rps e2 _ fun σ2 gd2 h2 l2 => q σ2 gd2 (fun j hj => ?_) (l2.trans l1)⟩
    rw [h2 j fun z => hj (List.mem_append_right _ z), h1 j fun z => hj (List.mem_append_left _ z)]
theorem rg_tup {n : Nat} {ts : List Nat} {gs : TGs} {tgs : List D → En → Option En} (hs : RdGs B W ts gs tgs) : RdG B W ts (gTup B.K n gs) (tgTup n tgs) := by
  intro r sa H0 O0 O σ δ δ' s H v d gd rp e Q q
  unfold tgTup at e
  split at e
  · split at e
    · rename_i hl
      obtain ⟨a, vs, rfl, ha, hr⟩ := rp.inv_tup
      exact ⟨a, vs, rfl, sqT_le ha, by rw [hr.length]; exact hl, hs gd hr e Q q⟩
    · cases e
  · cases e

variable {t u : TS} {F G : En → M Fl} {te : TE} {fa : En → M D} {tc : TT} {fc : En → M Bool}
theorem rs_next : RdS B W E tNext cNext := by
  intro r sa H0 O0 O σ δ s H gd D h
  exact h O σ H gd (Same.refl _)
theorem rs_stuck {t : TS} : RdS B W E t cStuck := by
  intro r sa H0 O0 O σ δ s H gd D h
  exact h.elim
theorem rs_seq (h1 : RdS B W E t F) (h2 : RdS B W E u G) : RdS B W E (tSeq t u) (cSeq F G) := by
  intro r sa H0 O0 O σ δ s H gd D h
  refine h1 gd _ (post_mono (post_bind h) (fun fl s1 hx => ?_) (fun _ _ z => z))
  cases fl with
  | next δ' => exact fun O' σ' H' gd' sm => h2 gd' D (post_mono hx (fun fl s2 q => q.mono sm) (fun _ _ z => z))
  | ret d => exact hx
  | brk δ' => exact hx
  | cont δ' => exact hx
theorem rs_if (hc : RdT B W E tc fc) (h1 : RdS B W E t F) (h2 : RdS B W E u G) : RdS B W E (tIfS tc t u) (cIte fc F G) := by
  intro r sa H0 O0 O σ δ s H gd D h
  refine hc gd _ (post_mono (post_bind h) (fun b s1 hx H1 st ra => ?_) (fun _ _ z => z.up gd))
  have sm := st.hid gd.rO
  cases b with
  | true => exact h1 (gd.step st ra) D (post_mono hx (fun fl s2 q => q.mono sm) (fun _ _ z => z))
  | false => exact h2 (gd.step st ra) D (post_mono hx (fun fl s2 q => q.mono sm) (fun _ _ z => z))
/-- at a return all that is owned is let go -/
theorem Gd.free {r sa : Addr} {H0 : Hp} {O0 O : List Addr} {σ : St} {δ : En} {s : S} {H : Hp} (gd : Gd B r sa H0 O0 W O σ δ s H) : Gd B r sa H0 O0 [] O0 σ δ s H := by
  have sm : Same (hid H O) (hid H O0) := hid_sub gd.sub
  refine ⟨gd.len, gd.row, gd.r0, fun p hp => gd.dom p (gd.sub p hp), gd.dom0, fun _ h => h, fun _ h => .inl h, gd.stp, fun i d _ q => ?_, fun i d hi => (by cases hi), fun i _ _ _ _ hi => (by cases hi)⟩
  by_cases hi : i ∈ W
  · obtain ⟨p, vs, ds, rfl, h2, h3, h4, h5, h6⟩ := gd.own i d hi q
    exact ⟨_, h2, .lst (by rw [hid_out h4]; exact h5) (h6.mono sm)⟩
  · obtain ⟨v, h1, h2⟩ := gd.val i d hi q
    exact ⟨v, h1, h2.mono sm⟩
theorem rs_ret (ha : RdE B [] E te fa) : RdS B W E (tRet te) (cRet fa) := by
  intro r sa H0 O0 O σ δ s H gd D h
  have g0 := gd.free
  exact ha g0 _ (post_mono (post_bind h) (fun x s1 hx v H1 st ra rp => hx v H1 (gd.stp.trans st) ra rp) (fun _ _ z => z.up g0))
theorem rs_retN : RdS B W E tRetN (cRet (cC .non)) := by
  intro r sa H0 O0 O σ δ s H gd D h
  exact h .non H gd.stp gd.row .non
theorem rs_do (ha : RdE B W E te fa) : RdS B W E (tDrop te) (cDo fa) := by
  intro r sa H0 O0 O σ δ s H gd D h
  exact ha gd _ (post_mono (post_bind h) (fun x s1 hx v H1 st ra rp => hx O σ H1 (gd.step st ra) (st.hid gd.rO)) (fun _ _ z => z.up gd))
theorem rs_set {i : Nat} (ha : RdE B W E te fa) (hi : decide (i ∉ W) = true := by rfl) : RdS B W E (tAsg te (gName i)) (cSet i fa) := by
  intro r sa H0 O0 O σ δ s H gd D h
  exact ha gd _ (post_mono (post_bind h) (fun x s1 hx v H1 st ra rp => hx O _ H1 ((gd.step st ra).set (of_decide_eq_true hi) rp) (st.hid gd.rO)) (fun _ _ z => z.up gd))
theorem rs_asg {ts : List Nat} {g : TG} {tg : D → En → Option En} (ha : RdE B W E te fa) (hg : RdG B W ts g tg) : RdS B W E (tAsg te g) (cAsg fa tg) := by
  intro r sa H0 O0 O σ δ s H gd D h
  refine ha gd _ (post_mono (post_bind h) (fun x s1 hx v H1 st ra rp => ?_) (fun _ _ z => z.up gd))
  obtain ⟨δ', e, hd⟩ := post_lift (post_bind hx)
  exact hg (gd.step st ra) rp e _ fun σ' gd' _ _ => hd O σ' H1 gd' (st.hid gd.rO)
theorem join_some {δ : En} {i : Nat} {d : D} (e : δ[i]?.join = some d) : δ[i]? = some (some d) := by
  cases q : δ[i]? with
  | none => rw [q] at e; cases e
  | some o => rw [q] at e; cases o with
    | none => cases e
    | some d' => cases (Option.some.inj e : d' = d); rfl
theorem asI_some {d : D} {i : Int} (e : asI d = some i) : d = .int i := by cases d <;> simp [asI] at e; subst e; rfl
theorem rs_aug {i : Nat} {g : Int → Int → Int} (ha : RdE B W E te fa) (hi : decide (i ∉ W) = true := by rfl) : RdS B W E (tAug i te (ipI g)) (cAug i g fa) := by
  intro r sa H0 O0 O σ δ s H gd D h
  obtain ⟨x, e, h⟩ := post_lift (post_bind h)
  obtain ⟨dx, e1, e2⟩ := Option.bind_eq_some_iff.mp e
  cases asI_some e2
  obtain ⟨v, h1, h2⟩ := gd.val i _ (of_decide_eq_true hi) (join_some e1)
  cases h2
  refine ⟨_, h1, ha gd _ (post_mono (post_bind h) (fun y s1 hx v H1 st ra rp => ?_) (fun _ _ z => z.up gd))⟩
  obtain ⟨y', e3, hd⟩ := post_lift (post_bind hx)
  cases asI_some e3
  cases rp
  exact ⟨_, _, rfl, rfl, hd O _ H1 ((gd.step st ra).set (of_decide_eq_true hi) (.int _)) (st.hid gd.rO)⟩

/-! ### what is walked -/
def Wk (B : Bs) (r : Addr) (O : List Addr) (H1 : Hp) (J : It) (ds : List D) : Prop := ∀ O' H2, Same (hid H1 O) (hid H2 O') → (∀ p ∈ O', H2 p ≠ none) →
  (∀ i, i < ds.length → J.go i H2) ∧ J.stop ds.length H2 ∧ ∀ i x H3 d, ds[i]? = some d → J.yld i H2 x H3 → Same H2 H3 ∧ Rep B r (hid H3 O') x d
def RdI (B : Bs) (W : List Nat) (E : Option XK) (wi : TI) (f : En → M (List D)) : Prop :=
  ∀ {r sa : Addr} {H0 : Hp} {O0 O : List Addr} {σ : St} {δ : En} {s : S} {H : Hp}, Gd B r sa H0 O0 W O σ δ s H → ∀ R : It → Hp → Prop,
    (f δ s).post (fun ds s' => ∀ J H', Stp r H H' → RowAt B r sa H' s' → Wk B r O H' J ds → R J H') (EPost B E r sa H O) → wi σ H R
def asLst : D → Option (List D) | .lst ds => some ds | _ => none
def asTup : D → Option (List D) | .tup ds => some ds | _ => none
def cItL (f : En → M D) : En → M (List D) := fun δ s => (f δ s).bind fun d s1 => lift (asLst d) s1
def cItT (f : En → M D) : En → M (List D) := fun δ s => (f δ s).bind fun d s1 => lift (asTup d) s1
def cItU (f : En → M D) : En → M (List D) := fun δ s => (f δ s).bind fun d s1 => lift (seqD d) s1
def upto (lo : Int) (n : Nat) : List D := (List.range n).map fun (i : Nat) => D.int (lo + (i : Int))
def gR1 : List D → Option (List D) | [.int j] => if -(2 ^ 62) ≤ j ∧ j < 2 ^ 62 then some (upto 0 j.toNat) else none | _ => none
def gR2 : List D → Option (List D) | [.int i, .int j] => if -(2 ^ 62) ≤ i ∧ i < 2 ^ 62 ∧ -(2 ^ 62) ≤ j ∧ j < 2 ^ 62 then some (upto i (j - i).toNat) else none | _ => none
def cItA (g : List D → Option (List D)) (f : En → M (List D)) : En → M (List D) := fun δ s => (f δ s).bind fun ds s1 => lift (g ds) s1
theorem asLst_some {d : D} {ds : List D} (e : asLst d = some ds) : d = .lst ds := by cases d <;> simp [asLst] at e; subst e; rfl
theorem asTup_some {d : D} {ds : List D} (e : asTup d = some ds) : d = .tup ds := by cases d <;> simp [asTup] at e; subst e; rfl
theorem wk_list {r a : Addr} {O : List Addr} {H1 : Hp} {vs : List V} {ds : List D} (h : hid H1 O a = some (.lst vs)) (hr : Reps B r (hid H1 O) vs ds) : Wk B r O H1 (Itl B.K a) ds := by
  intro O' H2 sm hd
  have e : H2 a = some (.lst vs) := hid_le _ _ (sm _ _ h)
  have hl := hr.length
  refine ⟨fun i hi => ⟨vs, vs[i]'(by omega), SqL.of e, by simp [show i < vs.length by omega]⟩, ⟨vs, SqL.of e, by omega⟩, fun i x H3 d hi hy => ?_⟩
  obtain ⟨rfl, q⟩ := hy
  obtain ⟨v, h1, h2⟩ := hr.get i d hi
  have := (q vs (SqL.of e)).symm.trans h1
  cases this
  exact ⟨Same.refl _, h2.mono sm⟩
theorem wk_tup {r a : Addr} {O : List Addr} {H1 : Hp} {vs : List V} {ds : List D} (h : SqT B.K (hid H1 O) a vs) (hr : Reps B r (hid H1 O) vs ds) : Wk B r O H1 (Itt B.K a) ds := by
  intro O' H2 sm hd
  have e : SqT B.K H2 a vs := sqT_le (same_t sm h)
  have hl := hr.length
  refine ⟨fun i hi => ⟨vs, vs[i]'(by omega), e, by simp [show i < vs.length by omega]⟩, ⟨vs, e, by omega⟩, fun i x H3 d hi hy => ?_⟩
  obtain ⟨rfl, q⟩ := hy
  obtain ⟨v, h1, h2⟩ := hr.get i d hi
  have := (q vs e).symm.trans h1
  cases this
  exact ⟨Same.refl _, h2.mono sm⟩
theorem upto_get {lo : Int} {n i : Nat} {d : D} (h : (upto lo n)[i]? = some d) : i < n ∧ d = .int (lo + (i : Int)) := by
  unfold upto at h
  rw [List.getElem?_map] at h
  obtain ⟨j, h1, h2⟩ := Option.map_eq_some_iff.mp h
  obtain ⟨h3, h4⟩ := List.getElem?_eq_some_iff.mp h1
  rw [List.length_range] at h3
  rw [List.getElem_range] at h4
  subst h4
  exact ⟨h3, h2.symm⟩
@[simp] theorem upto_len {lo : Int} {n : Nat} : (upto lo n).length = n := by unfold upto; simp
theorem wk_range {r : Addr} {O : List Addr} {H1 : Hp} {lo : Int} {n : Nat} : Wk B r O H1 (Itr lo n) (upto lo n) := by
  intro O' H2 sm hd
  refine ⟨fun i hi => by rw [upto_len] at hi; exact hi, by rw [upto_len]; exact Nat.le_refl n, fun i x H3 d hi hy => ?_⟩
  obtain ⟨rfl, rfl⟩ := hy
  obtain ⟨_, rfl⟩ := upto_get hi
  exact ⟨Same.refl _, .int _⟩
theorem ri_list {tl : TE} {f : En → M D} (ha : RdE B W E tl f) : RdI B W E (iList B.K tl) (cItL f) := by
  intro r sa H0 O0 O σ δ s H gd R h
  refine ha gd _ (post_mono (post_bind h) (fun x s1 hx v H1 st ra rp => ?_) (fun _ _ z => z))
  obtain ⟨ds, e, hd⟩ := post_lift hx
  cases asLst_some e
  obtain ⟨a, vs, rfl, h1, h2⟩ := rp.inv_lst
  exact ⟨a, rfl, ⟨vs, SqL.of (hid_le _ _ h1)⟩, hd _ H1 st ra (wk_list h1 h2)⟩
theorem ri_tup {tl : TE} {f : En → M D} (ha : RdE B W E tl f) : RdI B W E (iTup B.K tl) (cItT f) := by
  intro r sa H0 O0 O σ δ s H gd R h
  refine ha gd _ (post_mono (post_bind h) (fun x s1 hx v H1 st ra rp => ?_) (fun _ _ z => z))
  obtain ⟨ds, e, hd⟩ := post_lift hx
  cases asTup_some e
  obtain ⟨a, vs, rfl, h1, h2⟩ := rp.inv_tup
  exact ⟨a, rfl, ⟨vs, sqT_le h1⟩, hd _ H1 st ra (wk_tup h1 h2)⟩
theorem ri_r1 {ta : TA} {f : En → M (List D)} (ha : RdA B W E ta f) : RdI B W E (iRng1 ta) (cItA gR1 f) := by
  intro r sa H0 O0 O σ δ s H gd R h
  refine ha gd _ (post_mono (post_bind h) (fun x s1 hx v H1 st ra rp => ?_) (fun _ _ z => z))
  obtain ⟨ds, e, hd⟩ := post_lift hx
  unfold gR1 at e
  split at e
  · split at e
    · rename_i hj
      cases e
      cases rp with | cons r1 r2 => cases r1; cases r2; exact ⟨_, rfl, hj.1, hj.2, hd _ H1 st ra wk_range⟩
    · cases e
  · cases e
theorem ri_r2 {ta : TA} {f : En → M (List D)} (ha : RdA B W E ta f) : RdI B W E (iRng2 ta) (cItA gR2 f) := by
  intro r sa H0 O0 O σ δ s H gd R h
  refine ha gd _ (post_mono (post_bind h) (fun x s1 hx v H1 st ra rp => ?_) (fun _ _ z => z))
  obtain ⟨ds, e, hd⟩ := post_lift hx
  unfold gR2 at e
  split at e
  · split at e
    · rename_i hj
      cases e
      cases rp with | cons r1 r2 => cases r1; cases r2 with | cons r1 r2 => cases r1; cases r2; exact ⟨_, _, rfl, hj, hd _ H1 st ra wk_range⟩
    · cases e
  · cases e

/-! ### loops -/
theorem rs_for {wi : TI} {src : En → M (List D)} {ts : List Nat} {g : TG} {tg : D → En → Option En} (hi : RdI B W E wi src) (hg : RdG B W ts g tg) (hb : RdS B W E t F) : RdS B W E (tFor wi g t) (cFor src tg F) := by
  intro r sa H0 O0 O σ δ s H gd D h
  refine hi gd _ (post_mono (post_bind h) (fun ds s1 hx J H1 st ra wk => ?_) (fun _ _ z => z.up gd))
  have gd1 := gd.step st ra
  refine ⟨fun i m σ2 H2 => m = ds.length - i ∧ i ≤ ds.length ∧ ∃ O2 δ2 s2, Gd B r sa H0 O0 W O2 σ2 δ2 s2 H2 ∧ Same (hid H1 O) (hid H2 O2) ∧ (forL tg F (ds.drop i) δ2 s2).post (FlP B r sa H0 O0 W O H D) (EPost B E r sa H0 O0),
    ⟨ds.length, by omega, by omega, O, δ, s1, gd1, Same.refl _, by rw [List.drop_zero]; exact hx⟩, ?_⟩
  rintro i m σ2 H2 ⟨rfl, hle, O2, δ2, s2, gd2, sm, hp⟩
  obtain ⟨w1, w2, w3⟩ := wk O2 H2 sm gd2.dom
  by_cases hlt : i < ds.length
  · refine .inr ⟨w1 i hlt, fun σ' H' => ∃ O3 δ3 s3, Gd B r sa H0 O0 W O3 σ' δ3 s3 H' ∧ Same (hid H1 O) (hid H' O3) ∧ (forL tg F (ds.drop (i + 1)) δ3 s3).post (FlP B r sa H0 O0 W O H D) (EPost B E r sa H0 O0),
      fun σ' H' ⟨O3, δ3, s3, a, b, c⟩ => ⟨ds.length - (i + 1), by omega, rfl, by omega, O3, δ3, s3, a, b, c⟩, fun x H' hy => ?_⟩
    obtain ⟨sm3, rp⟩ := w3 i x H' ds[i] (by simp [hlt]) hy
    have gd3 := gd2.step (Stp.of sm3) (gd2.row.same sm3)
    have smh := hid_same (O := O2) sm3
    rw [List.drop_eq_getElem_cons hlt] at hp
    obtain ⟨δ3, e, hp⟩ := post_lift (post_bind hp)
    refine hg gd3 rp e _ fun σ3 gd4 _ _ => hb gd4 _ (post_mono (post_bind hp) (fun fl s4 hq => ?_) (fun _ _ z => z))
    cases fl with
    | next δ4 => exact fun O' σ' H' g' sm' => ⟨O', δ4, s4, g', sm.trans (smh.trans sm'), hq⟩
    | cont δ4 => exact fun O' σ' H' g' sm' => ⟨O', δ4, s4, g', sm.trans (smh.trans sm'), hq⟩
    | brk δ4 => exact fun O' σ' H' g' sm' => hq O' σ' H' g' ((st.hid gd.rO).trans (sm.trans (smh.trans sm')))
    | ret d => exact hq
  · have e : i = ds.length := by omega
    subst e
    rw [List.drop_length] at hp
    exact .inl ⟨w2, hp O2 σ2 H2 gd2 ((st.hid gd.rO).trans sm)⟩
theorem rs_while {fuel : En → Nat} (hc : RdT B W E tc fc) (hb : RdS B W E t F) : RdS B W E (tWhile tc t) (cWhile fuel fc F) := by
  intro r sa H0 O0 O σ δ s H gd D h
  refine ⟨fun m σ2 H2 => ∃ O2 δ2 s2, Gd B r sa H0 O0 W O2 σ2 δ2 s2 H2 ∧ Same (hid H O) (hid H2 O2) ∧ (whileN fc F m δ2 s2).post (FlP B r sa H0 O0 W O H D) (EPost B E r sa H0 O0),
    ⟨fuel δ, O, δ, s, gd, Same.refl _, h⟩, ?_⟩
  rintro m σ2 H2 ⟨O2, δ2, s2, gd2, sm, hp⟩
  cases m with
  | zero => exact hp.elim
  | succ m =>
    refine hc gd2 _ (post_mono (post_bind hp) (fun b s3 hx H3 st ra => ?_) (fun _ _ z => z.up gd2))
    have gd3 := gd2.step st ra
    have sm3 := sm.trans (st.hid gd2.rO)
    cases b with
    | false => exact hx O2 σ2 H3 gd3 sm3
    | true =>
      refine ⟨fun σ' H' => ∃ O3 δ3 s3, Gd B r sa H0 O0 W O3 σ' δ3 s3 H' ∧ Same (hid H O) (hid H' O3) ∧ (whileN fc F m δ3 s3).post (FlP B r sa H0 O0 W O H D) (EPost B E r sa H0 O0),
        fun σ' H' q => ⟨m, Nat.lt_succ_self m, q⟩, hb gd3 _ (post_mono (post_bind hx) (fun fl s4 hq => ?_) (fun _ _ z => z))⟩
      cases fl with
      | next δ4 => exact fun O' σ' H' g' sm' => ⟨O', δ4, s4, g', sm3.trans sm', hq⟩
      | cont δ4 => exact fun O' σ' H' g' sm' => ⟨O', δ4, s4, g', sm3.trans sm', hq⟩
      | brk δ4 => exact fun O' σ' H' g' sm' => hq O' σ' H' g' (sm3.trans sm')
      | ret d => exact hq
end
end PV

namespace PV
open PySem L2
/-! ### owned lists -/
section
variable {B : Bs} {W : List Nat} {E : Option XK}
theorem Gd.setOwn {r sa : Addr} {H0 : Hp} {O0 O : List Addr} {σ : St} {δ : En} {s : S} {H : Hp} {i : Nat} {p : Addr} {vs : List V} {ds : List D} (g : Gd B r sa H0 O0 W O σ δ s H) (hi : i ∈ W) (hp : p ∈ O) (hp0 : p ∉ O0) (h : H p = some (.lst vs)) (hr : Reps B r (hid H O) vs ds)
    (hn : ∀ j d, j ∈ W → j ≠ i → δ[j]? = some (some d) → σ[j]? ≠ some (some (.ref p))) : Gd B r sa H0 O0 W O (σ.set i (some (.ref p))) (δ.set i (some (.lst ds))) s H := by
  refine ⟨by rw [List.length_set, List.length_set, g.len], g.row, g.r0, g.dom, g.dom0, g.sub, g.frsh, g.stp, fun j e hj q => ?_, fun j e hj q => ?_, fun j k p' e e' hj hk ne q1 q2 q3 q4 => ?_⟩
  · have z : i ≠ j := fun z => hj (z ▸ hi)
    rw [List.getElem?_set_ne z] at q ⊢
    exact g.val j e hj q
  · by_cases z : i = j
    · subst z
      have hl : i < δ.length := by
        rcases Nat.lt_or_ge i δ.length with h | h
        · exact h
        · rw [List.getElem?_eq_none (by rw [List.length_set]; exact h)] at q; cases q
      rw [List.getElem?_set_self hl] at q
      cases q
      exact ⟨p, vs, ds, rfl, by rw [List.getElem?_set_self (by rw [g.len]; exact hl)], hp, hp0, h, hr⟩
    · rw [List.getElem?_set_ne z] at q ⊢
      exact g.own j e hj q
  · by_cases z : i = j
    · have z' : i ≠ k := fun w => ne (z ▸ w ▸ rfl)
      subst z
      have hl : i < σ.length := by
        rcases Nat.lt_or_ge i σ.length with h | h
        · exact h
        · rw [List.getElem?_eq_none (by rw [List.length_set]; exact h)] at q3; cases q3
      rw [List.getElem?_set_self hl] at q3
      cases q3
      rw [List.getElem?_set_ne z'] at q2 q4
      exact hn k e' hk (Ne.symm z') q2 q4
    · by_cases z' : i = k
      · subst z'
        have hl : i < σ.length := by
          rcases Nat.lt_or_ge i σ.length with h | h
          · exact h
          · rw [List.getElem?_eq_none (by rw [List.length_set]; exact h)] at q4; cases q4
        rw [List.getElem?_set_self hl] at q4
        cases q4
        rw [List.getElem?_set_ne z] at q1 q3
        exact hn j e hj (Ne.symm z) q1 q3
      · rw [List.getElem?_set_ne z] at q1 q3
        rw [List.getElem?_set_ne z'] at q2 q4
        exact g.inj j k p' e e' hj hk ne q1 q2 q3 q4
/-- what is owned is written -/
theorem Gd.write {r sa : Addr} {H0 : Hp} {O0 O : List Addr} {σ : St} {δ : En} {s : S} {H : Hp} {i : Nat} {p : Addr} {d : D} {vs : List V} {ds : List D} (g : Gd B r sa H0 O0 W O σ δ s H) (hi : i ∈ W) (hd : δ[i]? = some (some d)) (hσ : σ[i]? = some (some (.ref p)))
    (hr : Reps B r (hid H O) vs ds) : Gd B r sa H0 O0 W O σ (δ.set i (some (.lst ds))) s (upd H p (.lst vs)) ∧ hid (upd H p (.lst vs)) O = hid H O := by
  obtain ⟨p', vs', ds', h1, h2, hp, hp0, h, hr'⟩ := g.own i d hi hd
  have e : p' = p := by rw [h2] at hσ; injection (Option.some.inj hσ) with z; injection z
  subst e
  have eh : hid (upd H p' (.lst vs)) O = hid H O := hid_upd hp
  have npr : p' ≠ r := fun z => hp0 (z ▸ g.r0)
  refine ⟨⟨by rw [List.length_set]; exact g.len, ⟨by rw [upd_ne (Ne.symm npr)]; exact g.row.1, g.row.2.elim (fun ⟨o, q⟩ => .inl ⟨o, by rw [upd_ne (ne_of q h (fun z => nomatch z))]; exact q⟩) .inr⟩, g.r0, fun q hq => ?_, g.dom0, g.sub, g.frsh, ?_, fun j e hj q => ?_, fun j e hj q => ?_, fun j k p2 e e' hj hk ne q1 q2 q3 q4 => ?_⟩, eh⟩
  · by_cases z : q = p'
    · rw [z, upd_same]; exact fun z => nomatch z
    · rw [upd_ne z]; exact g.dom q hq
  · intro a o na ha
    have : a ≠ p' := fun z => by
      subst z
      rcases g.frsh a hp with q | q
      · exact hp0 q
      · rw [q] at ha; cases ha
    rw [upd_ne this]; exact g.stp a o na ha
  · rw [eh]
    have z : i ≠ j := fun z => hj (z ▸ hi)
    rw [List.getElem?_set_ne z] at q
    exact g.val j e hj q
  · rw [eh]
    by_cases z : i = j
    · subst z
      have hl : i < δ.length := (List.getElem?_eq_some_iff.mp hd).1
      rw [List.getElem?_set_self hl] at q
      cases q
      exact ⟨p', vs, ds, rfl, hσ, hp, hp0, upd_same, hr⟩
    · rw [List.getElem?_set_ne z] at q
      obtain ⟨p2, vs2, ds2, q1, q2, q3, q4, q5, q6⟩ := g.own j e hj q
      have : p2 ≠ p' := fun w => by
        subst w
        exact g.inj i j p2 d e hi hj z hd q hσ q2
      exact ⟨p2, vs2, ds2, q1, q2, q3, q4, by rw [upd_ne this]; exact q5, q6⟩
  · have q1' : ∃ d1, δ[j]? = some (some d1) := by
      by_cases z : i = j
      · subst z; exact ⟨d, hd⟩
      · rw [List.getElem?_set_ne z] at q1; exact ⟨e, q1⟩
    have q2' : ∃ d1, δ[k]? = some (some d1) := by
      by_cases z : i = k
      · subst z; exact ⟨d, hd⟩
      · rw [List.getElem?_set_ne z] at q2; exact ⟨e', q2⟩
    obtain ⟨d1, z1⟩ := q1'
    obtain ⟨d2, z2⟩ := q2'
    exact g.inj j k p2 d1 d2 hj hk ne z1 z2 q3 q4
/-- a new list is owned -/
theorem Gd.grow {r sa : Addr} {H0 : Hp} {O0 O : List Addr} {σ : St} {δ : En} {s s' : S} {H H' : Hp} {p : Addr} {o : HO} (g : Gd B r sa H0 O0 W O σ δ s H) (st : Stp r H H') (ra : RowAt B r sa H' s') (hn : H p = none) (hp : H' p = some o) :
    Gd B r sa H0 O0 W (p :: O) σ δ s' H' ∧ Same (hid H O) (hid H' (p :: O)) := by
  have g1 := g.step st ra
  have sm : Same (hid H O) (hid H' (p :: O)) := fun a u e => by
    have ⟨h1, h2⟩ := hid_some e
    have na : a ≠ p := ne_of_none h2 hn
    rw [hid_out (by simp [na, h1])]
    exact st a u (fun z => h1 (z ▸ g.rO)) h2
  have n0 : H0 p = none := by
    cases q : H0 p with
    | none => rfl
    | some u =>
      by_cases z : p = r
      · subst z; rw [g.row.1] at hn; cases hn
      · rw [g.stp p u z q] at hn; cases hn
  refine ⟨⟨g.len, ra, g.r0, fun q hq => ?_, g.dom0, fun q hq => List.mem_cons_of_mem _ (g.sub q hq), fun q hq => ?_, g1.stp, fun i d hi q => ?_, fun i d hi q => ?_, g.inj⟩, sm⟩
  · rcases List.mem_cons.mp hq with z | z
    · rw [z, hp]; exact fun z => nomatch z
    · exact g1.dom q z
  · rcases List.mem_cons.mp hq with z | z
    · subst z; exact .inr n0
    · exact g.frsh q z
  · obtain ⟨v, h1, h2⟩ := g.val i d hi q
    exact ⟨v, h1, h2.mono sm⟩
  · obtain ⟨p', vs, ds, h1, h2, h3, h4, h5, h6⟩ := g.own i d hi q
    exact ⟨p', vs, ds, h1, h2, List.mem_cons_of_mem _ h3, h4, st p' _ (fun z => h4 (z ▸ g.r0)) h5, h6.mono sm⟩
theorem Gd.fresh0 {r sa : Addr} {H0 : Hp} {O0 O : List Addr} {σ : St} {δ : En} {s : S} {H : Hp} {p : Addr} (g : Gd B r sa H0 O0 W O σ δ s H) (hn : H p = none) : p ∉ O ∧ p ∉ O0 := ⟨fun z => g.dom p z hn, fun z => g.dom p (g.sub p z) hn⟩
/-- an expression that makes a new list -/
def RdL (B : Bs) (W : List Nat) (E : Option XK) (t : TE) (f : En → M (List D)) : Prop :=
  ∀ {r sa : Addr} {H0 : Hp} {O0 O : List Addr} {σ : St} {δ : En} {s : S} {H : Hp}, Gd B r sa H0 O0 W O σ δ s H → ∀ Q : VK,
    (f δ s).post (fun ds s' => ∀ p vs H', Stp r H H' → RowAt B r sa H' s' → H p = none → H' p = some (.lst vs) → Reps B r (hid H' (p :: O)) vs ds → Q (.ref p) H') (EPost B E r sa H O) → t σ H Q
def cOfL (f : En → M (List D)) : En → M D := fun δ s => (f δ s).bind fun ds s1 => .ok (.lst ds) s1
theorem rd_ofL {te : TE} {f : En → M (List D)} (h : RdL B W E te f) : RdE B W E te (cOfL f) := by
  intro r sa H0 O0 O σ δ s H gd Q hp
  refine h gd _ (post_mono (post_bind hp) (fun ds s1 hx p vs H' st ra hn hv hr => ?_) (fun _ _ z => z))
  have hpO := (gd.fresh0 hn).1
  exact hx _ _ st ra (.lst (by rw [hid_out hpO]; exact hv) (hr.mono (hid_sub fun a z => List.mem_cons_of_mem _ z)))
def cLstL (fa : En → M (List D)) : En → M (List D) := fun δ s => (fa δ s).bind fun ds s1 => if ds.length ≤ 100000 then .ok ds s1 else .stuck
theorem rl_lst {ta : TA} {fa : En → M (List D)} (ha : RdA B W E ta fa) : RdL B W E (tLst ta) (cLstL fa) := by
  intro r sa H0 O0 O σ δ s H gd Q h
  refine ha gd _ (post_mono (post_bind h) (fun x s1 hx v H1 st ra rp => ?_) (fun _ _ z => z))
  split at hx
  · rename_i hl
    refine ⟨Evl.sz_of (by rw [rp.length]; exact hl), fun p hp => ?_⟩
    have n0 : H p = none := by
      cases q : H p with
      | none => rfl
      | some u =>
        by_cases z : p = r
        · subst z; rw [ra.1] at hp; cases hp
        · rw [st p u z q] at hp; cases hp
    refine hx p v _ (st.trans (Stp.new hp)) (ra.new hp) n0 upd_same (rp.mono fun a u e => ?_)
    have ⟨h1, h2⟩ := hid_some e
    have na : a ≠ p := ne_of_none h2 hp
    rw [hid_out (by simp [na, h1]), upd_ne na]; exact h2
  · exact hx.elim
def cSetL (i : Nat) (f : En → M (List D)) : En → M Fl := fun δ s => (f δ s).bind fun ds s1 => .ok (.next (δ.set i (some (.lst ds)))) s1
theorem rs_own {i : Nat} {te : TE} {f : En → M (List D)} (h : RdL B W E te f) (hi : decide (i ∈ W) = true := by rfl) : RdS B W E (tAsg te (gName i)) (cSetL i f) := by
  intro r sa H0 O0 O σ δ s H gd D hp
  refine h gd _ (post_mono (post_bind hp) (fun ds s1 hx p vs H' st ra hn hv hr => ?_) (fun _ _ z => z.up gd))
  obtain ⟨g1, sm⟩ := gd.grow st ra hn hv
  have ⟨n1, n2⟩ := gd.fresh0 hn
  refine hx _ _ _ (g1.setOwn (of_decide_eq_true hi) List.mem_cons_self n2 hv hr fun j d hj _ q z => ?_) sm
  obtain ⟨p', _, _, _, h2, h3, _⟩ := gd.own j d hj q
  rw [z] at h2; injection (Option.some.inj h2) with w; injection w with w
  exact n1 (w ▸ h3)
/-- x.append(e) -/
def ownL (δ : En) (i : Nat) : Option (List D) := δ[i]?.join.bind asLst
def cApp (i : Nat) (f : En → M D) : En → M Fl := fun δ s => (lift (ownL δ i) s).bind fun ds s0 => (f δ s0).bind fun d s1 => if ds.length < 100000 then .ok (.next (δ.set i (some (.lst (ds ++ [d]))))) s1 else .stuck
theorem ownL_some {δ : En} {i : Nat} {ds : List D} (h : ownL δ i = some ds) : δ[i]? = some (some (.lst ds)) := by
  obtain ⟨d, e1, e2⟩ := Option.bind_eq_some_iff.mp h
  cases asLst_some e2
  exact join_some e1
theorem rs_app {i : Nat} {te : TE} {f : En → M D} (h : RdE B W E te f) (hi : decide (i ∈ W) = true := by rfl) : RdS B W E (tDrop (tBM B.K "list" rAppend (tVar i) (tCons te tNil))) (cApp i f) := by
  intro r sa H0 O0 O σ δ s H gd D hp
  obtain ⟨ds, e0, hp⟩ := post_lift (post_bind hp)
  have e1 := ownL_some e0
  obtain ⟨p, vs, ds', h1, h2, h3, h4, h5, h6⟩ := gd.own i _ (of_decide_eq_true hi) e1
  cases h1
  refine ⟨_, h2, .inl ⟨rfl, _, SqL.of h5⟩, h gd _ (post_mono (post_bind hp) (fun d s1 hx v H1 st ra rp => ?_) (fun _ _ z => z.up gd))⟩
  split at hx
  · rename_i hl
    have g1 := gd.step st ra
    have h5' := st p _ (fun z => h4 (z ▸ gd.r0)) h5
    have sm := st.hid gd.rO
    refine ⟨p, vs, v, rfl, rfl, h5', Evl.sz_lt (by rw [h6.length]; exact hl), ?_⟩
    obtain ⟨g2, eh⟩ := g1.write (of_decide_eq_true hi) e1 h2 ((h6.mono sm).append (.cons rp .nil))
    exact hx O σ _ g2 (by rw [eh]; exact sm)
  · exact hx.elim
/-- x.extend(e) of a list -/
def cExt (i : Nat) (f : En → M D) : En → M Fl := fun δ s => (lift (ownL δ i) s).bind fun ds s0 => (f δ s0).bind fun d s1 => (lift (asLst d) s1).bind fun es s2 => if ds.length + es.length ≤ 100000 then .ok (.next (δ.set i (some (.lst (ds ++ es))))) s2 else .stuck
theorem rs_ext {i : Nat} {te : TE} {f : En → M D} (h : RdE B W E te f) (hi : decide (i ∈ W) = true := by rfl) : RdS B W E (tDrop (tBM B.K "list" rExtend (tVar i) (tCons te tNil))) (cExt i f) := by
  intro r sa H0 O0 O σ δ s H gd D hp
  obtain ⟨ds, e0, hp⟩ := post_lift (post_bind hp)
  have e1 := ownL_some e0
  obtain ⟨p, vs, ds', h1, h2, h3, h4, h5, h6⟩ := gd.own i _ (of_decide_eq_true hi) e1
  cases h1
  refine ⟨_, h2, .inl ⟨rfl, _, SqL.of h5⟩, h gd _ (post_mono (post_bind hp) (fun d s1 hx v H1 st ra rp => ?_) (fun _ _ z => z.up gd))⟩
  obtain ⟨es, e2, hy⟩ := post_lift (post_bind hx)
  cases asLst_some e2
  obtain ⟨b, ws, rfl, hb, hw⟩ := rp.inv_lst
  split at hy
  · rename_i hl
    have g1 := gd.step st ra
    have h5' := st p _ (fun z => h4 (z ▸ gd.r0)) h5
    have sm := st.hid gd.rO
    refine ⟨p, b, vs, ws, rfl, rfl, h5', hid_le _ _ hb, Evl.sz_of (by rw [h6.length, hw.length]; exact hl), ?_⟩
    obtain ⟨g2, eh⟩ := g1.write (of_decide_eq_true hi) e1 h2 ((h6.mono sm).append hw)
    exact hy O σ _ g2 (by rw [eh]; exact sm)
  · exact hy.elim
/-- x.pop(), its value dropped -/
def cPop (i : Nat) : En → M Fl := fun δ s => (lift (ownL δ i) s).bind fun ds s0 => if ds ≠ [] then .ok (.next (δ.set i (some (.lst ds.dropLast)))) s0 else .stuck
theorem Reps.dropLast {r : Addr} {H : Hp} {vs : List V} {ds : List D} (h : Reps B r H vs ds) : Reps B r H vs.dropLast ds.dropLast := by
  rw [List.dropLast_eq_take, List.dropLast_eq_take, h.length]; exact h.take _
theorem rs_pop {i : Nat} (hi : decide (i ∈ W) = true := by rfl) : RdS B W E (tDrop (tBM0 B.K "list" rPop (tVar i))) (cPop i) := by
  intro r sa H0 O0 O σ δ s H gd D hp
  obtain ⟨ds, e0, hp⟩ := post_lift (post_bind hp)
  have e1 := ownL_some e0
  obtain ⟨p, vs, ds', h1, h2, h3, h4, h5, h6⟩ := gd.own i _ (of_decide_eq_true hi) e1
  cases h1
  split at hp
  · rename_i hl
    have hv : 0 < vs.length := by rw [h6.length]; cases ds with | nil => exact absurd rfl hl | cons _ _ => simp
    refine ⟨_, h2, .inl ⟨rfl, _, SqL.of h5⟩, p, vs, vs[vs.length - 1]'(by omega), rfl, rfl, h5, by simp [show vs.length - 1 < vs.length by omega], ?_⟩
    obtain ⟨g2, eh⟩ := gd.write (of_decide_eq_true hi) e1 h2 h6.dropLast
    exact hp O σ _ g2 (by rw [eh]; exact Same.refl _)
  · exact hp.elim
/-- x[i] = e -/
def cPut (i : Nat) (fi f : En → M D) : En → M Fl := fun δ s => (lift (ownL δ i) s).bind fun ds s0 => (f δ s0).bind fun d s1 => (fi δ s1).bind fun k s2 => (lift (asI k) s2).bind fun j s3 => (lift (ixN ds.length j) s3).bind fun m s4 => .ok (.next (δ.set i (some (.lst (ds.set m d))))) s4
theorem rs_put {i : Nat} {te ti : TE} {f fi : En → M D} (h : RdE B W E te f) (h' : RdE B W E ti fi) (hi : decide (i ∈ W) = true := by rfl) : RdS B W E (tAsg te (gSub (tVar i) ti rSetL)) (cPut i fi f) := by
  intro r sa H0 O0 O σ δ s H gd D hp
  obtain ⟨ds, e0, hp⟩ := post_lift (post_bind hp)
  have e1 := ownL_some e0
  obtain ⟨p, vs, ds', h1, h2, h3, h4, h5, h6⟩ := gd.own i _ (of_decide_eq_true hi) e1
  cases h1
  refine h gd _ (post_mono (post_bind hp) (fun d s1 hx v H1 st ra rp => ?_) (fun _ _ z => z.up gd))
  have g1 := gd.step st ra
  refine ⟨_, h2, h' g1 _ (post_mono (post_bind hx) (fun k s2 hx w H2 st2 ra2 rp2 => ?_) (fun _ _ z => z.up g1))⟩
  obtain ⟨j, e2, hy⟩ := post_lift (post_bind hx)
  cases asI_some e2
  cases rp2
  obtain ⟨m, e3, hz⟩ := post_lift (post_bind hy)
  have g2 := g1.step st2 ra2
  have h5' := (st.trans st2) p _ (fun z => h4 (z ▸ gd.r0)) h5
  have sm := (st.trans st2).hid gd.rO
  refine ⟨p, vs, _, m, rfl, rfl, h5', by rw [h6.length]; exact e3, ?_⟩
  obtain ⟨g3, eh⟩ := g2.write (of_decide_eq_true hi) e1 h2 ((h6.mono sm).set m (rp.mono (st2.hid gd.rO)))
  exact hz O σ _ g3 (by rw [eh]; exact sm)

/-! ### a, b = e, f -/
inductive Cell where
  | v (d : D)
  | n (ds : List D)
def CellR (B : Bs) (r : Addr) (H0 : Hp) (O0 O O' : List Addr) (H' : Hp) : V → Cell → Prop
  | v, .v d => Rep B r (hid H' O') v d
  | v, .n ds => ∃ p vs, v = .ref p ∧ p ∈ O' ∧ p ∉ O ∧ p ∉ O0 ∧ H' p = some (.lst vs) ∧ Reps B r (hid H' O') vs ds
/-- values, from the left: each a value or a new list -/
def RdP (B : Bs) (W : List Nat) (E : Option XK) (t : TE) (f : En → M Cell) : Prop :=
  ∀ {r sa : Addr} {H0 : Hp} {O0 O : List Addr} {σ : St} {δ : En} {s : S} {H : Hp}, Gd B r sa H0 O0 W O σ δ s H → ∀ Q : VK,
    (f δ s).post (fun c s' => ∀ v O' H', Gd B r sa H0 O0 W O' σ δ s' H' → Same (hid H O) (hid H' O') → (∀ a ∈ O, a ∈ O') → CellR B r H0 O0 O O' H' v c → (∀ a vs, a ∈ O → a ≠ r → H a = some (.lst vs) → H' a = some (.lst vs)) → Q v H') (EPost B E r sa H0 O0) → t σ H Q
def cV (f : En → M D) : En → M Cell := fun δ s => (f δ s).bind fun d s1 => .ok (.v d) s1
def cN (f : En → M (List D)) : En → M Cell := fun δ s => (f δ s).bind fun d s1 => .ok (.n d) s1
theorem rp_v {te : TE} {f : En → M D} (h : RdE B W E te f) : RdP B W E te (cV f) := by
  intro r sa H0 O0 O σ δ s H gd Q hp
  exact h gd _ (post_mono (post_bind hp) (fun x s1 hx v H1 st ra rp => hx v O H1 (gd.step st ra) (st.hid gd.rO) (fun _ z => z) rp fun a vs _ na ha => st a _ na ha) (fun _ _ z => z.up gd))
theorem rp_n {te : TE} {f : En → M (List D)} (h : RdL B W E te f) : RdP B W E te (cN f) := by
  intro r sa H0 O0 O σ δ s H gd Q hp
  refine h gd _ (post_mono (post_bind hp) (fun x s1 hx p vs H1 st ra hn hv hr => ?_) (fun _ _ z => z.up gd))
  obtain ⟨g1, sm⟩ := gd.grow st ra hn hv
  have ⟨n1, n2⟩ := gd.fresh0 hn
  exact hx _ _ _ g1 sm (fun a z => List.mem_cons_of_mem _ z) ⟨p, vs, rfl, List.mem_cons_self, n1, n2, hv, hr⟩ fun a vs _ na ha => st a _ na ha
def putC (W : List Nat) (i : Nat) (c : Cell) (δ : En) : Option En := match c with
  | .v d => if i ∈ W then none else some (δ.set i (some d))
  | .n ds => if i ∈ W then some (δ.set i (some (.lst ds))) else none
theorem putC_v {W : List Nat} {i : Nat} {d : D} {δ : En} : putC W i (.v d) δ = if i ∈ W then none else some (δ.set i (some d)) := rfl
theorem putC_n {W : List Nat} {i : Nat} {ds : List D} {δ : En} : putC W i (.n ds) δ = if i ∈ W then some (δ.set i (some (.lst ds))) else none := rfl
theorem Gd.putC {r sa : Addr} {H0 : Hp} {O0 O O' : List Addr} {σ : St} {δ δ' : En} {s : S} {H : Hp} {i : Nat} {v : V} {c : Cell} (g : Gd B r sa H0 O0 W O' σ δ s H) (hc : CellR B r H0 O0 O O' H v c)
    (hn : ∀ p, v = .ref p → p ∉ O → ∀ j d, j ∈ W → j ≠ i → δ[j]? = some (some d) → σ[j]? ≠ some (some (.ref p))) (e : putC W i c δ = some δ') : Gd B r sa H0 O0 W O' (σ.set i (some v)) δ' s H := by
  cases c with
  | v d =>
    rw [putC_v] at e
    split at e
    · cases e
    · rename_i h; cases e; exact g.set h hc
  | n ds =>
    rw [putC_n] at e
    split at e
    · rename_i h; cases e
      obtain ⟨p, vs, rfl, h1, h2, h3, h4, h5⟩ := hc
      exact g.setOwn h h1 h3 h4 h5 (hn p rfl h2)
    · cases e
def setAll : St → List Nat → List V → St
  | σ, i :: is, v :: vs => setAll (σ.set i (some v)) is vs
  | σ, _, _ => σ
/-- values from the left, then all the slots -/
def RdPs (B : Bs) (W : List Nat) (E : Option XK) (ta : TA) (is : List Nat) (F : En → En → M En) : Prop :=
  ∀ {r sa : Addr} {H0 : Hp} {O0 O : List Addr} {σ σa : St} {δ δa : En} {s : S} {H : Hp}, Gd B r sa H0 O0 W O σ δ s H → Gd B r sa H0 O0 W O σa δa s H → ∀ Q : List V → Hp → Prop,
    (F δ δa s).post (fun δ' s' => ∀ vs O' H', Gd B r sa H0 O0 W O' (setAll σa is vs) δ' s' H' → Same (hid H O) (hid H' O') → vs.length = is.length → Q vs H') (EPost B E r sa H0 O0) → ta σ H Q
def pNil : En → En → M En := fun _ δa s => .ok δa s
def pCons (W : List Nat) (i : Nat) (f : En → M Cell) (F : En → En → M En) : En → En → M En := fun δ δa s => (f δ s).bind fun c s1 => (lift (putC W i c δa) s1).bind fun δb s2 => F δ δb s2
theorem rps_nil : RdPs B W E tNil [] pNil := by
  intro r sa H0 O0 O σ σa δ δa s H gd ga Q h
  exact h [] O H ga (Same.refl _) rfl
/-- behind a cell: the other slots stand too -/
theorem Gd.cell {r sa : Addr} {H0 : Hp} {O0 O O' : List Addr} {σ σa : St} {δ δa : En} {s s' : S} {H H' : Hp} (g : Gd B r sa H0 O0 W O σa δa s H) (g' : Gd B r sa H0 O0 W O' σ δ s' H') (sm : Same (hid H O) (hid H' O')) (sb : ∀ a ∈ O, a ∈ O') (kp : ∀ a vs, a ∈ O → a ≠ r → H a = some (.lst vs) → H' a = some (.lst vs)) :
    Gd B r sa H0 O0 W O' σa δa s' H' := by
  refine ⟨g.len, g'.row, g.r0, g'.dom, g.dom0, g'.sub, g'.frsh, g'.stp, fun j e hj q => ?_, fun j e hj q => ?_, g.inj⟩
  · obtain ⟨v, h1, h2⟩ := g.val j e hj q
    exact ⟨v, h1, h2.mono sm⟩
  · obtain ⟨p, vs, ds, h1, h2, h3, h4, h5, h6⟩ := g.own j e hj q
    exact ⟨p, vs, ds, h1, h2, sb p h3, h4, kp p vs h3 (fun z => h4 (z ▸ g.r0)) h5, h6.mono sm⟩
theorem rps_cons {te : TE} {tr : TA} {i : Nat} {is : List Nat} {f : En → M Cell} {F : En → En → M En} (h1 : RdP B W E te f) (h2 : RdPs B W E tr is F) : RdPs B W E (tCons te tr) (i :: is) (pCons W i f F) := by
  intro r sa H0 O0 O σ σa δ δa s H gd ga Q hp
  refine h1 gd _ (post_mono (post_bind hp) (fun c s1 hx v O1 H1 g1 sm1 sb1 c1 k1 => ?_) (fun _ _ z => z))
  obtain ⟨δb, e, hy⟩ := post_lift (post_bind hx)
  have ga1 := ga.cell g1 sm1 sb1 k1
  have ga2 := ga1.putC (i := i) c1 (fun p _ hnp k d hk _ q z => by
    obtain ⟨p', _, _, _, q2, q3, _⟩ := ga.own k d hk q
    rw [z] at q2; injection (Option.some.inj q2) with w; injection w with w
    exact hnp (w ▸ q3)) e
  refine h2 g1 ga2 _ (post_mono hy (fun δ' s2 hz vs O' H' g' sm' hl => ?_) (fun _ _ z => z))
  exact hz (v :: vs) O' H' g' (sm1.trans sm') (by rw [List.length_cons, List.length_cons, hl])
def cPar (F : En → En → M En) : En → M Fl := fun δ s => (F δ δ s).bind fun δ' s1 => .ok (.next δ') s1
theorem rs_par {i j : Nat} {ta : TA} {F : En → En → M En} (h : RdPs B W E ta [i, j] F) : RdS B W E (tPar i j ta) (cPar F) := by
  intro r sa H0 O0 O σ δ s H gd D hp
  refine h gd gd _ (post_mono (post_bind hp) (fun δ' s1 hx vs O' H' g' sm' hl => ?_) (fun _ _ z => z))
  match vs, hl with
  | [v, w], _ => exact ⟨v, w, rfl, hx O' _ H' g' sm'⟩
theorem rs_par3 {i j l : Nat} {ta : TA} {F : En → En → M En} (h : RdPs B W E ta [i, j, l] F) : RdS B W E (tPar3 i j l ta) (cPar F) := by
  intro r sa H0 O0 O σ δ s H gd D hp
  refine h gd gd _ (post_mono (post_bind hp) (fun δ' s1 hx vs O' H' g' sm' hl => ?_) (fun _ _ z => z))
  match vs, hl with
  | [u, v, w], _ => exact ⟨u, v, w, rfl, hx O' _ H' g' sm'⟩
def gNames : List Nat → TGs
  | [] => gNil
  | i :: is => gCons (gName i) (gNames is)
theorem gNames_all : ∀ (is : List Nat) (vs : List V) (σ : St) (H : Hp) (Q : St → Hp → Prop), vs.length = is.length → Q (setAll σ is vs) H → gNames is vs σ H Q
  | [], [], σ, H, Q, _, q => ⟨rfl, q⟩
  | i :: is, v :: vs, σ, H, Q, hl, q => ⟨v, vs, rfl, gNames_all is vs (σ.set i (some v)) H Q (by simpa using hl) q⟩
theorem rs_parT {is : List Nat} {ta : TA} {F : En → En → M En} (h : RdPs B W E ta is F) (hz : is.length ≤ 100000 := by decide) : RdS B W E (tAsg (tTup ta) (gTup B.K is.length (gNames is))) (cPar F) := by
  intro r sa H0 O0 O σ δ s H gd D hp
  refine h gd gd _ (post_mono (post_bind hp) (fun δ' s1 hx vs O' H' g' sm' hl => ⟨Evl.sz_of (by omega), fun p hn => ?_⟩) (fun _ _ z => z))
  refine ⟨p, vs, rfl, SqT.of upd_same, hl, gNames_all is vs σ _ _ hl (hx O' _ _ (g'.step (Stp.new hn) (g'.row.new hn)) (sm'.trans (hid_new hn g'.dom).1))⟩
end
end PV

namespace PV
open PySem L2
/-! ### comprehensions -/
def wipeD (δ : En) : List Nat → En
  | [] => δ
  | v :: vs => (wipeD δ vs).set v none
theorem wipeD_len (δ : En) : ∀ vs, (wipeD δ vs).length = δ.length
  | [] => rfl
  | v :: vs => by unfold wipeD; rw [List.length_set, wipeD_len δ vs]
theorem wipeD_some {δ : En} {i : Nat} {d : D} : ∀ {vs : List Nat}, (wipeD δ vs)[i]? = some (some d) → δ[i]? = some (some d) ∧ i ∉ vs
  | [], h => ⟨h, by simp⟩
  | v :: vs, h => by
    unfold wipeD at h
    by_cases e : v = i
    · subst e
      rw [List.getElem?_set] at h
      split at h
      · split at h <;> cases h
      · rename_i z; exact absurd rfl z
    · rw [List.getElem?_set_ne e] at h
      have ⟨h1, h2⟩ := wipeD_some h
      exact ⟨h1, by simp [h2, Ne.symm e]⟩
theorem wipe_get {σ : St} {i : Nat} : ∀ {vs : List Nat}, i ∉ vs → (wipe σ vs)[i]? = σ[i]?
  | [], _ => rfl
  | v :: vs, h => by
    unfold wipe
    have ⟨h1, h2⟩ : i ≠ v ∧ i ∉ vs := by simpa using h
    rw [List.getElem?_set_ne (Ne.symm h1), wipe_get h2]
theorem wipe_at {σ : St} {i : Nat} : ∀ {vs : List Nat}, i ∈ vs → i < σ.length → (wipe σ vs)[i]? = some none
  | [], h, _ => by cases h
  | v :: vs, h, hl => by
    unfold wipe
    by_cases e : v = i
    · subst e; rw [List.getElem?_set_self (by rw [wipe_length]; exact hl)]
    · rw [List.getElem?_set_ne e]
      exact wipe_at (by simpa [Ne.symm e] using h) hl
theorem wipe_ext {σ σ' : St} {vs : List Nat} (hl : σ'.length = σ.length) (h : ∀ i, i ∉ vs → σ'[i]? = σ[i]?) : wipe σ' vs = wipe σ vs := by
  refine List.ext_getElem? fun i => ?_
  by_cases hi : i ∈ vs
  · rcases Nat.lt_or_ge i σ.length with q | q
    · rw [wipe_at hi q, wipe_at hi (by omega)]
    · rw [List.getElem?_eq_none (by rw [wipe_length]; omega), List.getElem?_eq_none (by rw [wipe_length]; omega)]
  · rw [wipe_get hi, wipe_get hi, h i hi]
section
variable {B : Bs} {W : List Nat} {E : Option XK}
theorem Gd.wipe {r sa : Addr} {H0 : Hp} {O0 O : List Addr} {σ : St} {δ : En} {s : S} {H : Hp} (g : Gd B r sa H0 O0 W O σ δ s H) (vs : List Nat) : Gd B r sa H0 O0 W O (L2.wipe σ vs) (wipeD δ vs) s H := by
  refine ⟨by rw [wipe_length, wipeD_len, g.len], g.row, g.r0, g.dom, g.dom0, g.sub, g.frsh, g.stp, fun j e hj q => ?_, fun j e hj q => ?_, fun j k p e e' hj hk ne q1 q2 q3 q4 => ?_⟩
  · have ⟨h1, h2⟩ := wipeD_some q
    rw [wipe_get h2]; exact g.val j e hj h1
  · have ⟨h1, h2⟩ := wipeD_some q
    rw [wipe_get h2]; exact g.own j e hj h1
  · have ⟨h1, h2⟩ := wipeD_some q1
    have ⟨h3, h4⟩ := wipeD_some q2
    rw [wipe_get h2] at q3
    rw [wipe_get h4] at q4
    exact g.inj j k p e e' hj hk ne h1 h3 q3 q4
def compL (tg : D → En → Option En) (c : En → M Bool) (f : En → M D) (δ : En) : List D → M (List D)
  | [], s => .ok [] s
  | d :: ds, s => (lift (tg d δ) s).bind fun δ1 s1 => (c δ1 s1).bind fun b s2 => if b then (f δ1 s2).bind fun y s3 => (compL tg c f δ ds s3).bind fun ys s4 => .ok (y :: ys) s4 else compL tg c f δ ds s2
def cComp (vs : List Nat) (src : En → M (List D)) (tg : D → En → Option En) (c : En → M Bool) (f : En → M D) : En → M (List D) := fun δ s => (src δ s).bind fun ds s1 => if ds.length ≤ 100000 then compL tg c f (wipeD δ vs) ds s1 else .stuck
def cYes : En → M Bool := fun _ s => .ok true s
theorem rt_yes : RdT B W E tYes cYes := by
  intro r sa H0 O0 O σ δ s H gd Q h
  exact h H (Stp.refl H) gd.row
theorem post_bind' {α β : Type} {o : Out α} {k : α → S → Out β} {P : β → S → Prop} {R : Err → S → Prop} (h : o.post (fun a s => (k a s).post P R) R) : (o.bind k).post P R := by
  cases o <;> exact h
theorem rl_comp {wi : TI} {src : En → M (List D)} {ts vs : List Nat} {g : TG} {tg : D → En → Option En} {tt : TT} {c : En → M Bool} {te : TE} {f : En → M D} (hi : RdI B W none wi src) (hg : RdG B W ts g tg) (ht : RdT B W none tt c) (he : RdE B W none te f) (hs : (ts.all fun i => decide (i ∈ vs)) = true := by rfl) :
    RdL B W none (tLc wi g tt te vs) (cComp vs src tg c f) := by
  intro r sa H0 O0 O σ δ s H gd Q h
  refine hi gd _ (post_mono (post_bind h) (fun ds s1 hx J H1 st ra wk Dl hD => ?_) (fun _ _ z => z))
  have gd1 := gd.step st ra
  have nD : H Dl = none := by
    cases q : H Dl with
    | none => rfl
    | some u =>
      by_cases z : Dl = r
      · subst z; rw [ra.1] at hD; cases hD
      · rw [st Dl u z q] at hD; cases hD
  have ⟨nO, n0⟩ := gd1.fresh0 hD
  have nr : Dl ≠ r := fun z => nO (z ▸ gd.rO)
  obtain ⟨gd2, sm2⟩ := gd1.grow (p := Dl) (o := .lst []) (Stp.new hD) (ra.new hD) hD upd_same
  split at hx
  · rename_i hlen
    refine ⟨fun i m H2 => m = ds.length - i ∧ i ≤ ds.length ∧ ∃ acc ws s2, acc.length ≤ i ∧ Gd B r sa H0 O0 W (Dl :: O) σ δ s2 H2 ∧ H2 Dl = some (.lst ws) ∧ Reps B r (hid H2 (Dl :: O)) ws acc ∧ Stp r H1 H2 ∧ Same (hid H1 O) (hid H2 (Dl :: O)) ∧
        (compL tg c f (wipeD δ vs) (ds.drop i) s2).post (fun ys s' => ∀ p vs H', Stp r H H' → RowAt B r sa H' s' → H p = none → H' p = some (.lst vs) → Reps B r (hid H' (p :: O)) vs (acc ++ ys) → Q (.ref p) H') (fun _ _ => False),
      ⟨ds.length, by omega, by omega, [], [], s1, Nat.le_refl _, gd2, upd_same, .nil, Stp.new hD, sm2, by rw [List.drop_zero]; exact hx⟩, ?_⟩
    rintro i m H2 ⟨rfl, hle, acc, ws, s2, hal, g2, hD2, rws, st2, sm, hp⟩
    obtain ⟨w1, w2, w3⟩ := wk (Dl :: O) H2 sm g2.dom
    by_cases hlt : i < ds.length
    · refine .inr ⟨w1 i hlt, fun H' => ∃ acc ws s2, acc.length ≤ i + 1 ∧ Gd B r sa H0 O0 W (Dl :: O) σ δ s2 H' ∧ H' Dl = some (.lst ws) ∧ Reps B r (hid H' (Dl :: O)) ws acc ∧ Stp r H1 H' ∧ Same (hid H1 O) (hid H' (Dl :: O)) ∧
        (compL tg c f (wipeD δ vs) (ds.drop (i + 1)) s2).post (fun ys s' => ∀ p vs H', Stp r H H' → RowAt B r sa H' s' → H p = none → H' p = some (.lst vs) → Reps B r (hid H' (p :: O)) vs (acc ++ ys) → Q (.ref p) H') (fun _ _ => False),
        fun H' ⟨acc, ws, s2, a, b⟩ => ⟨ds.length - (i + 1), by omega, rfl, by omega, acc, ws, s2, a, b⟩, fun x H' hy => ?_⟩
      obtain ⟨sm3, rp⟩ := w3 i x H' ds[i] (by simp [hlt]) hy
      have g3 := g2.step (Stp.of sm3) (g2.row.same sm3)
      have smh := hid_same (O := Dl :: O) sm3
      rw [List.drop_eq_getElem_cons hlt] at hp
      obtain ⟨δ3, e, hp⟩ := post_lift (post_bind hp)
      refine hg (g3.wipe vs) rp e _ fun σ3 g4 ag lg => ?_
      refine ⟨by rw [wipe_ext lg fun j hj => ag j fun z => hj (of_decide_eq_true (List.all_eq_true.mp hs j z)), wipe_ext (wipe_length σ vs) fun j hj => wipe_get hj], ?_⟩
      refine ht g4 _ (post_mono (post_bind hp) (fun b s3 hq H3 st3 ra3 => ?_) (fun _ _ z => z))
      have g5 := g4.step st3 ra3
      have st13 : Stp r H2 H3 := (Stp.of sm3).trans st3
      have smf := smh.trans (st3.hid g2.rO)
      cases b with
      | false =>
        show ∃ acc ws s2, _
        exact ⟨acc, ws, s3, by omega, g2.step st13 ra3, st13 Dl _ nr hD2, rws.mono smf, st2.trans st13, sm.trans smf, hq⟩
      | true =>
        show te σ3 H3 _
        refine he g5 _ (post_mono (post_bind hq) (fun y s4 hq y' H4 st4 ra4 rp4 => ?_) (fun _ _ z => z))
        have st14 : Stp r H2 H4 := st13.trans st4
        have sm4 := smf.trans (st4.hid g2.rO)
        have g6 := g2.step st14 ra4
        have hD4 := st14 Dl _ nr hD2
        refine ⟨ws, hD4, Evl.sz_lt (by rw [rws.length]; omega), acc ++ [y], ws ++ [y'], s4, by simp; omega, ?_, upd_same, ?_, ?_, ?_, ?_⟩
        · have eh : hid (upd H4 Dl (.lst (ws ++ [y']))) (Dl :: O) = hid H4 (Dl :: O) := hid_upd List.mem_cons_self
          refine ⟨g6.len, ⟨by rw [upd_ne (Ne.symm nr)]; exact g6.row.1, g6.row.2.elim (fun ⟨o, q⟩ => .inl ⟨o, by rw [upd_ne (ne_of q hD4 (fun z => nomatch z))]; exact q⟩) .inr⟩, g6.r0, fun q hq => ?_, g6.dom0, g6.sub, g6.frsh, fun a o na ha => ?_, fun j d hj q => ?_, fun j d hj q => ?_, g6.inj⟩
          · by_cases z : q = Dl
            · rw [z, upd_same]; exact fun z => nomatch z
            · rw [upd_ne z]; exact g6.dom q hq
          · have : a ≠ Dl := fun z => by
              subst z
              have := gd.stp a o na ha
              rw [nD] at this; cases this
            rw [upd_ne this]; exact g6.stp a o na ha
          · rw [eh]; exact g6.val j d hj q
          · rw [eh]
            obtain ⟨p', vs', ds', q1, q2, q3, q4, q5, q6⟩ := g6.own j d hj q
            obtain ⟨p2, _, _, _, q2', q3', _⟩ := gd.own j d hj q
            have ep : p2 = p' := by rw [q2] at q2'; injection (Option.some.inj q2') with w; injection w with w; exact w.symm
            have : p' ≠ Dl := fun z => nO (z ▸ ep ▸ q3')
            exact ⟨p', vs', ds', q1, q2, q3, q4, by rw [upd_ne this]; exact q5, q6⟩
        · rw [hid_upd List.mem_cons_self]
          exact (rws.mono sm4).append (.cons rp4 .nil)
        · intro a o na ha
          have : a ≠ Dl := ne_of_none ha hD
          rw [upd_ne this]; exact (st2.trans st14) a o na ha
        · rw [hid_upd List.mem_cons_self]; exact sm.trans sm4
        · refine post_mono (post_bind hq) (fun ys s5 hz p vs H' a b c d e => hz p vs H' a b c d ?_) (fun _ _ z => z)
          rw [List.append_assoc] at e; exact e
    · have e : i = ds.length := by omega
      subst e
      rw [List.drop_length] at hp
      refine .inl ⟨w2, hp Dl ws H2 (st.trans st2) g2.row nD hD2 (by rw [List.append_nil]; exact rws)⟩
  · exact hx.elim
def cLc (vs : List Nat) (src : En → M (List D)) (tg : D → En → Option En) (c : En → M Bool) (f : En → M D) : En → M D := cOfL (cComp vs src tg c f)
theorem rd_comp {wi : TI} {src : En → M (List D)} {ts vs : List Nat} {g : TG} {tg : D → En → Option En} {tt : TT} {c : En → M Bool} {te : TE} {f : En → M D} (hi : RdI B W none wi src) (hg : RdG B W ts g tg) (ht : RdT B W none tt c) (he : RdE B W none te f) (hs : (ts.all fun i => decide (i ∈ vs)) = true := by rfl) :
    RdE B W none (tLc wi g tt te vs) (cLc vs src tg c f) := rd_ofL (rl_comp hi hg ht he hs)

/-! ### defs -/
def startD (n : Nat) (ds : List D) : En := ds.map some ++ List.replicate (n - ds.length) none
def endD : Fl → S → Out D
  | .ret d, s => .ok d s
  | .next _, s => .ok .non s
  | _, _ => .stuck
def runD (np n : Nat) (body : En → M Fl) : List D → M D := fun ds s => if ds.length = np then (body (startD n ds) s).bind endD else .stuck
def spD (B : Bs) (np : Nat) (F : List D → M D) : Sp := fun vs H Q _ => vs.length = np ∧ ∃ (r sa : Addr) (O : List Addr) (ds : List D) (s : S), RowAt B r sa H s ∧ r ∈ O ∧ (∀ p ∈ O, H p ≠ none) ∧ Reps B r (hid H O) vs ds ∧ (F ds s).post (OkV B r sa H O Q) (fun _ _ => False)
def cCall (np : Nat) (F : List D → M D) (fr : En → M (List D)) : En → M D := fun δ s => (fr δ s).bind fun ds s1 => if ds.length = np then F ds s1 else .stuck
theorem rd_call {np : Nat} {F : List D → M D} {tr : TA} {fr : En → M (List D)} (ha : RdA B W none tr fr) : RdE B W none (tCall (spD B np F) [] E0 tr) (cCall np F fr) := by
  intro r sa H0 O0 O σ δ s H gd Q h
  refine ha gd _ (post_mono (post_bind h) (fun x s1 hx v H1 st ra rp => ?_) (fun _ _ z => z))
  split at hx
  · rename_i hl
    rw [List.append_nil]
    exact ⟨by rw [rp.length]; exact hl, r, sa, O, x, s1, ra, gd.rO, (gd.step st ra).dom, rp, post_mono hx (fun d s2 q w H2 st2 ra2 rp2 => q w H2 (st.trans st2) ra2 rp2) (fun _ _ z => z)⟩
  · exact hx.elim
theorem start_get {N : List Str} {vs : List V} {i : Nat} : (L2.start N vs)[i]? = if i < vs.length then vs[i]?.map some else if i < vs.length + (N.length - vs.length) then some none else none := by
  unfold L2.start
  split
  · rename_i h
    rw [List.getElem?_append_left (by rw [List.length_map]; exact h), List.getElem?_map]
  · rename_i h
    rw [List.getElem?_append_right (by rw [List.length_map]; omega), List.length_map, List.getElem?_replicate]
    split
    · rw [if_pos (by omega)]
    · rw [if_neg (by omega)]
theorem startD_some {n : Nat} {ds : List D} {i : Nat} {d : D} (h : (startD n ds)[i]? = some (some d)) : ds[i]? = some d := by
  unfold startD at h
  rcases Nat.lt_or_ge i ds.length with q | q
  · rw [List.getElem?_append_left (by rw [List.length_map]; exact q), List.getElem?_map] at h
    obtain ⟨d', h1, h2⟩ := Option.map_eq_some_iff.mp h
    cases h2; exact h1
  · rw [List.getElem?_append_right (by rw [List.length_map]; exact q), List.getElem?_replicate] at h
    split at h <;> cases h
theorem fn_ok {P : Program} {w : World} {mg : Str → Option Value} {base : Heap} {x qual : Str} {st : Stmt} {f : Addr} {fd : FuncData} {N ps : List Str} {k : Nat} {body : En → M Fl} (F : Fun B.K x qual st f fd) (Sc : FnScope N ps (defScope st)) (hW : (W.all fun i => decide (ps.length ≤ i)) = true)
    (hb : ∀ (cdv : Value) (A : Around) (outer : List Env) (s : Shared) (H : Hp) (E : XK), Room k (A.deeper (PyProof.Rows.envOfC qual (defScope st) s.heap.objs.size f cdv)) →
      ∃ t, PSs (cxOf CX0 P w B.K mg base N qual (defScope st) f cdv A outer s H E).nox (defBody st) t ∧ RdS B W none t body) : FnOk P w B.K mg base CX0 (k + 1) f fd ps (spD B ps.length (runD ps.length N.length body)) := by
  refine F.ok Sc (fun vs H Q E h => h.1) (fun cdv A outer s H vs Q E hr h => ?_)
  obtain ⟨t, hP, hR⟩ := hb cdv A outer s H E hr
  obtain ⟨hl, r, sa, O, ds, s0, ra, hrO, hdom, rp, hp⟩ := h
  refine ⟨t, hP, ?_⟩
  have hds : ds.length = ps.length := by rw [← rp.length]; exact hl
  have hp : ((body (startD N.length ds) s0).bind endD).post (OkV B r sa H O Q) (fun _ _ => False) := by
    have e : runD ps.length N.length body ds s0 = (body (startD N.length ds) s0).bind endD := by unfold runD; rw [if_pos hds]
    rw [← e]; exact hp
  have gd : Gd B r sa H O W O (L2.start N vs) (startD N.length ds) s0 H := by
    refine ⟨?_, ra, hrO, hdom, hdom, fun _ h => h, fun _ h => .inl h, Stp.refl H, fun i d hi q => ?_, fun i d hi q => ?_, fun i j p d e hi hj ne q => ?_⟩
    · unfold L2.start startD; simp [rp.length]
    · obtain ⟨v, h1, h2⟩ := rp.get i d (startD_some q)
      refine ⟨v, ?_, h2⟩
      rw [start_get, if_pos (List.getElem?_eq_some_iff.mp h1).1, h1]; rfl
    · have h1 := startD_some q
      have h2 := (List.getElem?_eq_some_iff.mp h1).1
      have h3 := of_decide_eq_true (List.all_eq_true.mp hW i hi)
      omega
    · have h1 := startD_some q
      have h2 := (List.getElem?_eq_some_iff.mp h1).1
      have h3 := of_decide_eq_true (List.all_eq_true.mp hW i hi)
      omega
  refine hR gd _ (post_mono (post_bind hp) (fun fl s1 hx => ?_) (fun _ _ z => z))
  cases fl with
  | next δ' => exact fun O' σ' H' g' _ => hx .non H' g'.stp g'.row .non
  | ret d => exact fun v H' st' ra' rp' => hx v H' st' ra' rp'
  | brk δ' => exact hx.elim
  | cont δ' => exact hx.elim
end
end PV

namespace PV
open PySem L2
/-! ### built-ins -/
section
variable {B : Bs}
def gLen : List D → Option D
  | [.lst ds] => some (.int ds.length)
  | [.tup ds] => some (.int ds.length)
  | [.str z] => if z.length ≤ 100000 then some (.int z.length) else none
  | _ => none
theorem Reps.one {r : Addr} {H : Hp} {xs : List V} {d : D} (h : Reps B r H xs [d]) : ∃ v, xs = [v] ∧ Rep B r H v d := by cases h with | cons h hs => cases hs; exact ⟨_, rfl, h⟩
theorem Reps.two {r : Addr} {H : Hp} {xs : List V} {d e : D} (h : Reps B r H xs [d, e]) : ∃ v w, xs = [v, w] ∧ Rep B r H v d ∧ Rep B r H w e := by cases h with | cons h hs => cases hs with | cons h' hs => cases hs; exact ⟨_, _, rfl, h, h'⟩
theorem cs_len : CaS B (fun xs H Q => ∃ x n, xs = [x] ∧ LenV B.K x H n ∧ Q (.int n) H) gLen := by
  intro r O H xs ds d Q hd rp e q
  unfold gLen at e
  split at e
  · cases e
    obtain ⟨v, rfl, rq⟩ := rp.one
    obtain ⟨a, vs, rfl, h1, h2⟩ := rq.inv_lst
    exact ⟨_, _, rfl, .inl ⟨vs, SqL.of (hid_le _ _ h1), rfl⟩, by rw [h2.length]; exact q _ H (Same.refl H) (.int _)⟩
  · cases e
    obtain ⟨v, rfl, rq⟩ := rp.one
    obtain ⟨a, vs, rfl, h1, h2⟩ := rq.inv_tup
    exact ⟨_, _, rfl, .inr ⟨vs, sqT_le h1, rfl⟩, by rw [h2.length]; exact q _ H (Same.refl H) (.int _)⟩
  · split at e
    · rename_i hz
      cases e
      obtain ⟨v, rfl, rq⟩ := rp.one
      cases rq
      exact ⟨_, _, rfl, ⟨Evl.sz_of hz, rfl⟩, q _ H (Same.refl H) (.int _)⟩
    · cases e
  · cases e
def gAbs : List D → Option D | [.int i] => some (.int (if i < 0 then -i else i)) | _ => none
theorem cs_abs : CaS B (fun xs H Q => ∃ i, xs = [.int i] ∧ Q (.int (if i < 0 then -i else i)) H) gAbs := by
  intro r O H xs ds d Q hd rp e q
  unfold gAbs at e
  split at e
  · cases e; obtain ⟨v, rfl, rq⟩ := rp.one; cases rq
    exact ⟨_, rfl, q _ H (Same.refl H) (.int _)⟩
  · cases e
def gInt : List D → Option D | [.int i] => some (.int i) | [.bl b] => some (.int (if b then 1 else 0)) | _ => none
theorem cs_int : CaS B (fun xs H Q => (∃ i, xs = [.int i] ∧ Q (.int i) H) ∨ ∃ k, xs = [.bl k] ∧ Q (.int (if k then 1 else 0)) H) gInt := by
  intro r O H xs ds d Q hd rp e q
  unfold gInt at e
  split at e
  · cases e; obtain ⟨v, rfl, rq⟩ := rp.one; cases rq
    exact .inl ⟨_, rfl, q _ H (Same.refl H) (.int _)⟩
  · cases e; obtain ⟨v, rfl, rq⟩ := rp.one; cases rq
    exact .inr ⟨_, rfl, q _ H (Same.refl H) (.int _)⟩
  · cases e
def gMin2 : List D → Option D | [.int i, .int j] => some (.int (if j < i then j else i)) | _ => none
theorem cs_min2 : CaS B (fun xs H Q => ∃ i j, xs = [.int i, .int j] ∧ Q (.int (if j < i then j else i)) H) gMin2 := by
  intro r O H xs ds d Q hd rp e q
  unfold gMin2 at e
  split at e
  · cases e; obtain ⟨v, w, rfl, r1, r2⟩ := rp.two; cases r1; cases r2
    exact ⟨_, _, rfl, q _ H (Same.refl H) (.int _)⟩
  · cases e
def gMax2 : List D → Option D | [.int i, .int j] => some (.int (if j > i then j else i)) | _ => none
theorem cs_max2 : CaS B (fun xs H Q => ∃ i j, xs = [.int i, .int j] ∧ Q (.int (if j > i then j else i)) H) gMax2 := by
  intro r O H xs ds d Q hd rp e q
  unfold gMax2 at e
  split at e
  · cases e; obtain ⟨v, w, rfl, r1, r2⟩ := rp.two; cases r1; cases r2
    exact ⟨_, _, rfl, q _ H (Same.refl H) (.int _)⟩
  · cases e
def asInts : List D → Option (List Int)
  | [] => some []
  | .int i :: ds => (asInts ds).map (i :: ·)
  | _ :: _ => none
theorem asInts_some : ∀ {ds : List D} {ns : List Int}, asInts ds = some ns → ds = ns.map D.int
  | [], _, e => by cases e; rfl
  | .int i :: ds, ns, e => by
    obtain ⟨ms, h1, h2⟩ := Option.map_eq_some_iff.mp (e : (asInts ds).map (i :: ·) = some ns)
    subst h2; rw [asInts_some h1]; rfl
  | .non :: _, _, e | .bl _ :: _, _, e | .str _ :: _, _, e | .tup _ :: _, _, e | .lst _ :: _, _, e | .dic _ _ :: _, _, e | .sal _ _ :: _, _, e | .row :: _, _, e => by cases e
@[simp] theorem asInts_map (ns : List Int) : asInts (ns.map D.int) = some ns := by
  induction ns with
  | nil => rfl
  | cons n ns ih => show (asInts (ns.map D.int)).map (n :: ·) = _; rw [ih]; rfl
def asBls : List D → Option (List Bool)
  | [] => some []
  | .bl i :: ds => (asBls ds).map (i :: ·)
  | _ :: _ => none
theorem asBls_some : ∀ {ds : List D} {ns : List Bool}, asBls ds = some ns → ds = ns.map D.bl
  | [], _, e => by cases e; rfl
  | .bl i :: ds, ns, e => by
    obtain ⟨ms, h1, h2⟩ := Option.map_eq_some_iff.mp (e : (asBls ds).map (i :: ·) = some ns)
    subst h2; rw [asBls_some h1]; rfl
  | .non :: _, _, e | .int _ :: _, _, e | .str _ :: _, _, e | .tup _ :: _, _, e | .lst _ :: _, _, e | .dic _ _ :: _, _, e | .sal _ _ :: _, _, e | .row :: _, _, e => by cases e
@[simp] theorem asBls_map (ns : List Bool) : asBls (ns.map D.bl) = some ns := by
  induction ns with
  | nil => rfl
  | cons n ns ih => show (asBls (ns.map D.bl)).map (n :: ·) = _; rw [ih]; rfl
def gSum : List D → Option D | [.lst ds] => (asInts ds).map fun ns => .int ns.sum | _ => none
theorem cs_sum : CaS B (rSum B.K) gSum := by
  intro r O H xs ds d Q hd rp e q
  unfold gSum at e
  split at e
  · obtain ⟨ns, h1, h2⟩ := Option.map_eq_some_iff.mp e
    subst h2
    obtain ⟨v, rfl, rq⟩ := rp.one
    obtain ⟨a, vs, rfl, h3, h4⟩ := rq.inv_lst
    rw [asInts_some h1] at h4
    rw [h4.ints] at h3
    exact ⟨a, ns, rfl, SqL.of (hid_le _ _ h3), q _ H (Same.refl H) (.int _)⟩
  · cases e
def gAll : List D → Option D | [.lst ds] => (asBls ds).map fun ns => .bl (ns.all id) | _ => none
theorem cs_all : CaS B (rAll B.K) gAll := by
  intro r O H xs ds d Q hd rp e q
  unfold gAll at e
  split at e
  · obtain ⟨ns, h1, h2⟩ := Option.map_eq_some_iff.mp e
    subst h2
    obtain ⟨v, rfl, rq⟩ := rp.one
    obtain ⟨a, vs, rfl, h3, h4⟩ := rq.inv_lst
    rw [asBls_some h1] at h4
    rw [h4.bls] at h3
    exact ⟨a, ns, rfl, SqL.of (hid_le _ _ h3), q _ H (Same.refl H) (.bl _)⟩
  · cases e
def gAny : List D → Option D | [.lst ds] => (asBls ds).map fun ns => .bl (ns.any id) | _ => none
theorem cs_any : CaS B (rAny B.K) gAny := by
  intro r O H xs ds d Q hd rp e q
  unfold gAny at e
  split at e
  · obtain ⟨ns, h1, h2⟩ := Option.map_eq_some_iff.mp e
    subst h2
    obtain ⟨v, rfl, rq⟩ := rp.one
    obtain ⟨a, vs, rfl, h3, h4⟩ := rq.inv_lst
    rw [asBls_some h1] at h4
    rw [h4.bls] at h3
    exact ⟨a, ns, rfl, SqL.of (hid_le _ _ h3), q _ H (Same.refl H) (.bl _)⟩
  · cases e
def maxL : List Int → Int | [] => 0 | n :: ns => ns.foldl max n
theorem foldl_max : ∀ (ns : List Int) (n : Int), ns.foldl max n ∈ n :: ns ∧ ∀ y ∈ n :: ns, y ≤ ns.foldl max n
  | [], n => ⟨by simp, by simp⟩
  | m :: ns, n => by
    have ⟨h1, h2⟩ := foldl_max ns (max n m)
    show ns.foldl max (max n m) ∈ _ ∧ ∀ y ∈ n :: m :: ns, y ≤ ns.foldl max (max n m)
    have h3 := h2 (max n m) (by simp)
    refine ⟨?_, fun y hy => ?_⟩
    · rcases List.mem_cons.mp h1 with e | e
      · rw [e]
        rcases Int.le_total n m with z | z
        · rw [Int.max_eq_right z]; simp
        · rw [Int.max_eq_left z]; simp
      · simp [e]
    · rcases List.mem_cons.mp hy with e | e
      · subst e; omega
      · rcases List.mem_cons.mp e with e | e
        · subst e; omega
        · exact h2 y (by simp [e])
theorem maxL_spec {ns : List Int} (h : ns ≠ []) : maxL ns ∈ ns ∧ ∀ y ∈ ns, y ≤ maxL ns := by
  cases ns with
  | nil => exact absurd rfl h
  | cons n ns => exact foldl_max ns n
def gMaxL : List D → Option D | [.lst ds] => (match asInts ds with | some (n :: ns) => some (.int (maxL (n :: ns))) | _ => none) | _ => none
theorem cs_maxL : CaS B (rMax B.K) gMaxL := by
  intro r O H xs ds d Q hd rp e q
  unfold gMaxL at e
  split at e
  · split at e
    · rename_i n ns h1
      cases e
      obtain ⟨v, rfl, rq⟩ := rp.one
      obtain ⟨a, vs, rfl, h3, h4⟩ := rq.inv_lst
      rw [asInts_some h1] at h4
      rw [h4.ints] at h3
      refine ⟨a, n :: ns, rfl, SqL.of (hid_le _ _ h3), by simp, fun m hm hy => ?_⟩
      have ⟨z1, z2⟩ := maxL_spec (ns := n :: ns) (by simp)
      have : m = maxL (n :: ns) := Int.le_antisymm (z2 m hm) (hy _ z1)
      subst this
      exact q _ H (Same.refl H) (.int _)
    · cases e
  · cases e
def gTuple : List D → Option D | [.lst ds] => some (.tup ds) | [.tup ds] => some (.tup ds) | _ => none
theorem cs_tuple : CaS B (fun xs H Q => ∃ p ys, xs = [.ref p] ∧ ((SqL B.K H p ys ∧ ∀ l, H l = none → Q (.ref l) (upd H l (.tup ys))) ∨ (SqT B.K H p ys ∧ Q (.ref p) H))) gTuple := by
  intro r O H xs ds d Q hd rp e q
  unfold gTuple at e
  split at e
  · cases e
    obtain ⟨v, rfl, rq⟩ := rp.one
    obtain ⟨a, vs, rfl, h3, h4⟩ := rq.inv_lst
    exact ⟨a, vs, rfl, .inl ⟨SqL.of (hid_le _ _ h3), fun p hp => q _ _ (same_new hp) (new_tup hp hd h4)⟩⟩
  · cases e
    obtain ⟨v, rfl, rq⟩ := rp.one
    obtain ⟨a, vs, rfl, h3, h4⟩ := rq.inv_tup
    exact ⟨a, vs, rfl, .inr ⟨sqT_le h3, q _ H (Same.refl H) (.tup h3 h4)⟩⟩
  · cases e
def gList : List D → Option D | [.lst ds] => some (.lst ds) | [.tup ds] => some (.lst ds) | _ => none
theorem cs_list : CaS B (fun xs H Q => ∃ p ys, xs = [.ref p] ∧ (SqL B.K H p ys ∨ SqT B.K H p ys) ∧ ∀ l, H l = none → Q (.ref l) (upd H l (.lst ys))) gList := by
  intro r O H xs ds d Q hd rp e q
  unfold gList at e
  split at e
  · cases e
    obtain ⟨v, rfl, rq⟩ := rp.one
    obtain ⟨a, vs, rfl, h3, h4⟩ := rq.inv_lst
    exact ⟨a, vs, rfl, .inl (SqL.of (hid_le _ _ h3)), fun p hp => q _ _ (same_new hp) (new_lst hp hd h4)⟩
  · cases e
    obtain ⟨v, rfl, rq⟩ := rp.one
    obtain ⟨a, vs, rfl, h3, h4⟩ := rq.inv_tup
    exact ⟨a, vs, rfl, .inr (sqT_le h3), fun p hp => q _ _ (same_new hp) (new_lst hp hd h4)⟩
  · cases e
/-! ### isinstance with a built-in type -/
def tyD : D → Option String
  | .non => some "NoneType" | .bl _ => some "bool" | .int _ => some "int" | .str _ => some "str" | .tup _ => some "tuple" | .lst _ => some "list" | .dic _ _ => some "dict" | _ => none
def gIsi (T : String) (d : D) : Option D := match tyD d with | some t => (kitB t T).map .bl | none => none
def cIsi (T : String) (f : En → M D) : En → M D := cUn (gIsi T) f
theorem rep_ty {r : Addr} {H : Hp} {v : V} {d : D} {t : String} (h : Rep B r H v d) (e : tyD d = some t) : TyX B.K H v (.type t) := by
  cases h with
  | non => cases e; exact .base .non
  | bl b => cases e; exact .base (.bl b)
  | int b => cases e; exact .base (.int b)
  | str b => cases e; exact .base (.str b)
  | tup h _ =>
    cases e
    rcases h with (h | ⟨o, h⟩) | ⟨o, its, n, h1, h2, _⟩
    · exact .base (.tup h)
    · exact .fTuple h
    · exact .kTuple h1 h2
  | lst h _ => cases e; exact .base (.lst h)
  | dic h _ _ _ => cases e; exact .base (.dK h)
  | sal _ _ _ => cases e
  | row => cases e
theorem rd_isi {W : List Nat} {E : Option XK} {ta : TE} {fa : En → M D} {T : String} (ha : RdE B W E ta fa) : RdE B W E (tCB (rIsi B.K) (tCons ta (tCons (tC (.ty T)) tNil))) (cIsi T fa) := by
  intro r sa H0 O0 O σ δ s H gd Q h
  refine ha gd _ (post_mono (post_bind h) (fun x s1 hx v H1 st ra rp => ?_) (fun _ _ z => z))
  obtain ⟨d, e, hd⟩ := post_lift hx
  unfold gIsi at e
  split at e
  · rename_i t ht
    obtain ⟨b, h1, h2⟩ := Option.map_eq_some_iff.mp e
    subst h2
    exact ⟨v, .ty T, .type t, .type T, b, rfl, .ty T, rep_ty (rp.mono hid_le) ht, kit_ty h1, hd _ H1 st ra (.bl b)⟩
  · cases e
/-! ### xs.index(x) -/
def gIndex : D → List D → Option D
  | .lst ds, [x] => if scal x && ds.all scal then (ds.findIdx? (eqS · x)).map fun (j : Nat) => .int (j : Int) else none
  | _, _ => none
def cMt (g : D → List D → Option D) (f : En → M D) (fr : En → M (List D)) : En → M D := fun δ s => (f δ s).bind fun d s1 => (fr δ s1).bind fun ds s2 => lift (g d ds) s2
theorem rd_index {W : List Nat} {E : Option XK} {ta : TE} {fa : En → M D} {tr : TA} {fr : En → M (List D)} (ha : RdE B W E ta fa) (hr : RdA B W E tr fr) (hl : ∀ δ s d s1, fa δ s = .ok d s1 → ∃ ds, d = .lst ds) :
    RdE B W E (tBM B.K "list" (rIndex B.K) ta tr) (cMt gIndex fa fr) := by
  intro r sa H0 O0 O σ δ s H gd Q h
  have h' := post_bind h
  have hl := hl δ s
  refine ha gd _ (?_ : (fa δ s).post _ _)
  cases q : fa δ s with
  | stuck => rw [q] at h'; exact h'
  | err e s' => rw [q] at h'; exact h'
  | ok x s1 =>
    rw [q] at h'
    obtain ⟨ds, rfl⟩ := hl x s1 q
    intro v H1 st ra rp
    obtain ⟨a, vs, rfl, h3, h4⟩ := rp.inv_lst
    refine ⟨.inl ⟨rfl, vs, SqL.of (hid_le _ _ h3)⟩, hr (gd.step st ra) _ (post_mono (post_bind h') (fun ys s2 hy w H2 st2 ra2 rp2 => ?_) (fun _ _ z => z.mono st))⟩
    obtain ⟨d, e, hd⟩ := post_lift hy
    have sm := st2.hid gd.rO
    unfold gIndex at e
    split at e
    · rename_i es y hz
      cases hz
      split at e
      · rename_i hf
        rw [Bool.and_eq_true] at hf
        obtain ⟨j, h5, h6⟩ := Option.map_eq_some_iff.mp e
        subst h6
        obtain ⟨y', rfl, ry⟩ := rp2.one
        have h4' := h4.mono sm
        obtain ⟨hj, hj1, hj2⟩ := List.findIdx?_eq_some_iff_getElem.mp h5
        obtain ⟨z, z1, z2⟩ := h4'.get j ds[j] (by simp [hj])
        refine ⟨a, vs, y', j, z, rfl, rfl, SqL.of (hid_le _ _ (sm _ _ h3)), by rw [← rep_flat ry]; exact hf.1, by rw [← reps_all h4']; exact hf.2, z1, by rw [rep_eqV z2 ry]; exact hj1, fun m z' hm hz' => ?_, hd _ H2 (st.trans st2) ra2 (.int _)⟩
        obtain ⟨dm, dm1, dm2⟩ := h4'.get' m z' hz'
        rw [rep_eqV dm2 ry]
        have hml : m < ds.length := by omega
        have e3 : ds[m] = dm := by
          have := List.getElem?_eq_getElem hml
          rw [this] at dm1; exact Option.some.inj dm1
        have := hj2 m hm
        rw [e3] at this
        simpa using this
      · cases e
    · cases e
end
end PV

namespace PV
open PySem L2
/-! ### for x in a list or a tuple -/
def iSeq (K : PySem.W.Frag) (tl : TE) : TI := fun σ H R => tl σ H fun x H1 => ∃ a, x = .ref a ∧ (((∃ xs, SqL K H1 a xs) ∧ R (Itl K a) H1) ∨ ((∃ xs, SqT K H1 a xs) ∧ R (Itt K a) H1))
theorem pi_seq {X : Cx} {tg l : Expr} {tl : TE} (hl : PE X l tl) : PI X tg l (iSeq X.K tl) := by
  refine ⟨fun pins s σ H R I h => ?_⟩
  refine thn (hl.run pins s σ H _ I h) fun v s1 ⟨x, H1, I1, r1, q1⟩ => ?_
  obtain ⟨a, e, q1⟩ := q1
  subst e
  cases r1
  rcases q1 with ⟨⟨xs, hq⟩, q⟩ | ⟨⟨xs, hq⟩, q⟩
  · obtain ⟨its, rv, p, hz⟩ := I1.list hq
    refine wpAny_pyIter_list p.isList ?_
    refine ⟨s1.heap.objs.size, [s1.heap.objs.size], _, _, H1, rfl, I1.kept (t' := s1.toks) fun b o e => Heap.get?_push_of_some _ e, turn_list a _, ⟨_, Heap.get?_push_size _ rfl, rfl, rfl⟩, fun b hb => ?_, q⟩
    have e : b = s1.heap.objs.size := by simpa using hb
    subst e
    exact I1.fpOk (Nat.le_refl _) (I1.hok.fresh (Nat.le_refl _))
  · obtain ⟨its, rv, p, hz⟩ := I1.tuple hq
    refine wpAny_pyIter_tuple (show s1.heap.IsTuple a its.toArray from p) ?_
    refine ⟨s1.heap.objs.size, [s1.heap.objs.size], _, _, H1, rfl, I1.kept (t' := s1.toks) fun b o e => Heap.get?_push_of_some _ e, turn_tuple a _, ⟨_, Heap.get?_push_size _ rfl, rfl, rfl⟩, fun b hb => ?_, q⟩
    have e : b = s1.heap.objs.size := by simpa using hb
    subst e
    exact I1.fpOk (Nat.le_refl _) (I1.hok.fresh (Nat.le_refl _))
section
variable {B : Bs} {W : List Nat} {E : Option XK}
theorem ri_seq {tl : TE} {f : En → M D} (ha : RdE B W E tl f) : RdI B W E (iSeq B.K tl) (cItU f) := by
  intro r sa H0 O0 O σ δ s H gd R h
  refine ha gd _ (post_mono (post_bind h) (fun x s1 hx v H1 st ra rp => ?_) (fun _ _ z => z))
  obtain ⟨ds, e, hd⟩ := post_lift hx
  cases x <;> simp [seqD] at e
  · subst e
    obtain ⟨a, vs, rfl, h1, h2⟩ := rp.inv_tup
    exact ⟨a, rfl, .inr ⟨⟨vs, sqT_le h1⟩, hd _ H1 st ra (wk_tup h1 h2)⟩⟩
  · subst e
    obtain ⟨a, vs, rfl, h1, h2⟩ := rp.inv_lst
    exact ⟨a, rfl, .inl ⟨⟨vs, SqL.of (hid_le _ _ h1)⟩, hd _ H1 st ra (wk_list h1 h2)⟩⟩
/-- a value that is a list -/
def cAsL (f : En → M D) : En → M D := fun δ s => (f δ s).bind fun d s1 => (lift (asLst d) s1).bind fun ds s2 => .ok (.lst ds) s2
theorem rd_asL {te : TE} {f : En → M D} (h : RdE B W E te f) : RdE B W E te (cAsL f) := by
  intro r sa H0 O0 O σ δ s H gd Q hp
  refine h gd _ (post_mono (post_bind hp) (fun x s1 hx v H1 st ra rp => ?_) (fun _ _ z => z))
  obtain ⟨ds, e, hd⟩ := post_lift (post_bind hx)
  cases asLst_some e
  exact hd v H1 st ra rp
theorem cAsL_lst {f : En → M D} {δ : En} {s s1 : S} {d : D} (h : cAsL f δ s = .ok d s1) : ∃ ds, d = .lst ds := by
  unfold cAsL at h
  cases e : f δ s with
  | stuck => rw [e] at h; cases h
  | err x y => rw [e] at h; cases h
  | ok x y =>
    rw [e] at h
    cases q : asLst x with
    | none => rw [bind_ok, q] at h; cases h
    | some ds => rw [bind_ok, q] at h; cases h; exact ⟨ds, rfl⟩
theorem rd_index' {ta : TE} {fa : En → M D} {tr : TA} {fr : En → M (List D)} (ha : RdE B W E ta fa) (hr : RdA B W E tr fr) : RdE B W E (tBM B.K "list" (rIndex B.K) ta tr) (cMt gIndex (cAsL fa) fr) :=
  rd_index (rd_asL ha) hr fun _ _ _ _ h => cAsL_lst h
end
end PV

namespace PV
open PySem L2
/-! ### the draws -/
def draw (s : S) (m : Int) : Int × S :=
  if 0 < s.rest then (s.rest % m, { s with rest := s.rest / m })
  else if s.ns.length < s.pos + 1 then
    let mx := (s.mix * 48271 + 11) % 2147483647
    (mx / 7 % m, { s with pos := s.pos + 1, mix := mx })
  else
    let c := s.ns.getD s.pos 0
    (c % m, { s with pos := s.pos + 1, mix := (s.mix * 48271 + c + 11) % 2147483647, rest := if 10 ^ 18 ≤ c then c / m else s.rest })
theorem draw_lt (s : S) {m : Int} (h : 0 < m) : 0 ≤ (draw s m).1 ∧ (draw s m).1 < m := by
  unfold draw
  split
  · exact ⟨Int.emod_nonneg _ (by omega), Int.emod_lt_of_pos _ h⟩
  · split
    · exact ⟨Int.emod_nonneg _ (by omega), Int.emod_lt_of_pos _ h⟩
    · exact ⟨Int.emod_nonneg _ (by omega), Int.emod_lt_of_pos _ h⟩
def drawF : List D → M D := fun ds s => match ds with
  | [.row, .int m] => if 0 < m ∧ m < 1073741824 then .ok (.int (draw s m).1) (draw s m).2 else .stuck
  | _ => .stuck
section
variable (K : PySem.W.Frag)
abbrev tk_ix (k : Int) : TE := tOp (rIxL K) (tVar 0) (tC (.int k))
abbrev tk_int (t : TE) : TE := tCB (fun xs H Q => (∃ i, xs = [.int i] ∧ Q (.int i) H) ∨ ∃ k, xs = [.bl k] ∧ Q (.int (if k then 1 else 0)) H) (tCons t tNil)
abbrev tk_mod (a b : TE) : TE := tOp (rI (fun _ j => 0 < j) fun i j => .int (i % j)) a b
abbrev tk_div (a b : TE) : TE := tOp (rI CDiv fun i j => .int (i / j)) a b
abbrev tk_add (a b : TE) : TE := tOp (rI0 fun i j => .int (i + j)) a b
abbrev tk_sub (a b : TE) : TE := tOp (rI0 fun i j => .int (i - j)) a b
abbrev tk_mul (a b : TE) : TE := tOp (rI CMul fun i j => .int (i * j)) a b
abbrev tk_put (k : Int) (t : TE) : TS := tAsg t (gSub (tVar 0) (tC (.int k)) rSetL)
abbrev tk_len (t : TE) : TE := tCB (fun xs H Q => ∃ p ys, xs = [.ref p] ∧ (SqL K H p ys ∨ SqT K H p ys) ∧ Q (.int ys.length) H) (tCons t tNil)
abbrev tk_pow : TE := tOp (rI CPow fun i j => .int (i ^ j.toNat)) (tC (.int 10)) (tC (.int 18))
def t_taken : TS :=
  tSeq (tIfS (tTest (tOp (rI0 fun i j => .bl (decide (j < i))) (tk_ix K 3) (tC (.int 0))))
    (tSeq (tAsg (tk_mod (tk_int (tk_ix K 3)) (tVar 1)) (gName 2)) (tSeq (tk_put 3 (tk_div (tk_ix K 3) (tVar 1))) (tRet (tVar 2)))) tNext)
  (tSeq (tk_put 1 (tk_add (tk_ix K 1) (tC (.int 1))))
  (tSeq (tIfS (tTest (tOp (rI0 fun i j => .bl (decide (j < i))) (tk_ix K 1) (tk_len K (tk_ix K 0))))
    (tSeq (tk_put 2 (tk_mod (tk_int (tk_add (tk_mul (tk_ix K 2) (tC (.int 48271))) (tC (.int 11)))) (tC (.int 2147483647)))) (tRet (tk_mod (tk_int (tk_div (tk_ix K 2) (tC (.int 7)))) (tVar 1)))) tNext)
  (tSeq (tAsg (tOp (rIxL K) (tk_ix K 0) (tk_sub (tk_ix K 1) (tC (.int 1)))) (gName 3))
  (tSeq (tk_put 2 (tk_mod (tk_int (tk_add (tk_add (tk_mul (tk_ix K 2) (tC (.int 48271))) (tVar 3)) (tC (.int 11)))) (tC (.int 2147483647))))
  (tSeq (tIfS (tTest (tOp (rI0 fun i j => .bl (decide (j ≤ i))) (tVar 3) tk_pow)) (tk_put 3 (tk_div (tVar 3) (tVar 1))) tNext)
  (tRet (tk_mod (tk_int (tVar 3)) (tVar 1))))))))
end
theorem ix4 {K : PySem.W.Frag} {H : Hp} {r : Addr} {a b c d : V} (h : H r = some (.lst [a, b, c, d])) : SqL K H r [a, b, c, d] := SqL.of h
theorem Scr.upd {K : PySem.W.Frag} {H : Hp} {sa r : Addr} {xs vs ws : List V} (h : Scr K H sa xs) (hr : H r = some (.lst vs)) : Scr K (upd H r (.lst ws)) sa xs :=
  h.elim (fun ⟨o, q⟩ => .inl ⟨o, by rw [upd_ne (ne_of q hr (fun z => nomatch z))]; exact q⟩) .inr
theorem Stp.row {r : Addr} {H H' : Hp} {o : HO} (h : Stp r H H') : Stp r H (upd H' r o) := fun a u na e => by rw [upd_ne na]; exact h a u na e
theorem taken_rd {B : Bs} {r sa : Addr} {H : Hp} {s : S} {m : Int} {D : Ends} {σ : St} (hσ : σ = [some (.ref r), some (.int m), none, none]) (h0 : 0 < m) (h1 : m < 1073741824) (ra : RowAt B r sa H s)
    (q : ∀ H', Stp r H H' → RowAt B r sa H' (draw s m).2 → D.rt (.int (draw s m).1) H') : t_taken B.K D σ H := by
  subst hσ
  obtain ⟨hr, hs⟩ := ra
  refine ⟨_, rfl, _, _, _, _, rfl, rfl, ix4 hr, rfl, _, _, rfl, rfl, _, rfl, ite2 (fun c1' => ?_) (fun c1' => ?_)⟩
  · have c1 : 0 < s.rest := of_decide_eq_true c1'
    have ed : draw s m = (s.rest % m, { s with rest := s.rest / m }) := by unfold draw; rw [if_pos c1]
    rw [ed] at q
    refine ⟨_, rfl, _, _, _, _, rfl, rfl, ix4 hr, rfl, .inl ⟨_, rfl, _, rfl, _, _, rfl, rfl, h0, ?_⟩⟩
    refine ⟨_, rfl, _, _, _, _, rfl, rfl, ix4 hr, rfl, _, rfl, _, _, rfl, rfl, ⟨h0, h1⟩, _, rfl, r, _, _, 3, rfl, rfl, hr, rfl, ?_⟩
    exact ⟨_, rfl, q _ (Stp.refl H).row ⟨upd_same, hs.upd hr⟩⟩
  · have c1 : ¬ 0 < s.rest := fun z => c1' (decide_eq_true z)
    refine ⟨_, rfl, _, _, _, _, rfl, rfl, ix4 hr, rfl, _, _, rfl, rfl, _, rfl, r, _, _, 1, rfl, rfl, hr, rfl, ?_⟩
    have hr1 : upd H r (.lst ([V.ref sa, .int (s.pos : Int), .int s.mix, .int s.rest].set 1 (.int ((s.pos : Int) + 1)))) r = some (.lst [.ref sa, .int ((s.pos : Int) + 1), .int s.mix, .int s.rest]) := upd_same
    have hs1 := hs.upd (ws := [V.ref sa, .int (s.pos : Int), .int s.mix, .int s.rest].set 1 (.int ((s.pos : Int) + 1))) hr
    have st1 : Stp r H (upd H r (.lst ([V.ref sa, .int (s.pos : Int), .int s.mix, .int s.rest].set 1 (.int ((s.pos : Int) + 1))))) := (Stp.refl H).row
    revert hr1 hs1 st1
    generalize upd H r (.lst ([V.ref sa, .int (s.pos : Int), .int s.mix, .int s.rest].set 1 (.int ((s.pos : Int) + 1)))) = H1
    intro hr1 hs1 st1
    refine ⟨_, rfl, _, _, _, _, rfl, rfl, ix4 hr1, rfl, _, rfl, _, _, _, _, rfl, rfl, ix4 hr1, rfl, _, _, rfl, .inl hs1.sq, _, _, rfl, rfl, _, rfl, ite2 (fun c2' => ?_) (fun c2' => ?_)⟩
    · have c2 : s.ns.length < s.pos + 1 := by
        have := of_decide_eq_true c2'
        rw [List.length_map] at this
        omega
      have ed : draw s m = ((s.mix * 48271 + 11) % 2147483647 / 7 % m, { s with pos := s.pos + 1, mix := (s.mix * 48271 + 11) % 2147483647 }) := by unfold draw; rw [if_neg c1, if_pos c2]
      rw [ed] at q
      refine ⟨_, rfl, _, _, _, _, rfl, rfl, ix4 hr1, rfl, _, _, rfl, rfl, .inr ⟨by decide, by decide⟩, _, _, rfl, rfl, .inl ⟨_, rfl, _, _, rfl, rfl, (show (0 : Int) < 2147483647 by decide), _, rfl, r, _, _, 2, rfl, rfl, hr1, rfl, ?_⟩⟩
      refine ⟨_, rfl, _, _, _, _, rfl, rfl, ix4 upd_same, rfl, _, _, rfl, rfl, ⟨by decide, by decide⟩, .inl ⟨_, rfl, _, rfl, _, _, rfl, rfl, h0, ?_⟩⟩
      exact q _ st1.row ⟨upd_same, hs1.upd hr1⟩
    · have c2 : ¬ s.ns.length < s.pos + 1 := fun z => c2' (decide_eq_true (by rw [List.length_map]; omega))
      have ed : draw s m = (s.ns.getD s.pos 0 % m, { s with pos := s.pos + 1, mix := (s.mix * 48271 + s.ns.getD s.pos 0 + 11) % 2147483647, rest := if 10 ^ 18 ≤ s.ns.getD s.pos 0 then s.ns.getD s.pos 0 / m else s.rest }) := by unfold draw; rw [if_neg c1, if_neg c2]
      rw [ed] at q
      have hp : s.pos < s.ns.length := by omega
      have hat : atI (s.ns.map V.int) ((s.pos : Int) + 1 - 1) = some (.int (s.ns.getD s.pos 0)) := by
        have : (s.pos : Int) + 1 - 1 = ((s.pos : Nat) : Int) := by omega
        rw [this]
        refine atI_nat ?_
        rw [List.getElem?_map, List.getElem?_eq_getElem hp, List.getD_eq_getElem?_getD, List.getElem?_eq_getElem hp]; rfl
      generalize s.ns.getD s.pos 0 = c at q hat
      refine ⟨_, rfl, _, _, _, _, rfl, rfl, ix4 hr1, rfl, _, rfl, _, _, _, _, rfl, rfl, ix4 hr1, rfl, _, _, rfl, rfl, _, _, _, _, rfl, rfl, hs1.sq, hat, ?_⟩
      refine ⟨_, rfl, _, _, _, _, rfl, rfl, ix4 hr1, rfl, _, _, rfl, rfl, .inr ⟨by decide, by decide⟩, _, rfl, _, _, rfl, rfl, _, _, rfl, rfl, .inl ⟨_, rfl, _, _, rfl, rfl, (show (0 : Int) < 2147483647 by decide), _, rfl, r, _, _, 2, rfl, rfl, hr1, rfl, ?_⟩⟩
      have hr2 : upd H1 r (.lst ([V.ref sa, .int ((s.pos : Int) + 1), .int s.mix, .int s.rest].set 2 (.int ((s.mix * 48271 + c + 11) % 2147483647)))) r = some (.lst [.ref sa, .int ((s.pos : Int) + 1), .int ((s.mix * 48271 + c + 11) % 2147483647), .int s.rest]) := upd_same
      have hs2 := hs1.upd (ws := [V.ref sa, .int ((s.pos : Int) + 1), .int s.mix, .int s.rest].set 2 (.int ((s.mix * 48271 + c + 11) % 2147483647))) hr1
      have st2 : Stp r H (upd H1 r (.lst ([V.ref sa, .int ((s.pos : Int) + 1), .int s.mix, .int s.rest].set 2 (.int ((s.mix * 48271 + c + 11) % 2147483647))))) := st1.row
      revert hr2 hs2 st2
      generalize upd H1 r (.lst ([V.ref sa, .int ((s.pos : Int) + 1), .int s.mix, .int s.rest].set 2 (.int ((s.mix * 48271 + c + 11) % 2147483647)))) = H2
      intro hr2 hs2 st2
      refine ⟨_, rfl, _, _, rfl, rfl, ⟨by decide, by decide, by decide⟩, _, _, rfl, rfl, _, rfl, ite2 (fun c3' => ?_) (fun c3' => ?_)⟩
      · have c3 : (10 : Int) ^ 18 ≤ c := of_decide_eq_true c3'
        rw [if_pos c3] at q
        refine ⟨_, rfl, _, rfl, _, _, rfl, rfl, ⟨h0, h1⟩, _, rfl, r, _, _, 3, rfl, rfl, hr2, rfl, ?_⟩
        refine ⟨_, rfl, .inl ⟨_, rfl, _, rfl, _, _, rfl, rfl, h0, ?_⟩⟩
        exact q _ st2.row ⟨upd_same, hs2.upd hr2⟩
      · have c3 : ¬ (10 : Int) ^ 18 ≤ c := fun z => c3' (decide_eq_true z)
        rw [if_neg c3] at q
        refine ⟨_, rfl, .inl ⟨_, rfl, _, rfl, _, _, rfl, rfl, h0, ?_⟩⟩
        exact q _ st2 ⟨hr2, hs2⟩
theorem taken_ok {B : Bs} {P : Program} {w : World} {mg : Str → Option Value} {base : Heap} {x qual : Str} {st : Stmt} {f : Addr} {fd : FuncData} {N : List Str} {ps : List Str} {k : Nat} (F : Fun B.K x qual st f fd) (Sc : FnScope N ps (defScope st)) (hN : N.length = 4) (hp : ps.length = 2)
    (hb : ∀ (cdv : Value) (A : Around) (outer : List Env) (s : Shared) (H : Hp) (E : XK), Room k (A.deeper (PyProof.Rows.envOfC qual (defScope st) s.heap.objs.size f cdv)) →
      PSs (cxOf CX0 P w B.K mg base N qual (defScope st) f cdv A outer s H E).nox (defBody st) (t_taken B.K)) : FnOk P w B.K mg base CX0 (k + 1) f fd ps (spD B 2 drawF) := by
  refine F.ok Sc (fun vs H Q E h => h.1.trans hp.symm) (fun cdv A outer s H vs Q E hr h => ⟨_, hb cdv A outer s H E hr, ?_⟩)
  obtain ⟨hl, r, sa, O, ds, s0, ra, hrO, hdom, rp, hq⟩ := h
  unfold drawF at hq
  split at hq
  · rename_i m
    obtain ⟨v, w', rfl, r1, r2⟩ := rp.two
    cases r1
    cases r2
    split at hq
    · rename_i hm
      exact taken_rd (by unfold L2.start; rw [hN]; rfl) hm.1 hm.2 ra fun H' st' ra' => hq _ H' st' ra' (.int _)
    · exact hq.elim
  · exact hq.elim
/-! ### the greatest common divisor, by recursion -/
theorem sh_int (i : Int) : SeqAt.shaped (.int i) = true := by simp [SeqAt.shaped, PyData.canLay0, PyData.depth]
theorem eqv_int (i j : Int) : PyData.eqv (.int i) (.int j) = (i == j) := by simp [PyData.eqv]
def egs : Nat → Int → Int → Option Int
  | 0, a, b => if b = 0 then some (if a < 0 then -a else a) else none
  | n + 1, a, b => if b = 0 then some (if a < 0 then -a else a) else if 0 < b then egs n b (a % b) else none
def gcdF (L : Nat) : List D → M D := fun ds s => match ds with
  | [.int a, .int b] => lift ((egs L a b).map D.int) s
  | _ => .stuck
def t_gcd (K : PySem.W.Frag) (tr : TE) : TS := tRet (tIf (tTest (tOp (rEqD K) (tVar 1) (tC (.int 0)))) (tCB (fun xs H Q => ∃ i, xs = [.int i] ∧ Q (.int (if i < 0 then -i else i)) H) (tCons (tVar 0) tNil)) tr)
def t_gcdR (B : Bs) (n : Nat) : TE := tCall (spD B 2 (gcdF n)) [] E0 (tCons (tVar 1) (tCons (tOp (rI (fun _ j => 0 < j) fun i j => .int (i % j)) (tVar 0) (tVar 1)) tNil))
theorem gcd_ok {B : Bs} {P : Program} {w : World} {mg : Str → Option Value} {base : Heap} {x qual : Str} {st : Stmt} {f : Addr} {fd : FuncData} {N ps : List Str} (F : Fun B.K x qual st f fd) (Sc : FnScope N ps (defScope st)) (hN : N.length = 2) (hp : ps.length = 2)
    (hb : ∀ (n : Nat) (t : TE) (cdv : Value) (A : Around) (outer : List Env) (s : Shared) (H : Hp) (E : XK), Room n (A.deeper (PyProof.Rows.envOfC qual (defScope st) s.heap.objs.size f cdv)) →
      (n = 0 ∧ t = (fun _ _ _ => False) ∨ ∃ k, n = k + 1 ∧ FnOk P w B.K mg base CX0 n f fd ps (spD B 2 (gcdF k)) ∧ t = t_gcdR B k) →
      PSs (cxOf CX0 P w B.K mg base N qual (defScope st) f cdv A outer s H E).nox (defBody st) (t_gcd B.K t)) : ∀ L, FnOk P w B.K mg base CX0 (L + 1) f fd ps (spD B 2 (gcdF L)) := by
  intro L
  induction L with
  | zero =>
    refine F.ok Sc (fun vs H Q E h => h.1.trans hp.symm) (fun cdv A outer s H vs Q E hr h => ⟨_, hb 0 _ cdv A outer s H E hr (.inl ⟨rfl, rfl⟩), ?_⟩)
    obtain ⟨hl, r, sa, O, ds, s0, ra, hrO, hdom, rp, hq⟩ := h
    unfold gcdF at hq
    split at hq
    · rename_i a b
      obtain ⟨v, w', rfl, r1, r2⟩ := rp.two
      cases r1; cases r2
      obtain ⟨d, e, hq⟩ := post_lift hq
      obtain ⟨g, e1, e2⟩ := Option.map_eq_some_iff.mp e
      subst e2
      unfold egs at e1
      split at e1
      · rename_i hb0
        subst hb0
        cases e1
        have hs : L2.start N [V.int a, V.int 0] = [some (.int a), some (.int 0)] := by unfold L2.start; rw [hN]; rfl
        rw [hs]
        refine ⟨_, rfl, _, _, .int 0, .int 0, sh_int 0, sh_int 0, true, by rw [eqv_int]; rfl, iteT ?_⟩
        exact ⟨_, rfl, a, rfl, hq _ H (Stp.refl H) ra (.int _)⟩
      · cases e1
    · exact hq.elim
  | succ L ih =>
    refine F.ok Sc (fun vs H Q E h => h.1.trans hp.symm) (fun cdv A outer s H vs Q E hr h => ⟨_, hb (L + 1) _ cdv A outer s H E hr (.inr ⟨L, rfl, ih, rfl⟩), ?_⟩)
    obtain ⟨hl, r, sa, O, ds, s0, ra, hrO, hdom, rp, hq⟩ := h
    unfold gcdF at hq
    split at hq
    · rename_i a b
      obtain ⟨v, w', rfl, r1, r2⟩ := rp.two
      cases r1; cases r2
      obtain ⟨d, e, hq⟩ := post_lift hq
      obtain ⟨g, e1, e2⟩ := Option.map_eq_some_iff.mp e
      subst e2
      have hs : L2.start N [V.int a, V.int b] = [some (.int a), some (.int b)] := by unfold L2.start; rw [hN]; rfl
      rw [hs]
      unfold egs at e1
      split at e1
      · rename_i hb0
        subst hb0
        cases e1
        refine ⟨_, rfl, _, _, .int 0, .int 0, sh_int 0, sh_int 0, true, by rw [eqv_int]; rfl, iteT ?_⟩
        exact ⟨_, rfl, a, rfl, hq _ H (Stp.refl H) ra (.int _)⟩
      · rename_i hb0
        split at e1
        · rename_i hb1
          refine ⟨_, rfl, _, _, .int b, .int 0, sh_int b, sh_int 0, false, by rw [eqv_int, beq_eq_false_iff_ne.mpr hb0], iteF ?_⟩
          · refine ⟨_, rfl, _, rfl, _, rfl, _, _, rfl, rfl, hb1, ?_⟩
            refine ⟨rfl, r, sa, O, [.int b, .int (a % b)], s0, ra, hrO, hdom, .cons (.int _) (.cons (.int _) .nil), ?_⟩
            show (lift ((egs L b (a % b)).map D.int) s0).post _ _
            rw [e1]
            exact hq
        · cases e1
    · exact hq.elim
/-! ### the law's own def -/
def lawEn (n : Nat) : En := none :: some .row :: List.replicate (n - 2) none
def spLaw (K : PySem.W.Frag) : Sp := fun vs H Q _ => ∃ (a : Addr) (ns : List Int), vs = [.ref a] ∧ SqL K H a (ns.map V.int) ∧ Only H ∧ ns.length ≤ 63 ∧ ∀ H', Q (.bl true) H'
theorem law_ok {B : Bs} {W : List Nat} {P : Program} {w : World} {mg : Str → Option Value} {base : Heap} {x qual : Str} {st : Stmt} {f : Addr} {fd : FuncData} {N ps : List Str} {k : Nat} {seed : Int} {body : En → M Fl} (F : Fun B.K x qual st f fd) (Sc : FnScope N ps (defScope st)) (hN : 2 ≤ N.length) (hps : ps.length = 1) (hW : 1 ∉ W)
    (hb : ∀ (cdv : Value) (A : Around) (outer : List Env) (s : Shared) (H : Hp) (E : XK), Room k (A.deeper (PyProof.Rows.envOfC qual (defScope st) s.heap.objs.size f cdv)) →
      ∃ t, PSs (cxOf CX0 P w B.K mg base N qual (defScope st) f cdv A outer s H E).nox (defBody st) (tSeq (tAsg (tLst (tCons (tVar 0) (tCons (tC (.int 0)) (tCons (tC (.int seed)) (tCons (tC (.int 0)) tNil))))) (gName 1)) t) ∧ RdS B W none t body)
    (hl : ∀ ns : List Int, ns.length ≤ 63 → ∃ s', body (lawEn N.length) ⟨ns, 0, seed, 0⟩ = .ok (.ret (.bl true)) s') : FnOk P w B.K mg base CX0 (k + 1) f fd ps (spLaw B.K) := by
  refine F.ok Sc (fun vs H Q E h => ?_) (fun cdv A outer s H vs Q E hr h => ?_)
  · obtain ⟨a, ns, rfl, _⟩ := h; exact hps.symm
  obtain ⟨t, hP, hR⟩ := hb cdv A outer s H E hr
  obtain ⟨a, ns, rfl, hS, hO, hn, q⟩ := h
  refine ⟨_, hP, ?_⟩
  have hst : L2.start N [V.ref a] = some (.ref a) :: none :: List.replicate (N.length - 2) none := by
    unfold L2.start
    obtain ⟨m, hm⟩ : ∃ m, N.length = m + 2 := ⟨N.length - 2, by omega⟩
    rw [hm]
    show some (V.ref a) :: ([] ++ List.replicate (m + 2 - 1) none) = _
    rw [show m + 2 - 1 = m + 1 by omega, show m + 2 - 2 = m by omega, List.replicate_succ]; rfl
  rw [hst]
  refine ⟨_, rfl, by show 4 ≤ sizeLine; decide, fun r hr0 => ?_⟩
  have scr : Scr B.K H a (ns.map V.int) := by
    rcases hS with (h | ⟨o, h⟩) | h
    · rcases hO a with z | ⟨o, xs, z⟩
      · rw [z] at h; cases h
      · rw [z] at h; cases h
    · exact .inl ⟨o, h⟩
    · exact .inr fun H' => .inr h
  have ra : RowAt B r a (upd H r (.lst [.ref a, .int 0, .int seed, .int 0])) ⟨ns, 0, seed, 0⟩ := by
    refine ⟨upd_same, scr.elim (fun ⟨o, e⟩ => .inl ⟨o, ?_⟩) .inr⟩
    rw [upd_ne (ne_of_none e hr0)]; exact e
  have gd : Gd B r a (upd H r (.lst [.ref a, .int 0, .int seed, .int 0])) [r] W [r] (some (.ref a) :: some (.ref r) :: List.replicate (N.length - 2) none) (lawEn N.length) ⟨ns, 0, seed, 0⟩ (upd H r (.lst [.ref a, .int 0, .int seed, .int 0])) := by
    have key : ∀ i d, (lawEn N.length)[i]? = some (some d) → i = 1 ∧ d = .row := fun i d e => by
      unfold lawEn at e
      match i, e with
      | 0, e => cases e
      | 1, e => cases e; exact ⟨rfl, rfl⟩
      | i + 2, e =>
        have e : (List.replicate (N.length - 2) (none : Option D))[i]? = some (some d) := e
        rw [List.getElem?_replicate] at e
        split at e <;> cases e
    refine ⟨by unfold lawEn; simp, ra, by simp, fun p hp => ?_, fun p hp => ?_, fun _ h => h, fun _ h => .inl h, Stp.refl _, fun i d hi e => ?_, fun i d hi e => ?_, fun i j p d e hi hj ne z1 z2 _ _ => ?_⟩
    · have : p = r := by simpa using hp
      rw [this, upd_same]; exact fun z => nomatch z
    · have : p = r := by simpa using hp
      rw [this, upd_same]; exact fun z => nomatch z
    · obtain ⟨rfl, rfl⟩ := key i d e
      exact ⟨_, rfl, .row⟩
    · obtain ⟨rfl, rfl⟩ := key i d e
      exact absurd hi hW
    · have h1 := (key i d z1).1
      have h2 := (key j e z2).1
      exact ne (h1.trans h2.symm)
  obtain ⟨s', e⟩ := hl ns hn
  refine hR gd _ ?_
  rw [e]
  exact fun v H' _ _ rp => by cases rp; exact q H'
def fuelI (i : Nat) : En → Nat := fun δ => match δ[i]?.join with | some (.int n) => n.natAbs + 1 | _ => 0
def fuelL (i : Nat) : En → Nat := fun δ => match δ[i]?.join with | some (.lst n) => n.length + 1 | _ => 0
end PV

namespace PV
open PySem L2
/-! ### reckoning with the plain functions -/
section
variable {δ : En} {s : S}
@[simp] theorem e_var (i : Nat) : cVar i δ s = lift (δ[i]?.join) s := rfl
@[simp] theorem e_c (d : D) : cC d δ s = .ok d s := rfl
@[simp] theorem e_op (g) (fa fb : En → M D) : cOp g fa fb δ s = (fa δ s).bind fun x s1 => (fb δ s1).bind fun y s2 => lift (g x y) s2 := rfl
@[simp] theorem e_un (g) (fa : En → M D) : cUn g fa δ s = (fa δ s).bind fun x s1 => lift (g x) s1 := rfl
@[simp] theorem e_nil : cNil δ s = .ok [] s := rfl
@[simp] theorem e_cons (fa : En → M D) (fr) : cCons fa fr δ s = (fa δ s).bind fun x s1 => (fr δ s1).bind fun xs s2 => .ok (x :: xs) s2 := rfl
@[simp] theorem e_b (g) (fr) : cB g fr δ s = (fr δ s).bind fun ds s1 => lift (g ds) s1 := rfl
@[simp] theorem e_tst (fa : En → M D) : cTst fa δ s = (fa δ s).bind fun d s1 => lift (asB d) s1 := rfl
@[simp] theorem e_and (fa fb : En → M Bool) : cAnd fa fb δ s = (fa δ s).bind fun b s1 => if b then fb δ s1 else .ok false s1 := rfl
@[simp] theorem e_or (fa fb : En → M Bool) : cOr fa fb δ s = (fa δ s).bind fun b s1 => if b then .ok true s1 else fb δ s1 := rfl
@[simp] theorem e_not (fa : En → M Bool) : cNot fa δ s = (fa δ s).bind fun b s1 => .ok (!b) s1 := rfl
@[simp] theorem e_andV (fa fb : En → M D) : cAndV fa fb δ s = (fa δ s).bind fun d s1 => (lift (asB d) s1).bind fun b s2 => if b then fb δ s2 else .ok (.bl false) s2 := rfl
@[simp] theorem e_orV (fa fb : En → M D) : cOrV fa fb δ s = (fa δ s).bind fun d s1 => (lift (asB d) s1).bind fun b s2 => if b then .ok (.bl true) s2 else fb δ s2 := rfl
@[simp] theorem e_notV (fa : En → M D) : cNotV fa δ s = (fa δ s).bind fun d s1 => (lift (asB d) s1).bind fun b s2 => .ok (.bl (!b)) s2 := rfl
@[simp] theorem e_if (c) (fa fb : En → M D) : cIf c fa fb δ s = (c δ s).bind fun b s1 => if b then fa δ s1 else fb δ s1 := rfl
@[simp] theorem e_tup (fa) : cTup fa δ s = (fa δ s).bind fun ds s1 => if ds.length ≤ 100000 then .ok (.tup ds) s1 else .stuck := rfl
@[simp] theorem e_lst (fa) : cLst fa δ s = (fa δ s).bind fun ds s1 => if ds.length ≤ 100000 then .ok (.lst ds) s1 else .stuck := rfl
@[simp] theorem e_lstL (fa) : cLstL fa δ s = (fa δ s).bind fun ds s1 => if ds.length ≤ 100000 then .ok ds s1 else .stuck := rfl
@[simp] theorem e_chain (g g') (fa fb fc : En → M D) : cChain g g' fa fb fc δ s = (fa δ s).bind fun x s1 => (fb δ s1).bind fun y s2 => (lift (g x y) s2).bind fun z s3 => (lift (asB z) s3).bind fun b s4 => if b then (fc δ s4).bind fun w s5 => lift (g' y w) s5 else .ok (.bl false) s4 := rfl
@[simp] theorem e_call (n F fr) : cCall n F fr δ s = (fr δ s).bind fun ds s1 => if ds.length = n then F ds s1 else .stuck := rfl
@[simp] theorem e_isi (T) (fa : En → M D) : cIsi T fa δ s = (fa δ s).bind fun x s1 => lift (gIsi T x) s1 := rfl
@[simp] theorem e_next : cNext δ s = .ok (.next δ) s := rfl
@[simp] theorem e_ret (f : En → M D) : cRet f δ s = (f δ s).bind fun d s1 => .ok (.ret d) s1 := rfl
@[simp] theorem e_do (f : En → M D) : cDo f δ s = (f δ s).bind fun _ s1 => .ok (.next δ) s1 := rfl
@[simp] theorem e_ite (c F G) : cIte c F G δ s = (c δ s).bind fun b s1 => if b then F δ s1 else G δ s1 := rfl
@[simp] theorem e_set (i) (f : En → M D) : cSet i f δ s = (f δ s).bind fun d s1 => .ok (.next (δ.set i (some d))) s1 := rfl
@[simp] theorem e_setL (i) (f : En → M (List D)) : cSetL i f δ s = (f δ s).bind fun d s1 => .ok (.next (δ.set i (some (.lst d)))) s1 := rfl
@[simp] theorem e_asg (f : En → M D) (tg) : cAsg f tg δ s = (f δ s).bind fun d s1 => (lift (tg d δ) s1).bind fun δ' s2 => .ok (.next δ') s2 := rfl
@[simp] theorem e_aug (i g) (f : En → M D) : cAug i g f δ s = (lift (δ[i]?.join.bind asI) s).bind fun x s0 => (f δ s0).bind fun d s1 => (lift (asI d) s1).bind fun y s2 => .ok (.next (δ.set i (some (.int (g x y))))) s2 := rfl
@[simp] theorem e_stuck : cStuck δ s = .stuck := rfl
@[simp] theorem e_for (src tg F) : cFor src tg F δ s = (src δ s).bind fun ds s1 => forL tg F ds δ s1 := rfl
@[simp] theorem e_while (fu c F) : cWhile fu c F δ s = whileN c F (fu δ) δ s := rfl
@[simp] theorem e_ofL (f : En → M (List D)) : cOfL f δ s = (f δ s).bind fun ds s1 => .ok (.lst ds) s1 := rfl
@[simp] theorem e_lc (vs src tg c) (f : En → M D) : cLc vs src tg c f δ s = (src δ s).bind fun ds s1 => if ds.length ≤ 100000 then (compL tg c f (wipeD δ vs) ds s1).bind fun ds s2 => .ok (.lst ds) s2 else .stuck := by
  unfold cLc cOfL cComp
  cases src δ s with
  | ok ds s1 => simp only [bind_ok]; split <;> rfl
  | stuck => rfl
  | err e s => rfl
@[simp] theorem e_comp (vs src tg c) (f : En → M D) : cComp vs src tg c f δ s = (src δ s).bind fun ds s1 => if ds.length ≤ 100000 then compL tg c f (wipeD δ vs) ds s1 else .stuck := rfl
@[simp] theorem e_yes : cYes δ s = .ok true s := rfl
@[simp] theorem e_itU (f : En → M D) : cItU f δ s = (f δ s).bind fun d s1 => lift (seqD d) s1 := rfl
@[simp] theorem e_itA (g f) : cItA g f δ s = (f δ s).bind fun ds s1 => lift (g ds) s1 := rfl
@[simp] theorem e_app (i) (f : En → M D) : cApp i f δ s = (lift (ownL δ i) s).bind fun ds s0 => (f δ s0).bind fun d s1 => if ds.length < 100000 then .ok (.next (δ.set i (some (.lst (ds ++ [d]))))) s1 else .stuck := rfl
@[simp] theorem e_no : cNo δ s = .ok none s := rfl
@[simp] theorem e_part (f : En → M D) : cPart f δ s = (f δ s).bind fun d s1 => (lift (asI d) s1).bind fun i s2 => .ok (some i) s2 := rfl
@[simp] theorem e_sl (f : En → M D) (fl fh) : cSl f fl fh δ s = (f δ s).bind fun d s1 => (fl δ s1).bind fun lo s2 => (fh δ s2).bind fun hi s3 => lift (gSl d lo hi) s3 := rfl
@[simp] theorem e_mt (g) (f : En → M D) (fr) : cMt g f fr δ s = (f δ s).bind fun d s1 => (fr δ s1).bind fun ds s2 => lift (g d ds) s2 := rfl
@[simp] theorem e_asL (f : En → M D) : cAsL f δ s = (f δ s).bind fun d s1 => (lift (asLst d) s1).bind fun ds s2 => .ok (.lst ds) s2 := rfl
@[simp] theorem e_scal (f : En → M D) : cScal f δ s = calmO scal (f δ s) := rfl
@[simp] theorem e_pk (f : En → M Bool) : cPk f δ s = calmO (fun _ => true) (f δ s) := rfl
@[simp] theorem calm_ok {α : Type} (p : α → Bool) (a : α) : calmO p (.ok a s) = if p a then .ok a s else .stuck := rfl
@[simp] theorem e_par (F) : cPar F δ s = (F δ δ s).bind fun δ' s1 => .ok (.next δ') s1 := rfl
@[simp] theorem e_pnil (δa : En) : pNil δ δa s = .ok δa s := rfl
@[simp] theorem e_pcons (W i f F) (δa : En) : pCons W i f F δ δa s = (f δ s).bind fun c s1 => (lift (putC W i c δa) s1).bind fun δb s2 => F δ δb s2 := rfl
@[simp] theorem e_cV (f : En → M D) : cV f δ s = (f δ s).bind fun d s1 => .ok (.v d) s1 := rfl
@[simp] theorem e_cN (f : En → M (List D)) : cN f δ s = (f δ s).bind fun d s1 => .ok (.n d) s1 := rfl
@[simp] theorem e_seq (F G) : cSeq F G δ s = (F δ s).bind fun fl s1 => match fl with | .next δ' => G δ' s1 | fl => .ok fl s1 := rfl
end
@[simp] theorem g_add (i j : Int) : gAdd (.int i) (.int j) = some (.int (i + j)) := rfl
theorem g_addL (x y : List D) (h : x.length + y.length ≤ 100000) : gAdd (.lst x) (.lst y) = some (.lst (x ++ y)) := by simp [gAdd, h]
theorem g_addT (x y : List D) (h : x.length + y.length ≤ 100000) : gAdd (.tup x) (.tup y) = some (.tup (x ++ y)) := by simp [gAdd, h]
@[simp] theorem g_dif (i j : Int) : gDif (.int i) (.int j) = some (.int (i - j)) := rfl
@[simp] theorem g_lt (i j : Int) : gLt (.int i) (.int j) = some (.bl (decide (i < j))) := rfl
@[simp] theorem g_le (i j : Int) : gLe (.int i) (.int j) = some (.bl (decide (i ≤ j))) := rfl
@[simp] theorem g_gt (i j : Int) : gGt (.int i) (.int j) = some (.bl (decide (j < i))) := rfl
@[simp] theorem g_ge (i j : Int) : gGe (.int i) (.int j) = some (.bl (decide (j ≤ i))) := rfl
@[simp] theorem g_neg (i : Int) : gNeg (.int i) = some (.int (-i)) := rfl
@[simp] theorem g_asB (b : Bool) : asB (.bl b) = some b := rfl
@[simp] theorem g_asI (i : Int) : asI (.int i) = some i := rfl
@[simp] theorem g_asLst (l : List D) : asLst (.lst l) = some l := rfl
@[simp] theorem g_seqL (l : List D) : seqD (.lst l) = some l := rfl
@[simp] theorem g_seqT (l : List D) : seqD (.tup l) = some l := rfl
@[simp] theorem g_lenL (l : List D) : gLen [.lst l] = some (.int l.length) := rfl
@[simp] theorem g_lenT (l : List D) : gLen [.tup l] = some (.int l.length) := rfl
@[simp] theorem g_abs (i : Int) : gAbs [.int i] = some (.int i.natAbs) := by
  show some (D.int (if i < 0 then -i else i)) = _
  congr 2; split <;> omega
@[simp] theorem g_int (i : Int) : gInt [.int i] = some (.int i) := rfl
@[simp] theorem g_min2 (i j : Int) : gMin2 [.int i, .int j] = some (.int (min i j)) := by
  show some (D.int (if j < i then j else i)) = _
  congr 2; split <;> omega
@[simp] theorem g_max2 (i j : Int) : gMax2 [.int i, .int j] = some (.int (max i j)) := by
  show some (D.int (if j > i then j else i)) = _
  congr 2; split <;> omega
@[simp] theorem g_sum (ns : List Int) : gSum [.lst (ns.map D.int)] = some (.int ns.sum) := by simp [gSum]
@[simp] theorem g_all (ns : List Bool) : gAll [.lst (ns.map D.bl)] = some (.bl (ns.all id)) := by simp [gAll]
@[simp] theorem g_any (ns : List Bool) : gAny [.lst (ns.map D.bl)] = some (.bl (ns.any id)) := by simp [gAny]
@[simp] theorem g_tupL (l : List D) : gTuple [.lst l] = some (.tup l) := rfl
@[simp] theorem g_tupT (l : List D) : gTuple [.tup l] = some (.tup l) := rfl
@[simp] theorem g_ixT (l : List D) (i : Int) : gIx (.tup l) (.int i) = atI l i := rfl
@[simp] theorem g_ixL (l : List D) (i : Int) : gIx (.lst l) (.int i) = atI l i := rfl
@[simp] theorem at_nat {α : Type} (l : List α) (n : Nat) : atI l (n : Int) = l[n]? := by
  unfold atI ixN
  rw [if_pos (by omega)]
  split
  · simp
  · rename_i h
    rw [List.getElem?_eq_none (by omega)]; rfl
@[simp] theorem at_0 {α : Type} (l : List α) : atI l 0 = l[0]? := at_nat l 0
@[simp] theorem at_1 {α : Type} (l : List α) : atI l 1 = l[1]? := at_nat l 1
@[simp] theorem at_2 {α : Type} (l : List α) : atI l 2 = l[2]? := at_nat l 2
@[simp] theorem at_3 {α : Type} (l : List α) : atI l 3 = l[3]? := at_nat l 3
theorem at_m1 {α : Type} (l : List α) : atI l (-1) = l.getLast? := by
  rcases List.eq_nil_or_concat l with h | ⟨m, a, h⟩
  · subst h; rfl
  · subst h; rw [List.concat_eq_append, atI_last]; simp
@[simp] theorem kB_ii : kitB "int" "int" = some true := by decide +kernel
@[simp] theorem kB_ib : kitB "int" "bool" = some false := by decide +kernel
@[simp] theorem kB_it : kitB "int" "tuple" = some false := by decide +kernel
@[simp] theorem kB_tt : kitB "tuple" "tuple" = some true := by decide +kernel
@[simp] theorem kB_tb : kitB "tuple" "bool" = some false := by decide +kernel
@[simp] theorem kB_ti : kitB "tuple" "int" = some false := by decide +kernel
@[simp] theorem gi_int (T : String) (i : Int) : gIsi T (.int i) = (kitB "int" T).map .bl := rfl
@[simp] theorem gi_tup (T : String) (i : List D) : gIsi T (.tup i) = (kitB "tuple" T).map .bl := rfl
@[simp] theorem tg_name (i : Nat) (d : D) (δ : En) : tgName i d δ = some (δ.set i (some d)) := rfl
@[simp] theorem tg_nil (δ : En) : tgNil [] δ = some δ := rfl
@[simp] theorem tg_cons (t u d ds) (δ : En) : tgCons t u (d :: ds) δ = (t d δ).bind fun δ' => u ds δ' := rfl
@[simp] theorem tg_tup (n t ds) (δ : En) : tgTup n t (.tup ds) δ = if ds.length = n then t ds δ else none := rfl
@[simp] theorem wp_nil (δ : En) : wipeD δ [] = δ := rfl
@[simp] theorem wp_cons (δ : En) (v vs) : wipeD δ (v :: vs) = (wipeD δ vs).set v none := rfl
@[simp] theorem pc_v (W : List Nat) (i : Nat) (d : D) (δ : En) : putC W i (.v d) δ = if i ∈ W then none else some (δ.set i (some d)) := rfl
@[simp] theorem pc_n (W : List Nat) (i : Nat) (d : List D) (δ : En) : putC W i (.n d) δ = if i ∈ W then some (δ.set i (some (.lst d))) else none := rfl
@[simp] theorem ed_ret (d : D) (s : S) : endD (.ret d) s = .ok d s := rfl
@[simp] theorem ed_next (d : En) (s : S) : endD (.next d) s = .ok .non s := rfl
@[simp] theorem isN_non (d : D) : gIsN d .non = some (.bl (isNonB d)) := rfl
@[simp] theorem notN_non (d : D) : gNotN d .non = some (.bl (!isNonB d)) := rfl
@[simp] theorem isNon1 : isNonB .non = true := rfl
@[simp] theorem isNon2 (l : List D) : isNonB (.tup l) = false := rfl
@[simp] theorem isNon3 (l : Int) : isNonB (.int l) = false := rfl
@[simp] theorem ow_eq (δ : En) (i : Nat) : ownL δ i = δ[i]?.join.bind asLst := rfl
/-! ### sizes -/
/-- of at most n bits -/
def Bd (n : Nat) (x : Int) : Prop := x.natAbs < 2 ^ n
theorem Bd.mono {n m : Nat} {x : Int} (h : Bd n x) (hm : n ≤ m) : Bd m x := Nat.lt_of_lt_of_le h (Nat.pow_le_pow_right (by decide) hm)
theorem Bd.mul {n m : Nat} {x y : Int} (h : Bd n x) (h' : Bd m y) : Bd (n + m) (x * y) := by
  unfold Bd at *
  rw [Int.natAbs_mul, Nat.pow_add]; exact Nat.mul_lt_mul'' h h'
theorem Bd.log {n : Nat} {x : Int} (h : Bd n x) : x.natAbs.log2 ≤ n := by
  cases e : x.natAbs with
  | zero => simp
  | succ k =>
    have h1 : x.natAbs < 2 ^ n := h
    have := (Nat.log2_lt (by omega : x.natAbs ≠ 0)).mpr h1
    rw [e] at this; omega
theorem g_mul {n m : Nat} {i j : Int} (h : Bd n i) (h' : Bd m j) (hz : n + m < 1000000) : gMul (.int i) (.int j) = some (.int (i * j)) := by
  show (if okMul i j then some (D.int (i * j)) else none) = _
  unfold okMul
  rw [if_pos (decide_eq_true (by have := h.log; have := h'.log; omega))]
theorem g_fdiv {m : Nat} {i j : Int} (h0 : 0 < j) (h' : Bd m j) (hz : m < 9000) : gFdiv (.int i) (.int j) = some (.int (i / j)) := by
  show (if okDiv i j then some (D.int (i / j)) else none) = _
  unfold okDiv
  rw [if_pos (decide_eq_true ⟨h0, by have := h'.log; omega⟩)]
theorem g_mod {i j : Int} (h0 : 0 < j) : gMod (.int i) (.int j) = some (.int (i % j)) := by
  show (if okMod i j then some (D.int (i % j)) else none) = _
  unfold okMod
  rw [if_pos (decide_eq_true h0)]
@[simp] theorem g_pow (i j : Nat) (h : decide (j ≤ 1000000 ∧ i < 2 ^ 64) = true := by decide) : gPow (.int i) (.int j) = some (.int ((i : Int) ^ j)) := by
  have h := of_decide_eq_true h
  show (if okPow i j then some (D.int ((i : Int) ^ (j : Int).toNat)) else none) = _
  unfold okPow
  rw [if_pos (decide_eq_true ⟨by omega, by omega, by omega⟩)]; simp
/-! ### walks -/
theorem run_eq {np n : Nat} {body : En → M Fl} {ds : List D} {s : S} (h : ds.length = np) : runD np n body ds s = (body (startD n ds) s).bind endD := by unfold runD; rw [if_pos h]
theorem comp_pure {α : Type} {tg c f δ} {enc : α → D} {p : α → Bool} {e : α → D} : ∀ {xs : List α} {s : S}, (∀ x ∈ xs, ∃ δ1, tg (enc x) δ = some δ1 ∧ (∀ s, c δ1 s = .ok (p x) s) ∧ (p x = true → ∀ s, f δ1 s = .ok (e x) s)) → compL tg c f δ (xs.map enc) s = .ok ((xs.filter p).map e) s
  | [], s, _ => rfl
  | x :: xs, s, h => by
    obtain ⟨δ1, h1, h2, h3⟩ := h x (by simp)
    have ih := comp_pure (xs := xs) (s := s) (fun y hy => h y (by simp [hy]))
    rw [List.map_cons, compL, h1, lift_some, bind_ok, h2, bind_ok]
    cases hp : p x with
    | true => rw [if_pos rfl, h3 hp, bind_ok, ih, bind_ok, List.filter_cons, if_pos hp]; rfl
    | false => rw [if_neg (by simp), ih, List.filter_cons, if_neg (by simp [hp])]
theorem comp_map {α : Type} {tg f δ} {enc : α → D} {e : α → D} {xs : List α} {s : S} (h : ∀ x ∈ xs, ∃ δ1, tg (enc x) δ = some δ1 ∧ ∀ s, f δ1 s = .ok (e x) s) : compL tg cYes f δ (xs.map enc) s = .ok (xs.map e) s := by
  rw [comp_pure (p := fun _ => true) (e := e) fun x hx => by
    obtain ⟨δ1, h1, h2⟩ := h x hx
    exact ⟨δ1, h1, fun _ => rfl, fun _ => h2⟩]
  rw [List.filter_eq_self.mpr (fun _ _ => rfl)]
theorem for_inv {α : Type} {tg F} {enc : α → D} {xs : List α} (I : List α → En → S → Prop) {δ : En} {s : S} (h0 : I [] δ s)
    (hs : ∀ pre x post δ s, xs = pre ++ x :: post → I pre δ s → ∃ δ1 δ2 s2, tg (enc x) δ = some δ1 ∧ F δ1 s = .ok (.next δ2) s2 ∧ I (pre ++ [x]) δ2 s2) : ∃ δ' s', forL tg F (xs.map enc) δ s = .ok (.next δ') s' ∧ I xs δ' s' := by
  have key : ∀ (post pre : List α) (δ : En) (s : S), xs = pre ++ post → I pre δ s → ∃ δ' s', forL tg F (post.map enc) δ s = .ok (.next δ') s' ∧ I xs δ' s' := by
    intro post
    induction post with
    | nil => intro pre δ s e h; rw [List.append_nil] at e; subst e; exact ⟨δ, s, rfl, h⟩
    | cons x post ih =>
      intro pre δ s e h
      obtain ⟨δ1, δ2, s2, h1, h2, h3⟩ := hs pre x post δ s e h
      obtain ⟨δ', s', h4, h5⟩ := ih (pre ++ [x]) δ2 s2 (by rw [e]; simp) h3
      refine ⟨δ', s', ?_, h5⟩
      rw [List.map_cons, forL, h1, lift_some, bind_ok, h2, bind_ok]; exact h4
  exact key xs [] δ s rfl h0
end PV

namespace PV
open PySem L2
/-! ### numbers: divisors, fractions -/
theorem gcd_em (a b : Int) : Int.gcd b (a % b) = Int.gcd a b := by
  conv => rhs; rw [← Int.mul_ediv_add_emod a b]
  rw [Int.gcd_mul_left_add_left, Int.gcd_comm]
theorem egs_spec : ∀ (k : Nat) (a b : Int), 0 ≤ b → b < 2 ^ k → egs (2 * k) a b = some (Int.gcd a b)
  | 0, a, b, h0, h1 => by
    have : b = 0 := by omega
    subst this
    show (if (0 : Int) = 0 then some (if a < 0 then -a else a) else none) = _
    rw [if_pos rfl, Int.gcd_zero_right]; congr 1; split <;> omega
  | k + 1, a, b, h0, h1 => by
    show egs (2 * k + 1 + 1) a b = _
    by_cases hb : b = 0
    · subst hb
      show (if (0 : Int) = 0 then some (if a < 0 then -a else a) else _) = _
      rw [if_pos rfl, Int.gcd_zero_right]; congr 1; split <;> omega
    · have hb0 : 0 < b := by omega
      show (if b = 0 then _ else if 0 < b then egs (2 * k + 1) b (a % b) else none) = _
      rw [if_neg hb, if_pos hb0]
      have e1 : Int.gcd a b = Int.gcd b (a % b) := (gcd_em a b).symm
      have r0 := Int.emod_nonneg a hb
      have r1 := Int.emod_lt_of_pos a hb0
      rw [e1]
      generalize a % b = c at *
      by_cases hc : c = 0
      · subst hc
        show (if (0 : Int) = 0 then some (if b < 0 then -b else b) else _) = _
        rw [if_pos rfl, Int.gcd_zero_right]; congr 1; split <;> omega
      · have hc0 : 0 < c := by omega
        show (if c = 0 then _ else if 0 < c then egs (2 * k) c (b % c) else none) = _
        rw [if_neg hc, if_pos hc0]
        have q0 := Int.emod_nonneg b hc
        have q1 := Int.emod_lt_of_pos b hc0
        have q2 : b % c < 2 ^ k := by
          have e := Int.mul_ediv_add_emod b c
          have d1 : 1 ≤ b / c := by
            have := Int.ediv_le_ediv hc0 (show c ≤ b by omega)
            rw [Int.ediv_self (by omega)] at this; exact this
          have : c * 1 ≤ c * (b / c) := Int.mul_le_mul_of_nonneg_left d1 (by omega)
          rw [Int.pow_succ] at h1
          omega
        rw [egs_spec k c (b % c) q0 q2]
        rw [gcd_em]
def frD (q : Rat) : D := .tup [.int q.num, .int q.den]
theorem q_num {a b : Int} (hb : 0 < b) : (Rat.divInt a b).num = a / Int.gcd a b := by
  rw [Rat.num_divInt, Int.sign_eq_one_of_pos hb, Int.one_mul, Int.gcd_comm]
theorem q_den {a b : Int} (hb : 0 < b) : ((Rat.divInt a b).den : Int) = b / Int.gcd a b := by
  rw [Rat.den_divInt, if_neg (by omega), Int.gcd_comm]
  rw [Int.natCast_ediv]; congr 1; omega
theorem q_lt {a b c d : Int} (hb : 0 < b) (hd : 0 < d) : Rat.divInt a b < Rat.divInt c d ↔ a * d < c * b := by
  rw [Rat.divInt_eq_div, Rat.divInt_eq_div]
  have hb' : (0 : Rat) < (b : Rat) := by exact_mod_cast hb
  have hd' : (0 : Rat) < (d : Rat) := by exact_mod_cast hd
  rw [Rat.lt_div_iff hd']
  have : ((a * d : Int) : Rat) < ((c * b : Int) : Rat) ↔ a * d < c * b := Rat.intCast_lt_intCast
  rw [← this, Rat.intCast_mul, Rat.intCast_mul]
  have e : (a : Rat) / b * d * b = a * d := by grind
  constructor
  · intro h
    have := Rat.mul_lt_mul_of_pos_right h hb'
    rwa [e] at this
  · intro h
    refine Rat.not_le.mp fun z => ?_
    have := Rat.mul_le_mul_of_nonneg_right z (Rat.le_of_lt hb')
    rw [e] at this
    exact Rat.not_le.mpr h this
theorem q_eq {a b c d : Int} (hb : 0 < b) (hd : 0 < d) : Rat.divInt a b = Rat.divInt c d ↔ a * d = c * b := Rat.divInt_eq_divInt_iff (by omega) (by omega)
theorem q_le {a b c d : Int} (hb : 0 < b) (hd : 0 < d) : Rat.divInt a b ≤ Rat.divInt c d ↔ a * d ≤ c * b := by
  rw [← Rat.not_lt, q_lt hd hb]; omega
theorem q_self (q : Rat) : Rat.divInt q.num q.den = q := Rat.num_divInt_den q
/-! ### == -/
mutual
/-- data of ints, None, tuples and lists, at most n deep -/
def Sm : Nat → D → Prop
  | _, .non => True
  | _, .int _ => True
  | n + 1, .tup ds => Sms n ds
  | n + 1, .lst ds => Sms n ds
  | _, _ => False
def Sms : Nat → List D → Prop
  | _, [] => True
  | n, d :: ds => Sm n d ∧ Sms n ds
end
theorem Sms_iff {n : Nat} : ∀ {ds : List D}, Sms n ds ↔ ∀ d ∈ ds, Sm n d
  | [] => by simp [Sms]
  | d :: ds => by simp [Sms, Sms_iff (ds := ds)]
mutual
theorem Sm.py : ∀ {n : Nat} {d : D}, Sm n d → ∃ p, toPy d = some p ∧ p.canLay0 = true ∧ p.depth ≤ n
  | _, .non, _ => ⟨.none, rfl, by simp [PyData.canLay0], by simp [PyData.depth]⟩
  | _, .int i, _ => ⟨.int i, rfl, by simp [PyData.canLay0], by simp [PyData.depth]⟩
  | n + 1, .tup ds, h => by
    obtain ⟨ps, h1, h2, h3⟩ := Sms.py (n := n) (ds := ds) (by simpa [Sm] using h)
    exact ⟨.tuple ps, by simp [toPy, h1], by simpa [PyData.canLay0] using h2, by simp [PyData.depth]; omega⟩
  | n + 1, .lst ds, h => by
    obtain ⟨ps, h1, h2, h3⟩ := Sms.py (n := n) (ds := ds) (by simpa [Sm] using h)
    exact ⟨.list ps, by simp [toPy, h1], by simpa [PyData.canLay0] using h2, by simp [PyData.depth]; omega⟩
  | 0, .tup _, h | 0, .lst _, h => by simp [Sm] at h
  | _, .bl _, h | _, .str _, h | _, .dic _ _, h | _, .sal _ _, h | _, .row, h => by simp [Sm] at h
theorem Sms.py : ∀ {n : Nat} {ds : List D}, Sms n ds → ∃ ps, toPys ds = some ps ∧ PyData.canLayAll0 ps = true ∧ PyData.depthAll ps ≤ n
  | _, [], _ => ⟨[], rfl, by simp [PyData.canLayAll0], by simp [PyData.depthAll]⟩
  | n, d :: ds, h => by
    have h' : Sm n d ∧ Sms n ds := by simpa [Sms] using h
    obtain ⟨p, a1, a2, a3⟩ := Sm.py h'.1
    obtain ⟨ps, b1, b2, b3⟩ := Sms.py h'.2
    exact ⟨p :: ps, by simp [toPys, a1, b1], by simp [PyData.canLayAll0, a2, b2], by simp [PyData.depthAll]; omega⟩
end
mutual
theorem eqv_iff : ∀ {n m : Nat} {d e : D} {p q : PyData}, Sm n d → Sm m e → toPy d = some p → toPy e = some q → (PyData.eqv p q = true ↔ d = e)
  | n, m, .non, e, p, q, h1, h2, e1, e2 => by
    cases e with
    | non => cases e1; cases e2; simp [PyData.eqv]
    | int j => cases e1; cases e2; simp [PyData.eqv]
    | tup es => cases e1; simp [toPy] at e2; obtain ⟨ps, _, rfl⟩ := e2; simp [PyData.eqv]
    | lst es => cases e1; simp [toPy] at e2; obtain ⟨ps, _, rfl⟩ := e2; simp [PyData.eqv]
    | _ => simp [Sm] at h2
  | n, m, .int i, e, p, q, h1, h2, e1, e2 => by
    cases e with
    | non => cases e1; cases e2; simp [PyData.eqv]
    | int j => cases e1; cases e2; simp [PyData.eqv]
    | tup es => cases e1; simp [toPy] at e2; obtain ⟨ps, _, rfl⟩ := e2; simp [PyData.eqv]
    | lst es => cases e1; simp [toPy] at e2; obtain ⟨ps, _, rfl⟩ := e2; simp [PyData.eqv]
    | _ => simp [Sm] at h2
  | n, m, .tup ds, e, p, q, h1, h2, e1, e2 => by
    simp [toPy] at e1
    obtain ⟨ps, p1, rfl⟩ := e1
    cases e with
    | non => cases e2; simp [PyData.eqv]
    | int j => cases e2; simp [PyData.eqv]
    | tup es =>
      simp [toPy] at e2; obtain ⟨qs, q1, rfl⟩ := e2
      cases n with
      | zero => simp [Sm] at h1
      | succ n =>
        cases m with
        | zero => simp [Sm] at h2
        | succ m =>
          rw [show PyData.eqv (.tuple ps) (.tuple qs) = PyData.eqvAll ps qs by simp [PyData.eqv]]
          rw [eqvs_iff (n := n) (m := m) (by simpa [Sm] using h1) (by simpa [Sm] using h2) p1 q1]
          simp
    | lst es => simp [toPy] at e2; obtain ⟨qs, _, rfl⟩ := e2; simp [PyData.eqv]
    | _ => simp [Sm] at h2
  | n, m, .lst ds, e, p, q, h1, h2, e1, e2 => by
    simp [toPy] at e1
    obtain ⟨ps, p1, rfl⟩ := e1
    cases e with
    | non => cases e2; simp [PyData.eqv]
    | int j => cases e2; simp [PyData.eqv]
    | lst es =>
      simp [toPy] at e2; obtain ⟨qs, q1, rfl⟩ := e2
      cases n with
      | zero => simp [Sm] at h1
      | succ n =>
        cases m with
        | zero => simp [Sm] at h2
        | succ m =>
          rw [show PyData.eqv (.list ps) (.list qs) = PyData.eqvAll ps qs by simp [PyData.eqv]]
          rw [eqvs_iff (n := n) (m := m) (by simpa [Sm] using h1) (by simpa [Sm] using h2) p1 q1]
          simp
    | tup es => simp [toPy] at e2; obtain ⟨qs, _, rfl⟩ := e2; simp [PyData.eqv]
    | _ => simp [Sm] at h2
  | _, _, .bl _, _, _, _, h, _, _, _ | _, _, .str _, _, _, _, h, _, _, _ | _, _, .dic _ _, _, _, _, h, _, _, _ | _, _, .sal _ _, _, _, _, h, _, _, _ | _, _, .row, _, _, _, h, _, _, _ => by simp [Sm] at h
theorem eqvs_iff : ∀ {n m : Nat} {ds es : List D} {ps qs : List PyData}, Sms n ds → Sms m es → toPys ds = some ps → toPys es = some qs → (PyData.eqvAll ps qs = true ↔ ds = es)
  | n, m, [], [], ps, qs, _, _, e1, e2 => by cases e1; cases e2; simp [PyData.eqvAll]
  | n, m, [], e :: es, ps, qs, _, h2, e1, e2 => by
    cases e1
    cases qs with
    | nil => simp [toPys] at e2; split at e2 <;> simp at e2
    | cons a b => simp [PyData.eqvAll]
  | n, m, d :: ds, [], ps, qs, h1, _, e1, e2 => by
    cases e2
    cases ps with
    | nil => simp [toPys] at e1; split at e1 <;> simp at e1
    | cons a b => simp [PyData.eqvAll]
  | n, m, d :: ds, e :: es, ps, qs, h1, h2, e1, e2 => by
    have h1' : Sm n d ∧ Sms n ds := by simpa [Sms] using h1
    have h2' : Sm m e ∧ Sms m es := by simpa [Sms] using h2
    obtain ⟨p, a1, _⟩ := Sm.py h1'.1
    obtain ⟨ps', a2, _⟩ := Sms.py h1'.2
    obtain ⟨q, b1, _⟩ := Sm.py h2'.1
    obtain ⟨qs', b2, _⟩ := Sms.py h2'.2
    simp [toPys, a1, a2] at e1
    simp [toPys, b1, b2] at e2
    subst e1 e2
    simp only [PyData.eqvAll, Bool.and_eq_true]
    rw [eqv_iff h1'.1 h2'.1 a1 b1, eqvs_iff h1'.2 h2'.2 a2 b2]
    simp
end
open Classical in
theorem eq_sm {d e : D} (h1 : Sm 60 d) (h2 : Sm 60 e) : eqD d e = some (decide (d = e)) := by
  obtain ⟨p, a1, a2, a3⟩ := h1.py
  obtain ⟨q, b1, b2, b3⟩ := h2.py
  have s1 : SeqAt.shaped p = true := by unfold SeqAt.shaped; rw [a2]; simp; omega
  have s2 : SeqAt.shaped q = true := by unfold SeqAt.shaped; rw [b2]; simp; omega
  have e1 : pyOk d = some p := by unfold pyOk; rw [a1]; simp [s1]
  have e2 : pyOk e = some q := by unfold pyOk; rw [b1]; simp [s2]
  unfold eqD
  rw [e1, e2]
  have := eqv_iff h1 h2 a1 b1
  simp only [Option.some.injEq]
  by_cases z : d = e
  · rw [this.mpr z]; simp [z]
  · have : PyData.eqv p q ≠ true := fun w => z (this.mp w)
    simp [z, this]
open Classical in
theorem gEq_sm {d e : D} (h1 : Sm 60 d) (h2 : Sm 60 e) : gEq d e = some (.bl (decide (d = e))) := by unfold gEq; rw [eq_sm h1 h2]; rfl
open Classical in
theorem gNe_sm {d e : D} (h1 : Sm 60 d) (h2 : Sm 60 e) : gNe d e = some (.bl (!decide (d = e))) := by unfold gNe; rw [eq_sm h1 h2]; rfl
@[simp] theorem g_eqI (i j : Int) : gEq (.int i) (.int j) = some (.bl (decide (i = j))) := by
  rw [gEq_sm (by simp [Sm]) (by simp [Sm])]; simp
@[simp] theorem g_neI (i j : Int) : gNe (.int i) (.int j) = some (.bl (!decide (i = j))) := by
  rw [gNe_sm (by simp [Sm]) (by simp [Sm])]; simp
theorem map_int_inj {xs ys : List Int} (h : xs.map D.int = ys.map D.int) : xs = ys := by
  induction xs generalizing ys with
  | nil => cases ys with | nil => rfl | cons => cases h
  | cons x xs ih => cases ys with
    | nil => cases h
    | cons y ys => simp at h; obtain ⟨h1, h2⟩ := h; rw [h1, ih (by simpa using h2)]
theorem sms_ints (n : Nat) (xs : List Int) : Sms n (xs.map D.int) := Sms_iff.mpr fun d hd => by
  obtain ⟨i, _, rfl⟩ := List.mem_map.mp hd
  simp [Sm]
theorem g_neIs (xs ys : List Int) : gNe (.lst (xs.map D.int)) (.lst (ys.map D.int)) = some (.bl (!decide (xs = ys))) := by
  rw [gNe_sm (by simpa [Sm] using sms_ints 59 xs) (by simpa [Sm] using sms_ints 59 ys)]
  congr 2
  by_cases h : xs = ys
  · simp [h]
  · have : ¬ xs.map D.int = ys.map D.int := fun z => h (map_int_inj z)
    simp [h, this]
theorem egs_more {a b : Int} {g : Int} : ∀ {k L : Nat}, k ≤ L → egs k a b = some g → egs L a b = some g := by
  intro k
  induction k generalizing a b with
  | zero =>
    intro L _ h
    unfold egs at h
    split at h
    · rename_i hb
      cases L with
      | zero => unfold egs; rw [if_pos hb]; exact h
      | succ L => unfold egs; rw [if_pos hb]; exact h
    · cases h
  | succ k ih =>
    intro L hL h
    obtain ⟨L, rfl⟩ : ∃ m, L = m + 1 := ⟨L - 1, by omega⟩
    unfold egs at h ⊢
    split at h
    · rename_i hb; rw [if_pos hb]; exact h
    · rename_i hb
      rw [if_neg hb]
      split at h
      · rename_i hb1; rw [if_pos hb1]; exact ih (by omega) h
      · cases h
theorem law_gcd_is {L k : Nat} {a b : Int} (s : S) (h0 : 0 ≤ b) (h1 : b < 2 ^ k) (hL : 2 * k ≤ L) : gcdF L [.int a, .int b] s = .ok (.int (Int.gcd a b)) s := by
  show lift ((egs L a b).map D.int) s = _
  rw [egs_more hL (egs_spec k a b h0 h1)]; rfl
@[simp] theorem g_allM {α : Type} (xs : List α) (e : α → Bool) : gAll [.lst (xs.map fun x => .bl (e x))] = some (.bl (xs.all e)) := by
  have : (xs.map fun x => D.bl (e x)) = (xs.map e).map D.bl := by rw [List.map_map]; rfl
  rw [this, g_all]; simp
@[simp] theorem g_anyM {α : Type} (xs : List α) (e : α → Bool) : gAny [.lst (xs.map fun x => .bl (e x))] = some (.bl (xs.any e)) := by
  have : (xs.map fun x => D.bl (e x)) = (xs.map e).map D.bl := by rw [List.map_map]; rfl
  rw [this, g_any]; simp
@[simp] theorem g_sumM {α : Type} (xs : List α) (e : α → Int) : gSum [.lst (xs.map fun x => .int (e x))] = some (.int (xs.map e).sum) := by
  have : (xs.map fun x => D.int (e x)) = (xs.map e).map D.int := by rw [List.map_map]; rfl
  rw [this, g_sum]
theorem upto_map (lo : Int) (n : Nat) : upto lo n = (List.range n).map fun (i : Nat) => D.int (lo + (i : Int)) := rfl
theorem upto0 (n : Nat) : upto 0 n = (List.range n).map fun (i : Nat) => D.int (i : Int) := by rw [upto_map]; congr 1; funext i; simp
theorem g_r1 (n : Nat) (h : n ≤ 100000) : gR1 [.int (n : Int)] = some (upto 0 n) := by
  simp only [gR1]
  rw [if_pos ⟨by omega, by omega⟩, Int.toNat_natCast]
theorem g_r2 (a b : Int) (h : -100000 ≤ a ∧ a ≤ 100000 ∧ -100000 ≤ b ∧ b ≤ 100000) : gR2 [.int a, .int b] = some (upto a (b - a).toNat) := by
  simp only [gR2]
  rw [if_pos ⟨by omega, by omega, by omega, by omega⟩]
end PV

namespace LW
open PySem L2 PV
def topS (i : Nat) : Stmt := PySem.Challenge.pw_floorprices_k27_whole_spans.main.body.getD i (.Pass ⟨0, 0, 0, 0⟩)
abbrev s__law_taken : Stmt := topS 26
abbrev N__law_taken : List Str := ["_law_row", "_law_many", "_law_found", "_law_cell"]
abbrev P__law_taken : List Str := ["_law_row", "_law_many"]
theorem sc__law_taken : FnScope N__law_taken P__law_taken (defScope s__law_taken) := ⟨rfl, rfl, rfl, by decide +kernel, rfl, by decide +kernel, by decide +kernel⟩
abbrev s__law_spans : Stmt := topS 30
abbrev N__law_spans : List Str := ["_law_row", "_law_most", "_law_worth", "_law_found", "_law_turn", "_law_low"]
abbrev P__law_spans : List Str := ["_law_row", "_law_most"]
theorem sc__law_spans : FnScope N__law_spans P__law_spans (defScope s__law_spans) := ⟨rfl, rfl, rfl, by decide +kernel, rfl, by decide +kernel, by decide +kernel⟩
abbrev s_is_from : Stmt := topS 11
abbrev N_is_from : List Str := ["value", "low", "high"]
abbrev P_is_from : List Str := ["value", "low", "high"]
theorem sc_is_from : FnScope N_is_from P_is_from (defScope s_is_from) := ⟨rfl, rfl, rfl, by decide +kernel, rfl, by decide +kernel, by decide +kernel⟩
abbrev s_is_span : Stmt := topS 15
abbrev N_is_span : List Str := ["value"]
abbrev P_is_span : List Str := ["value"]
theorem sc_is_span : FnScope N_is_span P_is_span (defScope s_is_span) := ⟨rfl, rfl, rfl, by decide +kernel, rfl, by decide +kernel, by decide +kernel⟩
abbrev s_need_spans : Stmt := topS 16
abbrev N_need_spans : List Str := ["spans", "one", "at"]
abbrev P_need_spans : List Str := ["spans"]
theorem sc_need_spans : FnScope N_need_spans P_need_spans (defScope s_need_spans) := ⟨rfl, rfl, rfl, by decide +kernel, rfl, by decide +kernel, by decide +kernel⟩
abbrev s_common : Stmt := topS 5
abbrev N_common : List Str := ["one", "other", "great", "less"]
abbrev P_common : List Str := ["one", "other"]
theorem sc_common : FnScope N_common P_common (defScope s_common) := ⟨rfl, rfl, rfl, by decide +kernel, rfl, by decide +kernel, by decide +kernel⟩
abbrev s_made : Stmt := topS 6
abbrev N_made : List Str := ["over", "under", "by"]
abbrev P_made : List Str := ["over", "under"]
theorem sc_made : FnScope N_made P_made (defScope s_made) := ⟨rfl, rfl, rfl, by decide +kernel, rfl, by decide +kernel, by decide +kernel⟩
abbrev s_taken_of : Stmt := topS 20
abbrev N_taken_of : List Str := ["buyer", "price", "buying", "worth", "weight"]
abbrev P_taken_of : List Str := ["buyer", "price"]
theorem sc_taken_of : FnScope N_taken_of P_taken_of (defScope s_taken_of) := ⟨rfl, rfl, rfl, by decide +kernel, rfl, by decide +kernel, by decide +kernel⟩
abbrev s_is_less : Stmt := topS 7
abbrev N_is_less : List Str := ["one", "other"]
abbrev P_is_less : List Str := ["one", "other"]
theorem sc_is_less : FnScope N_is_less P_is_less (defScope s_is_less) := ⟨rfl, rfl, rfl, by decide +kernel, rfl, by decide +kernel, by decide +kernel⟩
abbrev s_worst_of : Stmt := topS 18
abbrev N_worst_of : List Str := ["spans", "price", "worth", "low", "high"]
abbrev P_worst_of : List Str := ["spans", "price"]
theorem sc_worst_of : FnScope N_worst_of P_worst_of (defScope s_worst_of) := ⟨rfl, rfl, rfl, by decide +kernel, rfl, by decide +kernel, by decide +kernel⟩
abbrev s_sure_price : Stmt := topS 22
abbrev N_sure_price : List Str := ["spans", "found", "price", "low", "high", "told"]
abbrev P_sure_price : List Str := ["spans"]
theorem sc_sure_price : FnScope N_sure_price P_sure_price (defScope s_sure_price) := ⟨rfl, rfl, rfl, by decide +kernel, rfl, by decide +kernel, by decide +kernel⟩
abbrev s__law_corners : Stmt := topS 31
abbrev N__law_corners : List Str := ["_law_spans_here", "_law_found", "_law_worth", "_law_low", "_law_high", "_law_some"]
abbrev P__law_corners : List Str := ["_law_spans_here"]
theorem sc__law_corners : FnScope N__law_corners P__law_corners (defScope s__law_corners) := ⟨rfl, rfl, rfl, by decide +kernel, rfl, by decide +kernel, by decide +kernel⟩
abbrev s__law_less : Stmt := topS 29
abbrev N__law_less : List Str := ["_law_one", "_law_other"]
abbrev P__law_less : List Str := ["_law_one", "_law_other"]
theorem sc__law_less : FnScope N__law_less P__law_less (defScope s__law_less) := ⟨rfl, rfl, rfl, by decide +kernel, rfl, by decide +kernel, by decide +kernel⟩
abbrev s__law_ends : Stmt := topS 33
abbrev N__law_ends : List Str := ["_law_pairs", "_law_least", "_law_most", "_law_one"]
abbrev P__law_ends : List Str := ["_law_pairs"]
theorem sc__law_ends : FnScope N__law_ends P__law_ends (defScope s__law_ends) := ⟨rfl, rfl, rfl, by decide +kernel, rfl, by decide +kernel, by decide +kernel⟩
abbrev s_is_price : Stmt := topS 13
abbrev N_is_price : List Str := ["value"]
abbrev P_is_price : List Str := ["value"]
theorem sc_is_price : FnScope N_is_price P_is_price (defScope s_is_price) := ⟨rfl, rfl, rfl, by decide +kernel, rfl, by decide +kernel, by decide +kernel⟩
abbrev s_need_both : Stmt := topS 17
abbrev N_need_both : List Str := ["spans", "price"]
abbrev P_need_both : List Str := ["spans", "price"]
theorem sc_need_both : FnScope N_need_both P_need_both (defScope s_need_both) := ⟨rfl, rfl, rfl, by decide +kernel, rfl, by decide +kernel, by decide +kernel⟩
abbrev s_luckiest_of : Stmt := topS 19
abbrev N_luckiest_of : List Str := ["spans", "price", "worth", "low", "high"]
abbrev P_luckiest_of : List Str := ["spans", "price"]
theorem sc_luckiest_of : FnScope N_luckiest_of P_luckiest_of (defScope s_luckiest_of) := ⟨rfl, rfl, rfl, by decide +kernel, rfl, by decide +kernel, by decide +kernel⟩
abbrev s_sure_takings : Stmt := topS 21
abbrev N_sure_takings : List Str := ["spans", "price"]
abbrev P_sure_takings : List Str := ["spans", "price"]
theorem sc_sure_takings : FnScope N_sure_takings P_sure_takings (defScope s_sure_takings) := ⟨rfl, rfl, rfl, by decide +kernel, rfl, by decide +kernel, by decide +kernel⟩
abbrev s__law_gcd : Stmt := topS 27
abbrev N__law_gcd : List Str := ["_law_one", "_law_other"]
abbrev P__law_gcd : List Str := ["_law_one", "_law_other"]
theorem sc__law_gcd : FnScope N__law_gcd P__law_gcd (defScope s__law_gcd) := ⟨rfl, rfl, rfl, by decide +kernel, rfl, by decide +kernel, by decide +kernel⟩
abbrev s__law_is : Stmt := topS 28
abbrev N__law_is : List Str := ["_law_told", "_law_over", "_law_under"]
abbrev P__law_is : List Str := ["_law_told", "_law_over", "_law_under"]
theorem sc__law_is : FnScope N__law_is P__law_is (defScope s__law_is) := ⟨rfl, rfl, rfl, by decide +kernel, rfl, by decide +kernel, by decide +kernel⟩
abbrev s_least_ahead : Stmt := topS 23
abbrev N_least_ahead : List Str := ["spans", "price", "other", "total", "worth", "low", "high", "ahead"]
abbrev P_least_ahead : List Str := ["spans", "price", "other"]
theorem sc_least_ahead : FnScope N_least_ahead P_least_ahead (defScope s_least_ahead) := ⟨rfl, rfl, rfl, by decide +kernel, rfl, by decide +kernel, by decide +kernel⟩
abbrev s_always_best : Stmt := topS 24
abbrev N_always_best : List Str := ["spans", "worths", "worth", "low", "high", "price", "other"]
abbrev P_always_best : List Str := ["spans"]
theorem sc_always_best : FnScope N_always_best P_always_best (defScope s_always_best) := ⟨rfl, rfl, rfl, by decide +kernel, rfl, by decide +kernel, by decide +kernel⟩
abbrev s__law_taken_of : Stmt := topS 32
abbrev N__law_taken_of : List Str := ["_law_buyer", "_law_price", "_law_some", "_law_worth", "_law_weight"]
abbrev P__law_taken_of : List Str := ["_law_buyer", "_law_price"]
theorem sc__law_taken_of : FnScope N__law_taken_of P__law_taken_of (defScope s__law_taken_of) := ⟨rfl, rfl, rfl, by decide +kernel, rfl, by decide +kernel, by decide +kernel⟩
abbrev s__law_same : Stmt := topS 34
abbrev N__law_same : List Str := ["_law_pair", "_law_price", "_law_every", "_law_least", "_law_buyer"]
abbrev P__law_same : List Str := ["_law_pair", "_law_price", "_law_every"]
theorem sc__law_same : FnScope N__law_same P__law_same (defScope s__law_same) := ⟨rfl, rfl, rfl, by decide +kernel, rfl, by decide +kernel, by decide +kernel⟩
abbrev s_law : Stmt := topS 35
abbrev N_law : List Str := ["_law_script", "_law_row", "_law_turn", "_law_spans_here", "_law_every", "_law_worths", "_law_worth", "_law_low", "_law_high", "_law_prices", "_law_best_pair", "_law_price", "_law_least", "_law_most", "_law_buyer", "_law_told", "_law_due", "_law_good", "_law_here", "_law_other"]
abbrev P_law : List Str := ["_law_script"]
theorem sc_law : FnScope N_law P_law (defScope s_law) := ⟨rfl, rfl, rfl, by decide +kernel, rfl, by decide +kernel, by decide +kernel⟩
structure Tx (B : Bs) (mg : Str → Option Value) where
  f__law_taken : Addr
  d__law_taken : FuncData
  F__law_taken : Fun B.K "_law_taken" "_law_taken" s__law_taken f__law_taken d__law_taken
  m__law_taken : mg "_law_taken" = some (.ref f__law_taken)
  k__law_taken : PySem.W.keepIn B.K (.ref f__law_taken) = true
  b__law_taken : Binds B.K d__law_taken P__law_taken []
  f__law_spans : Addr
  d__law_spans : FuncData
  F__law_spans : Fun B.K "_law_spans" "_law_spans" s__law_spans f__law_spans d__law_spans
  m__law_spans : mg "_law_spans" = some (.ref f__law_spans)
  k__law_spans : PySem.W.keepIn B.K (.ref f__law_spans) = true
  b__law_spans : Binds B.K d__law_spans P__law_spans []
  f_is_from : Addr
  d_is_from : FuncData
  F_is_from : Fun B.K "is_from" "is_from" s_is_from f_is_from d_is_from
  m_is_from : mg "is_from" = some (.ref f_is_from)
  k_is_from : PySem.W.keepIn B.K (.ref f_is_from) = true
  b_is_from : Binds B.K d_is_from P_is_from []
  f_is_span : Addr
  d_is_span : FuncData
  F_is_span : Fun B.K "is_span" "is_span" s_is_span f_is_span d_is_span
  m_is_span : mg "is_span" = some (.ref f_is_span)
  k_is_span : PySem.W.keepIn B.K (.ref f_is_span) = true
  b_is_span : Binds B.K d_is_span P_is_span []
  f_need_spans : Addr
  d_need_spans : FuncData
  F_need_spans : Fun B.K "need_spans" "need_spans" s_need_spans f_need_spans d_need_spans
  m_need_spans : mg "need_spans" = some (.ref f_need_spans)
  k_need_spans : PySem.W.keepIn B.K (.ref f_need_spans) = true
  b_need_spans : Binds B.K d_need_spans P_need_spans []
  f_common : Addr
  d_common : FuncData
  F_common : Fun B.K "common" "common" s_common f_common d_common
  m_common : mg "common" = some (.ref f_common)
  k_common : PySem.W.keepIn B.K (.ref f_common) = true
  b_common : Binds B.K d_common P_common []
  f_made : Addr
  d_made : FuncData
  F_made : Fun B.K "made" "made" s_made f_made d_made
  m_made : mg "made" = some (.ref f_made)
  k_made : PySem.W.keepIn B.K (.ref f_made) = true
  b_made : Binds B.K d_made P_made []
  f_taken_of : Addr
  d_taken_of : FuncData
  F_taken_of : Fun B.K "taken_of" "taken_of" s_taken_of f_taken_of d_taken_of
  m_taken_of : mg "taken_of" = some (.ref f_taken_of)
  k_taken_of : PySem.W.keepIn B.K (.ref f_taken_of) = true
  b_taken_of : Binds B.K d_taken_of P_taken_of []
  f_is_less : Addr
  d_is_less : FuncData
  F_is_less : Fun B.K "is_less" "is_less" s_is_less f_is_less d_is_less
  m_is_less : mg "is_less" = some (.ref f_is_less)
  k_is_less : PySem.W.keepIn B.K (.ref f_is_less) = true
  b_is_less : Binds B.K d_is_less P_is_less []
  f_worst_of : Addr
  d_worst_of : FuncData
  F_worst_of : Fun B.K "worst_of" "worst_of" s_worst_of f_worst_of d_worst_of
  m_worst_of : mg "worst_of" = some (.ref f_worst_of)
  k_worst_of : PySem.W.keepIn B.K (.ref f_worst_of) = true
  b_worst_of : Binds B.K d_worst_of P_worst_of []
  f_sure_price : Addr
  d_sure_price : FuncData
  F_sure_price : Fun B.K "sure_price" "sure_price" s_sure_price f_sure_price d_sure_price
  m_sure_price : mg "sure_price" = some (.ref f_sure_price)
  k_sure_price : PySem.W.keepIn B.K (.ref f_sure_price) = true
  b_sure_price : Binds B.K d_sure_price P_sure_price []
  f__law_corners : Addr
  d__law_corners : FuncData
  F__law_corners : Fun B.K "_law_corners" "_law_corners" s__law_corners f__law_corners d__law_corners
  m__law_corners : mg "_law_corners" = some (.ref f__law_corners)
  k__law_corners : PySem.W.keepIn B.K (.ref f__law_corners) = true
  b__law_corners : Binds B.K d__law_corners P__law_corners []
  f__law_less : Addr
  d__law_less : FuncData
  F__law_less : Fun B.K "_law_less" "_law_less" s__law_less f__law_less d__law_less
  m__law_less : mg "_law_less" = some (.ref f__law_less)
  k__law_less : PySem.W.keepIn B.K (.ref f__law_less) = true
  b__law_less : Binds B.K d__law_less P__law_less []
  f__law_ends : Addr
  d__law_ends : FuncData
  F__law_ends : Fun B.K "_law_ends" "_law_ends" s__law_ends f__law_ends d__law_ends
  m__law_ends : mg "_law_ends" = some (.ref f__law_ends)
  k__law_ends : PySem.W.keepIn B.K (.ref f__law_ends) = true
  b__law_ends : Binds B.K d__law_ends P__law_ends []
  f_is_price : Addr
  d_is_price : FuncData
  F_is_price : Fun B.K "is_price" "is_price" s_is_price f_is_price d_is_price
  m_is_price : mg "is_price" = some (.ref f_is_price)
  k_is_price : PySem.W.keepIn B.K (.ref f_is_price) = true
  b_is_price : Binds B.K d_is_price P_is_price []
  f_need_both : Addr
  d_need_both : FuncData
  F_need_both : Fun B.K "need_both" "need_both" s_need_both f_need_both d_need_both
  m_need_both : mg "need_both" = some (.ref f_need_both)
  k_need_both : PySem.W.keepIn B.K (.ref f_need_both) = true
  b_need_both : Binds B.K d_need_both P_need_both []
  f_luckiest_of : Addr
  d_luckiest_of : FuncData
  F_luckiest_of : Fun B.K "luckiest_of" "luckiest_of" s_luckiest_of f_luckiest_of d_luckiest_of
  m_luckiest_of : mg "luckiest_of" = some (.ref f_luckiest_of)
  k_luckiest_of : PySem.W.keepIn B.K (.ref f_luckiest_of) = true
  b_luckiest_of : Binds B.K d_luckiest_of P_luckiest_of []
  f_sure_takings : Addr
  d_sure_takings : FuncData
  F_sure_takings : Fun B.K "sure_takings" "sure_takings" s_sure_takings f_sure_takings d_sure_takings
  m_sure_takings : mg "sure_takings" = some (.ref f_sure_takings)
  k_sure_takings : PySem.W.keepIn B.K (.ref f_sure_takings) = true
  b_sure_takings : Binds B.K d_sure_takings P_sure_takings []
  f__law_gcd : Addr
  d__law_gcd : FuncData
  F__law_gcd : Fun B.K "_law_gcd" "_law_gcd" s__law_gcd f__law_gcd d__law_gcd
  m__law_gcd : mg "_law_gcd" = some (.ref f__law_gcd)
  k__law_gcd : PySem.W.keepIn B.K (.ref f__law_gcd) = true
  b__law_gcd : Binds B.K d__law_gcd P__law_gcd []
  f__law_is : Addr
  d__law_is : FuncData
  F__law_is : Fun B.K "_law_is" "_law_is" s__law_is f__law_is d__law_is
  m__law_is : mg "_law_is" = some (.ref f__law_is)
  k__law_is : PySem.W.keepIn B.K (.ref f__law_is) = true
  b__law_is : Binds B.K d__law_is P__law_is []
  f_least_ahead : Addr
  d_least_ahead : FuncData
  F_least_ahead : Fun B.K "least_ahead" "least_ahead" s_least_ahead f_least_ahead d_least_ahead
  m_least_ahead : mg "least_ahead" = some (.ref f_least_ahead)
  k_least_ahead : PySem.W.keepIn B.K (.ref f_least_ahead) = true
  b_least_ahead : Binds B.K d_least_ahead P_least_ahead []
  f_always_best : Addr
  d_always_best : FuncData
  F_always_best : Fun B.K "always_best" "always_best" s_always_best f_always_best d_always_best
  m_always_best : mg "always_best" = some (.ref f_always_best)
  k_always_best : PySem.W.keepIn B.K (.ref f_always_best) = true
  b_always_best : Binds B.K d_always_best P_always_best []
  f__law_taken_of : Addr
  d__law_taken_of : FuncData
  F__law_taken_of : Fun B.K "_law_taken_of" "_law_taken_of" s__law_taken_of f__law_taken_of d__law_taken_of
  m__law_taken_of : mg "_law_taken_of" = some (.ref f__law_taken_of)
  k__law_taken_of : PySem.W.keepIn B.K (.ref f__law_taken_of) = true
  b__law_taken_of : Binds B.K d__law_taken_of P__law_taken_of []
  f__law_same : Addr
  d__law_same : FuncData
  F__law_same : Fun B.K "_law_same" "_law_same" s__law_same f__law_same d__law_same
  m__law_same : mg "_law_same" = some (.ref f__law_same)
  k__law_same : PySem.W.keepIn B.K (.ref f__law_same) = true
  b__law_same : Binds B.K d__law_same P__law_same []
  f_law : Addr
  d_law : FuncData
  F_law : Fun B.K "law" "law" s_law f_law d_law
  m_law : mg "law" = some (.ref f_law)
  k_law : PySem.W.keepIn B.K (.ref f_law) = true
  b_law : Binds B.K d_law P_law []
  n_abs : mg "abs" = none
  n_all : mg "all" = none
  n_any : mg "any" = none
  n_bool : mg "bool" = none
  n_int : mg "int" = none
  n_isinstance : mg "isinstance" = none
  n_len : mg "len" = none
  n_min : mg "min" = none
  n_range : mg "range" = none
  n_sum : mg "sum" = none
  n_tuple : mg "tuple" = none
  t_MOST : Tok
  m_MOST : mg "MOST" = some (.int 1000000000 t_MOST)
  t_MOST_WORTHS : Tok
  m_MOST_WORTHS : mg "MOST_WORTHS" = some (.int 5 t_MOST_WORTHS)
/-! the plain functions -/
abbrev f__law_taken : List D → M D := drawF
def l1__law_spans : En → M Fl := (cSeq (cSet 5 (cOp gAdd (cC (.int 1)) (cCall 2 f__law_taken (cCons (cVar 0) (cCons (cVar 1) cNil)))))
    (cSeq (cApp 3 (cTup (cCons (cVar 2) (cCons (cVar 5) (cCons (cB gMin2 (cCons (cOp gPow (cC (.int 10)) (cC (.int 9))) (cCons (cOp gAdd (cVar 5) (cCall 2 f__law_taken (cCons (cVar 0) (cCons (cVar 1) cNil)))) cNil))) cNil)))))
    (cSet 2 (cOp gAdd (cOp gAdd (cVar 2) (cC (.int 1))) (cCall 2 f__law_taken (cCons (cVar 0) (cCons (cOp gIx (cLst (cCons (cC (.int 1)) (cCons (cC (.int 3)) (cCons (cC (.int 9)) (cCons (cOp gPow (cC (.int 10)) (cC (.int 6))) cNil))))) (cCall 2 f__law_taken (cCons (cVar 0) (cCons (cC (.int 4)) cNil)))) cNil)))))))
def b__law_spans : En → M Fl := (cSeq (cPar (pCons [3] 2 (cV (cCall 2 f__law_taken (cCons (cVar 0) (cCons (cC (.int 4)) cNil)))) (pCons [3] 3 (cN (cLstL cNil)) pNil)))
    (cSeq (cFor (cItA gR1 (cCons (cOp gAdd (cC (.int 1)) (cCall 2 f__law_taken (cCons (cVar 0) (cCons (cC (.int 5)) cNil)))) cNil)) (tgName 4) l1__law_spans)
    (cRet (cB gTuple (cCons (cVar 3) cNil)))))
def f__law_spans : List D → M D := runD 2 6 b__law_spans
theorem u__law_spans (x0 x1 : D) (s : S) : f__law_spans [x0, x1] s = (b__law_spans [some x0, some x1, none, none, none, none] s).bind endD := rfl
def b_is_from : En → M Fl := (cRet (cAndV (cIsi "int" (cVar 0)) (cAndV (cNotV (cIsi "bool" (cVar 0))) (cChain gLe gLe (cVar 1) (cVar 0) (cVar 2)))))
def f_is_from : List D → M D := runD 3 3 b_is_from
theorem u_is_from (x0 x1 x2 : D) (s : S) : f_is_from [x0, x1, x2] s = (b_is_from [some x0, some x1, some x2] s).bind endD := rfl
def b_is_span : En → M Fl := (cSeq (cIte (cOr (cNot (cTst (cIsi "tuple" (cVar 0)))) (cOr (cTst (cOp gNe (cB gLen (cCons (cVar 0) cNil)) (cC (.int 3)))) (cNot (cTst (cCall 3 f_is_from (cCons (cOp gIx (cVar 0) (cC (.int 0))) (cCons (cC (.int 0)) (cCons (cC (.int 1000000000)) cNil)))))))) (cRet (cC (.bl false))) cNext)
    (cRet (cAndV (cCall 3 f_is_from (cCons (cOp gIx (cVar 0) (cC (.int 2))) (cCons (cC (.int 1)) (cCons (cC (.int 1000000000)) cNil)))) (cCall 3 f_is_from (cCons (cOp gIx (cVar 0) (cC (.int 1))) (cCons (cC (.int 1)) (cCons (cOp gIx (cVar 0) (cC (.int 2))) cNil)))))))
def f_is_span : List D → M D := runD 1 1 b_is_span
theorem u_is_span (x0 : D) (s : S) : f_is_span [x0] s = (b_is_span [some x0] s).bind endD := rfl
def b_need_spans : En → M Fl := (cSeq (cIte (cOr (cNot (cTst (cIsi "tuple" (cVar 0)))) (cOr (cNot (cTst (cChain gLe gLe (cC (.int 1)) (cB gLen (cCons (cVar 0) cNil)) (cC (.int 5))))) (cNot (cTst (cB gAll (cCons (cLc [1] (cItU (cVar 0)) (tgName 1) cYes (cCall 1 f_is_span (cCons (cVar 1) cNil))) cNil)))))) cStuck cNext)
    (cIte (cNot (cTst (cB gAll (cCons (cLc [2] (cItA gR1 (cCons (cOp gDif (cB gLen (cCons (cVar 0) cNil)) (cC (.int 1))) cNil)) (tgName 2) cYes (cOp gLt (cOp gIx (cOp gIx (cVar 0) (cVar 2)) (cC (.int 0))) (cOp gIx (cOp gIx (cVar 0) (cOp gAdd (cVar 2) (cC (.int 1)))) (cC (.int 0))))) cNil)))) cStuck cNext))
def f_need_spans : List D → M D := runD 1 3 b_need_spans
theorem u_need_spans (x0 : D) (s : S) : f_need_spans [x0] s = (b_need_spans [some x0, none, none] s).bind endD := rfl
def b_common : En → M Fl := (cSeq (cPar (pCons [] 2 (cV (cB gAbs (cCons (cVar 0) cNil))) (pCons [] 3 (cV (cB gAbs (cCons (cVar 1) cNil))) pNil)))
    (cSeq (cWhile (fuelI 3) (cTst (cOp gGt (cVar 3) (cC (.int 0)))) (cPar (pCons [] 2 (cV (cVar 3)) (pCons [] 3 (cV (cOp gMod (cVar 2) (cVar 3))) pNil))))
    (cRet (cVar 2))))
def f_common : List D → M D := runD 2 4 b_common
theorem u_common (x0 x1 : D) (s : S) : f_common [x0, x1] s = (b_common [some x0, some x1, none, none] s).bind endD := rfl
def b_made : En → M Fl := (cSeq (cSet 2 (cCall 2 f_common (cCons (cVar 0) (cCons (cVar 1) cNil))))
    (cRet (cTup (cCons (cOp gFdiv (cVar 0) (cVar 2)) (cCons (cOp gFdiv (cVar 1) (cVar 2)) cNil)))))
def f_made : List D → M D := runD 2 3 b_made
theorem u_made (x0 x1 : D) (s : S) : f_made [x0, x1] s = (b_made [some x0, some x1, none] s).bind endD := rfl
def b_taken_of : En → M Fl := (cSeq (cSet 2 (cB gSum (cCons (cLc [3, 4] (cItU (cVar 0)) (tgTup 2 (tgCons (tgName 3) (tgCons (tgName 4) tgNil))) (cTst (cOp gGe (cVar 3) (cVar 1))) (cVar 4)) cNil)))
    (cRet (cCall 2 f_made (cCons (cOp gMul (cVar 1) (cVar 2)) (cCons (cB gSum (cCons (cLc [3, 4] (cItU (cVar 0)) (tgTup 2 (tgCons (tgName 3) (tgCons (tgName 4) tgNil))) cYes (cVar 4)) cNil)) cNil)))))
def f_taken_of : List D → M D := runD 2 5 b_taken_of
theorem u_taken_of (x0 x1 : D) (s : S) : f_taken_of [x0, x1] s = (b_taken_of [some x0, some x1, none, none, none] s).bind endD := rfl
def b_is_less : En → M Fl := (cRet (cOp gLt (cOp gMul (cOp gIx (cVar 0) (cC (.int 0))) (cOp gIx (cVar 1) (cC (.int 1)))) (cOp gMul (cOp gIx (cVar 1) (cC (.int 0))) (cOp gIx (cVar 0) (cC (.int 1))))))
def f_is_less : List D → M D := runD 2 2 b_is_less
theorem u_is_less (x0 x1 : D) (s : S) : f_is_less [x0, x1] s = (b_is_less [some x0, some x1] s).bind endD := rfl
def b_worst_of : En → M Fl := (cRet (cB gTuple (cCons (cLc [2, 3, 4] (cItU (cVar 0)) (tgTup 3 (tgCons (tgName 2) (tgCons (tgName 3) (tgCons (tgName 4) tgNil)))) cYes (cTup (cCons (cVar 2) (cCons (cIf (cTst (cOp gGe (cVar 2) (cVar 1))) (cVar 3) (cVar 4)) cNil)))) cNil)))
def f_worst_of : List D → M D := runD 2 5 b_worst_of
theorem u_worst_of (x0 x1 : D) (s : S) : f_worst_of [x0, x1] s = (b_worst_of [some x0, some x1, none, none, none] s).bind endD := rfl
def l1_sure_price : En → M Fl := (cSeq (cSet 5 (cCall 2 f_taken_of (cCons (cCall 2 f_worst_of (cCons (cVar 0) (cCons (cVar 2) cNil))) (cCons (cVar 2) cNil))))
    (cIte (cTst (cCall 2 f_is_less (cCons (cOp gIx (cVar 1) (cC (.int 1))) (cCons (cVar 5) cNil)))) (cSet 1 (cTup (cCons (cVar 2) (cCons (cVar 5) cNil)))) cNext))
def b_sure_price : En → M Fl := (cSeq (cDo (cCall 1 f_need_spans (cCons (cVar 0) cNil)))
    (cSeq (cSet 1 (cTup (cCons (cOp gIx (cOp gIx (cVar 0) (cC (.int 0))) (cC (.int 0))) (cCons (cCall 2 f_taken_of (cCons (cCall 2 f_worst_of (cCons (cVar 0) (cCons (cOp gIx (cOp gIx (cVar 0) (cC (.int 0))) (cC (.int 0))) cNil))) (cCons (cOp gIx (cOp gIx (cVar 0) (cC (.int 0))) (cC (.int 0))) cNil))) cNil))))
    (cSeq (cFor (cItU (cSl (cVar 0) (cPart (cC (.int 1))) cNo)) (tgTup 3 (tgCons (tgName 2) (tgCons (tgName 3) (tgCons (tgName 4) tgNil)))) l1_sure_price)
    (cRet (cVar 1)))))
def f_sure_price : List D → M D := runD 1 6 b_sure_price
theorem u_sure_price (x0 : D) (s : S) : f_sure_price [x0] s = (b_sure_price [some x0, none, none, none, none, none] s).bind endD := rfl
def l1__law_corners : En → M Fl := (cSet 1 (cOp gAdd (cLc [5] (cItU (cVar 1)) (tgName 5) cYes (cOp gAdd (cVar 5) (cTup (cCons (cTup (cCons (cVar 2) (cCons (cVar 3) cNil))) cNil)))) (cLc [5] (cItU (cVar 1)) (tgName 5) cYes (cOp gAdd (cVar 5) (cTup (cCons (cTup (cCons (cVar 2) (cCons (cVar 4) cNil))) cNil))))))
def b__law_corners : En → M Fl := (cSeq (cSet 1 (cLst (cCons (cTup cNil) cNil)))
    (cSeq (cFor (cItU (cVar 0)) (tgTup 3 (tgCons (tgName 2) (tgCons (tgName 3) (tgCons (tgName 4) tgNil)))) l1__law_corners)
    (cRet (cVar 1))))
def f__law_corners : List D → M D := runD 1 6 b__law_corners
theorem u__law_corners (x0 : D) (s : S) : f__law_corners [x0] s = (b__law_corners [some x0, none, none, none, none, none] s).bind endD := rfl
def b__law_less : En → M Fl := (cRet (cOp gLt (cOp gMul (cOp gIx (cVar 0) (cC (.int 0))) (cOp gIx (cVar 1) (cC (.int 1)))) (cOp gMul (cOp gIx (cVar 1) (cC (.int 0))) (cOp gIx (cVar 0) (cC (.int 1))))))
def f__law_less : List D → M D := runD 2 2 b__law_less
theorem u__law_less (x0 x1 : D) (s : S) : f__law_less [x0, x1] s = (b__law_less [some x0, some x1] s).bind endD := rfl
def l1__law_ends : En → M Fl := (cSeq (cSet 1 (cIf (cTst (cCall 2 f__law_less (cCons (cVar 3) (cCons (cVar 1) cNil)))) (cVar 3) (cVar 1)))
    (cSet 2 (cIf (cTst (cCall 2 f__law_less (cCons (cVar 2) (cCons (cVar 3) cNil)))) (cVar 3) (cVar 2))))
def b__law_ends : En → M Fl := (cSeq (cPar (pCons [] 1 (cV (cOp gIx (cVar 0) (cC (.int 0)))) (pCons [] 2 (cV (cOp gIx (cVar 0) (cC (.int 0)))) pNil)))
    (cSeq (cFor (cItU (cVar 0)) (tgName 3) l1__law_ends)
    (cRet (cTup (cCons (cVar 1) (cCons (cVar 2) cNil))))))
def f__law_ends : List D → M D := runD 1 4 b__law_ends
theorem u__law_ends (x0 : D) (s : S) : f__law_ends [x0] s = (b__law_ends [some x0, none, none, none] s).bind endD := rfl
def b_is_price : En → M Fl := (cRet (cCall 3 f_is_from (cCons (cVar 0) (cCons (cC (.int 0)) (cCons (cC (.int 1000000000)) cNil)))))
def f_is_price : List D → M D := runD 1 1 b_is_price
theorem u_is_price (x0 : D) (s : S) : f_is_price [x0] s = (b_is_price [some x0] s).bind endD := rfl
def b_need_both : En → M Fl := (cSeq (cDo (cCall 1 f_need_spans (cCons (cVar 0) cNil)))
    (cIte (cNot (cTst (cCall 1 f_is_price (cCons (cVar 1) cNil)))) cStuck cNext))
def f_need_both : List D → M D := runD 2 2 b_need_both
theorem u_need_both (x0 x1 : D) (s : S) : f_need_both [x0, x1] s = (b_need_both [some x0, some x1] s).bind endD := rfl
def b_luckiest_of : En → M Fl := (cRet (cB gTuple (cCons (cLc [2, 3, 4] (cItU (cVar 0)) (tgTup 3 (tgCons (tgName 2) (tgCons (tgName 3) (tgCons (tgName 4) tgNil)))) cYes (cTup (cCons (cVar 2) (cCons (cIf (cTst (cOp gGe (cVar 2) (cVar 1))) (cVar 4) (cVar 3)) cNil)))) cNil)))
def f_luckiest_of : List D → M D := runD 2 5 b_luckiest_of
theorem u_luckiest_of (x0 x1 : D) (s : S) : f_luckiest_of [x0, x1] s = (b_luckiest_of [some x0, some x1, none, none, none] s).bind endD := rfl
def b_sure_takings : En → M Fl := (cSeq (cDo (cCall 2 f_need_both (cCons (cVar 0) (cCons (cVar 1) cNil))))
    (cRet (cTup (cCons (cCall 2 f_taken_of (cCons (cCall 2 f_worst_of (cCons (cVar 0) (cCons (cVar 1) cNil))) (cCons (cVar 1) cNil))) (cCons (cCall 2 f_taken_of (cCons (cCall 2 f_luckiest_of (cCons (cVar 0) (cCons (cVar 1) cNil))) (cCons (cVar 1) cNil))) cNil)))))
def f_sure_takings : List D → M D := runD 2 2 b_sure_takings
theorem u_sure_takings (x0 x1 : D) (s : S) : f_sure_takings [x0, x1] s = (b_sure_takings [some x0, some x1] s).bind endD := rfl
abbrev f__law_gcd : List D → M D := gcdF 140
def b__law_is : En → M Fl := (cSeq (cIte (cOr (cNot (cTst (cIsi "tuple" (cVar 0)))) (cOr (cTst (cOp gNe (cB gLen (cCons (cVar 0) cNil)) (cC (.int 2)))) (cOr (cTst (cIsi "bool" (cOp gIx (cVar 0) (cC (.int 0))))) (cTst (cOp gLt (cOp gIx (cVar 0) (cC (.int 1))) (cC (.int 1))))))) (cRet (cC (.bl false))) cNext)
    (cRet (cAndV (cOp gEq (cOp gMul (cOp gIx (cVar 0) (cC (.int 0))) (cVar 2)) (cOp gMul (cVar 1) (cOp gIx (cVar 0) (cC (.int 1))))) (cOp gEq (cCall 2 f__law_gcd (cCons (cOp gIx (cVar 0) (cC (.int 0))) (cCons (cOp gIx (cVar 0) (cC (.int 1))) cNil))) (cC (.int 1))))))
def f__law_is : List D → M D := runD 3 3 b__law_is
theorem u__law_is (x0 x1 x2 : D) (s : S) : f__law_is [x0, x1, x2] s = (b__law_is [some x0, some x1, some x2] s).bind endD := rfl
def l1_least_ahead : En → M Fl := (cSeq (cSet 7 (cOp gDif (cIf (cTst (cOp gGe (cVar 4) (cVar 1))) (cVar 1) (cC (.int 0))) (cIf (cTst (cOp gGe (cVar 4) (cVar 2))) (cVar 2) (cC (.int 0)))))
    (cAug 3 (fun i j => i + j) (cOp gMul (cVar 7) (cIf (cTst (cOp gGt (cVar 7) (cC (.int 0)))) (cVar 5) (cVar 6)))))
def b_least_ahead : En → M Fl := (cSeq (cSet 3 (cC (.int 0)))
    (cSeq (cFor (cItU (cVar 0)) (tgTup 3 (tgCons (tgName 4) (tgCons (tgName 5) (tgCons (tgName 6) tgNil)))) l1_least_ahead)
    (cRet (cVar 3))))
def f_least_ahead : List D → M D := runD 3 8 b_least_ahead
theorem u_least_ahead (x0 x1 x2 : D) (s : S) : f_least_ahead [x0, x1, x2] s = (b_least_ahead [some x0, some x1, some x2, none, none, none, none, none] s).bind endD := rfl
def b_always_best : En → M Fl := (cSeq (cDo (cCall 1 f_need_spans (cCons (cVar 0) cNil)))
    (cSeq (cSet 1 (cLc [2, 3, 4] (cItU (cVar 0)) (tgTup 3 (tgCons (tgName 2) (tgCons (tgName 3) (tgCons (tgName 4) tgNil)))) cYes (cVar 2)))
    (cRet (cLc [5] (cItU (cVar 1)) (tgName 5) (cTst (cB gAll (cCons (cLc [6] (cItU (cVar 1)) (tgName 6) cYes (cOp gGe (cCall 3 f_least_ahead (cCons (cVar 0) (cCons (cVar 5) (cCons (cVar 6) cNil)))) (cC (.int 0)))) cNil))) (cVar 5)))))
def f_always_best : List D → M D := runD 1 7 b_always_best
theorem u_always_best (x0 : D) (s : S) : f_always_best [x0] s = (b_always_best [some x0, none, none, none, none, none, none] s).bind endD := rfl
def b__law_taken_of : En → M Fl := (cSeq (cSet 2 (cB gSum (cCons (cLc [3, 4] (cItU (cVar 0)) (tgTup 2 (tgCons (tgName 3) (tgCons (tgName 4) tgNil))) (cTst (cOp gGe (cVar 3) (cVar 1))) (cVar 4)) cNil)))
    (cRet (cTup (cCons (cOp gMul (cVar 1) (cVar 2)) (cCons (cB gSum (cCons (cLc [3, 4] (cItU (cVar 0)) (tgTup 2 (tgCons (tgName 3) (tgCons (tgName 4) tgNil))) cYes (cVar 4)) cNil)) cNil)))))
def f__law_taken_of : List D → M D := runD 2 5 b__law_taken_of
theorem u__law_taken_of (x0 x1 : D) (s : S) : f__law_taken_of [x0, x1] s = (b__law_taken_of [some x0, some x1, none, none, none] s).bind endD := rfl
def b__law_same : En → M Fl := (cSeq (cSet 3 (cOp gIx (cCall 1 f__law_ends (cCons (cLc [4] (cItU (cVar 2)) (tgName 4) cYes (cCall 2 f__law_taken_of (cCons (cVar 4) (cCons (cVar 1) cNil)))) cNil)) (cC (.int 0))))
    (cRet (cOp gEq (cOp gMul (cOp gIx (cVar 3) (cC (.int 0))) (cOp gIx (cVar 0) (cC (.int 1)))) (cOp gMul (cOp gIx (cVar 0) (cC (.int 0))) (cOp gIx (cVar 3) (cC (.int 1)))))))
def f__law_same : List D → M D := runD 3 5 b__law_same
theorem u__law_same (x0 x1 x2 : D) (s : S) : f__law_same [x0, x1, x2] s = (b__law_same [some x0, some x1, some x2, none, none] s).bind endD := rfl
def l1_law : En → M Fl := (cSeq (cAsg (cCall 1 f__law_ends (cCons (cLc [14] (cItU (cVar 4)) (tgName 14) cYes (cCall 2 f__law_taken_of (cCons (cVar 14) (cCons (cVar 11) cNil)))) cNil)) (tgTup 2 (tgCons (tgName 12) (tgCons (tgName 13) tgNil))))
    (cSeq (cSet 15 (cCall 2 f_sure_takings (cCons (cVar 3) (cCons (cVar 11) cNil))))
    (cSeq (cIte (cOr (cNot (cTst (cCall 3 f__law_is (cCons (cOp gIx (cVar 15) (cC (.int 0))) (cCons (cOp gIx (cVar 12) (cC (.int 0))) (cCons (cOp gIx (cVar 12) (cC (.int 1))) cNil)))))) (cNot (cTst (cCall 3 f__law_is (cCons (cOp gIx (cVar 15) (cC (.int 1))) (cCons (cOp gIx (cVar 13) (cC (.int 0))) (cCons (cOp gIx (cVar 13) (cC (.int 1))) cNil))))))) (cRet (cC (.bl false))) cNext)
    (cIte (cAnd (cTst (cOp gIn (cVar 11) (cVar 5))) (cOr (cTst (cOp gIsN (cVar 10) (cC .non))) (cTst (cCall 2 f__law_less (cCons (cOp gIx (cVar 10) (cC (.int 1))) (cCons (cVar 12) cNil)))))) (cSet 10 (cTup (cCons (cVar 11) (cCons (cVar 12) cNil)))) cNext))))
def l2_law : En → M Fl := (cSeq (cSet 18 (cCall 2 f__law_taken_of (cCons (cVar 14) (cCons (cVar 11) cNil))))
    (cSet 17 (cAndV (cVar 17) (cNotV (cB gAny (cCons (cLc [19] (cItU (cVar 5)) (tgName 19) cYes (cCall 2 f__law_less (cCons (cVar 18) (cCons (cCall 2 f__law_taken_of (cCons (cVar 14) (cCons (cVar 19) cNil))) cNil)))) cNil))))))
def l3_law : En → M Fl := (cSeq (cSet 17 (cC (.bl true)))
    (cSeq (cFor (cItU (cVar 4)) (tgName 14) l2_law)
    (cSet 16 (cIf (cTst (cVar 17)) (cOp gAdd (cVar 16) (cLst (cCons (cVar 11) cNil))) (cVar 16)))))
def l4_law : En → M Fl := (cSeq (cSet 3 (cCall 2 f__law_spans (cCons (cVar 1) (cCons (cOp gIx (cLst (cCons (cC (.int 2)) (cCons (cC (.int 9)) (cCons (cOp gPow (cC (.int 10)) (cC (.int 9))) cNil)))) (cCall 2 f__law_taken (cCons (cVar 1) (cCons (cC (.int 3)) cNil)))) cNil))))
    (cSeq (cPar (pCons [] 4 (cV (cCall 1 f__law_corners (cCons (cVar 3) cNil))) (pCons [] 5 (cV (cLc [6, 7, 8] (cItU (cVar 3)) (tgTup 3 (tgCons (tgName 6) (tgCons (tgName 7) (tgCons (tgName 8) tgNil)))) cYes (cVar 6))) pNil)))
    (cSeq (cSet 9 (cOp gAdd (cVar 5) (cLst (cCons (cCall 2 f__law_taken (cCons (cVar 1) (cCons (cOp gAdd (cOp gIx (cVar 5) (cUn gNeg (cC (.int 1)))) (cC (.int 2))) cNil))) (cCons (cCall 2 f__law_taken (cCons (cVar 1) (cCons (cOp gAdd (cOp gPow (cC (.int 10)) (cC (.int 9))) (cC (.int 1))) cNil))) cNil)))))
    (cSeq (cSet 10 (cC .non))
    (cSeq (cFor (cItU (cVar 9)) (tgName 11) l1_law)
    (cSeq (cSet 15 (cCall 1 f_sure_price (cCons (cVar 3) cNil)))
    (cSeq (cIte (cTst (cOp gNe (cOp gIx (cVar 15) (cC (.int 0))) (cOp gIx (cVar 5) (cMt gIndex (cAsL (cLc [6] (cItU (cVar 5)) (tgName 6) cYes (cCall 3 f__law_same (cCons (cOp gIx (cVar 10) (cC (.int 1))) (cCons (cVar 6) (cCons (cVar 4) cNil)))))) (cCons (cC (.bl true)) cNil))))) (cRet (cC (.bl false))) cNext)
    (cSeq (cIte (cNot (cTst (cCall 3 f__law_is (cCons (cOp gIx (cVar 15) (cC (.int 1))) (cCons (cOp gIx (cOp gIx (cVar 10) (cC (.int 1))) (cC (.int 0))) (cCons (cOp gIx (cOp gIx (cVar 10) (cC (.int 1))) (cC (.int 1))) cNil)))))) (cRet (cC (.bl false))) cNext)
    (cSeq (cSet 16 (cLst cNil))
    (cSeq (cFor (cItU (cVar 5)) (tgName 11) l3_law)
    (cIte (cTst (cOp gNe (cCall 1 f_always_best (cCons (cVar 3) cNil)) (cVar 16))) (cRet (cC (.bl false))) cNext)))))))))))
def b_law : En → M Fl := (cSeq (cFor (cItA gR1 (cCons (cC (.int 2)) cNil)) (tgName 2) l4_law)
    (cRet (cC (.bl true))))
section
variable {B : Bs} {P : Program} {w : World} {mg : Str → Option Value} {base : Heap}
theorem ok__law_taken (T : Tx B mg) : FnOk P w B.K mg base CX0 1 T.f__law_taken T.d__law_taken P__law_taken (spD B 2 drawF) := taken_ok (k := 0) T.F__law_taken sc__law_taken rfl rfl fun cdv A outer s H E hr =>
  pss_cons (ps_if (pt_cmpR op_gt (pe_ix ix_list (pv 0) pe_int (fun _ _ => rfl)) pe_int (nomark _))
    (pss_cons (ps_set (i := 2) sc__law_taken.nd rfl (Or.inl rfl) (pe_op op_mod (pe_callTy call_int1 (by rfl) T.n_int (by decide +kernel) (pa_cons (pe_ix ix_list (pv 0) pe_int (fun _ _ => rfl)) pa_nil)) (pv 1)))
    (pss_cons (ps_asg (pe_op op_fdiv (pe_ix ix_list (pv 0) pe_int (fun _ _ => rfl)) (pv 1)) (pg_sub (pv 0) pe_int set_list)) (pss_one (ps_ret (pv 2))))) pss_nil)
  (pss_cons (ps_asg (pe_op op_add (pe_ix ix_list (pv 0) pe_int (fun _ _ => rfl)) pe_int) (pg_sub (pv 0) pe_int set_list))
  (pss_cons (ps_if (pt_cmpR op_gt (pe_ix ix_list (pv 0) pe_int (fun _ _ => rfl)) (pe_callB call_len_seq (by rfl) T.n_len (by decide +kernel) (pa_cons (pe_ix ix_list (pv 0) pe_int (fun _ _ => rfl)) pa_nil)) (nomark _))
    (pss_cons (ps_asg (pe_op op_mod (pe_callTy call_int1 (by rfl) T.n_int (by decide +kernel) (pa_cons (pe_op op_add (pe_op op_mul (pe_ix ix_list (pv 0) pe_int (fun _ _ => rfl)) pe_int) pe_int) pa_nil)) pe_int) (pg_sub (pv 0) pe_int set_list))
    (pss_one (ps_ret (pe_op op_mod (pe_callTy call_int1 (by rfl) T.n_int (by decide +kernel) (pa_cons (pe_op op_fdiv (pe_ix ix_list (pv 0) pe_int (fun _ _ => rfl)) pe_int) pa_nil)) (pv 1))))) pss_nil)
  (pss_cons (ps_set (i := 3) sc__law_taken.nd rfl (Or.inl rfl) (pe_ix ix_list (pe_ix ix_list (pv 0) pe_int (fun _ _ => rfl)) (pe_op op_sub (pe_ix ix_list (pv 0) pe_int (fun _ _ => rfl)) pe_int) (fun _ _ => rfl)))
  (pss_cons (ps_asg (pe_op op_mod (pe_callTy call_int1 (by rfl) T.n_int (by decide +kernel) (pa_cons (pe_op op_add (pe_op op_add (pe_op op_mul (pe_ix ix_list (pv 0) pe_int (fun _ _ => rfl)) pe_int) (pv 3)) pe_int) pa_nil)) pe_int) (pg_sub (pv 0) pe_int set_list))
  (pss_cons (ps_if (pt_cmpR op_ge (pv 3) (pe_op op_pow pe_int pe_int) (nomark _)) (pss_one (ps_asg (pe_op op_fdiv (pv 3) (pv 1)) (pg_sub (pv 0) pe_int set_list))) pss_nil)
  (pss_one (ps_ret (pe_op op_mod (pe_callTy call_int1 (by rfl) T.n_int (by decide +kernel) (pa_cons (pv 3) pa_nil)) (pv 1)))))))))

theorem ok__law_spans (T : Tx B mg) : FnOk P w B.K mg base CX0 2 T.f__law_spans T.d__law_spans P__law_spans (spD B 2 f__law_spans) := by
  have G__law_taken := ok__law_taken (P := P) (w := w) (base := base) T
  have key : FnOk P w B.K mg base CX0 2 T.f__law_spans T.d__law_spans P__law_spans (spD B P__law_spans.length (runD P__law_spans.length N__law_spans.length b__law_spans)) := fn_ok (B := B) (W := [3]) (k := 1) (body := b__law_spans) T.F__law_spans sc__law_spans (by rfl) fun cdv A outer s H E hr => ⟨_, (pss_cons (ps_par (i := 2) (j := 3) (by rfl) sc__law_spans.nd rfl rfl (by decide) rfl rfl (pa_cons (pe_call G__law_taken (hr.mono (by decide)) (by rfl) T.m__law_taken T.k__law_taken T.b__law_taken .nil pass0 (pa_cons (pv 0) (pa_cons pe_int pa_nil))) (pa_cons (pe_lst pa_nil) pa_nil)) (by rfl))
      (pss_cons (ps_for PassesOwn.never rfl (pi_range1 (by rfl) T.n_range (pa_cons (pe_op op_addU pe_int (pe_call G__law_taken (hr.mono (by decide)) (by rfl) T.m__law_taken T.k__law_taken T.b__law_taken .nil pass0 (pa_cons (pv 0) (pa_cons pe_int pa_nil)))) pa_nil)) (pg_name (i := 4) sc__law_spans.nd rfl (by first | exact Or.inl rfl | exact Or.inr rfl)) (pss_cons (ps_set (i := 5) sc__law_spans.nd rfl (by first | exact Or.inl rfl | exact Or.inr rfl) (pe_op op_addU pe_int (pe_call G__law_taken (hr.mono (by decide)) (by rfl) T.m__law_taken T.k__law_taken T.b__law_taken .nil pass0 (pa_cons (pv 0) (pa_cons (pv 1) pa_nil)))))
      (pss_cons (ps_expr (pe_bm PySem.F.plainAttrs_list PySem.F.slot_list_append PySem.F.type_list_append mt_append (pv 3) (pa_cons (pe_tup (pa_cons (pv 2) (pa_cons (pv 5) (pa_cons (pe_callB (call_min2 rfl) (by rfl) T.n_min (by decide +kernel) (pa_cons (pe_op op_pow pe_int pe_int) (pa_cons (pe_op op_addU (pv 5) (pe_call G__law_taken (hr.mono (by decide)) (by rfl) T.m__law_taken T.k__law_taken T.b__law_taken .nil pass0 (pa_cons (pv 0) (pa_cons (pv 1) pa_nil)))) pa_nil))) pa_nil)))) pa_nil)))
      (pss_one (ps_set (i := 2) sc__law_spans.nd rfl (by first | exact Or.inl rfl | exact Or.inr rfl) (pe_op op_addU (pe_op op_addU (pv 2) pe_int) (pe_call G__law_taken (hr.mono (by decide)) (by rfl) T.m__law_taken T.k__law_taken T.b__law_taken .nil pass0 (pa_cons (pv 0) (pa_cons (pe_ix ix_seq (pe_lst (pa_cons pe_int (pa_cons pe_int (pa_cons pe_int (pa_cons (pe_op op_pow pe_int pe_int) pa_nil))))) (pe_call G__law_taken (hr.mono (by decide)) (by rfl) T.m__law_taken T.k__law_taken T.b__law_taken .nil pass0 (pa_cons (pv 0) (pa_cons pe_int pa_nil))) (fun _ _ => rfl)) pa_nil)))))))))
      (pss_one (ps_ret (pe_callTy call_tuple_of (by rfl) T.n_tuple (by decide +kernel) (pa_cons (pv 3) pa_nil)))))),
    (rs_seq (rs_par (rps_cons (rp_v (rd_call (rd_cons rd_var (rd_cons rd_int rd_nil)))) (rps_cons (rp_n (rl_lst rd_nil)) rps_nil)))
      (rs_seq (rs_for (ri_r1 (rd_cons (rd_op os_add rd_int (rd_call (rd_cons rd_var (rd_cons rd_int rd_nil)))) rd_nil)) rg_name (rs_seq (rs_set (rd_op os_add rd_int (rd_call (rd_cons rd_var (rd_cons rd_var rd_nil)))))
      (rs_seq (rs_app (rd_tup (rd_cons rd_var (rd_cons rd_var (rd_cons (rd_b cs_min2 (rd_cons (rd_op os_pow rd_int rd_int) (rd_cons (rd_op os_add rd_var (rd_call (rd_cons rd_var (rd_cons rd_var rd_nil)))) rd_nil))) rd_nil)))))
      (rs_set (rd_op os_add (rd_op os_add rd_var rd_int) (rd_call (rd_cons rd_var (rd_cons (rd_op os_ix (rd_lst (rd_cons rd_int (rd_cons rd_int (rd_cons rd_int (rd_cons (rd_op os_pow rd_int rd_int) rd_nil))))) (rd_call (rd_cons rd_var (rd_cons rd_int rd_nil)))) rd_nil))))))))
      (rs_ret (rd_b cs_tuple (rd_cons rd_var rd_nil)))))⟩
  exact key
theorem ok_is_from (T : Tx B mg) : FnOk P w B.K mg base CX0 1 T.f_is_from T.d_is_from P_is_from (spD B 3 f_is_from) := by
  have key : FnOk P w B.K mg base CX0 1 T.f_is_from T.d_is_from P_is_from (spD B P_is_from.length (runD P_is_from.length N_is_from.length b_is_from)) := fn_ok (B := B) (W := []) (k := 0) (body := b_is_from) T.F_is_from sc_is_from (by rfl) fun cdv A outer s H E hr => ⟨_, (pss_one (ps_ret (pe_and (pe_callB call_isi (by rfl) T.n_isinstance (by decide +kernel) (pa_cons (pv 0) (pa_cons (pe_bltn (v := .ty "int") (by rfl) T.n_int (by decide +kernel) rfl) pa_nil))) (pe_and (pe_not (pe_callB call_isi (by rfl) T.n_isinstance (by decide +kernel) (pa_cons (pv 0) (pa_cons (pe_bltn (v := .ty "bool") (by rfl) T.n_bool (by decide +kernel) rfl) pa_nil)))) (pe_one (pe_chain op_le op_le (pv 1) (pv 0) (pv 2))))))),
    (rs_ret (rd_andV (rd_isi rd_var) (rd_andV (rd_notV (rd_isi rd_var)) (rd_chain os_le os_le rd_var rd_var rd_var))))⟩
  exact key
theorem ok_is_span (T : Tx B mg) : FnOk P w B.K mg base CX0 2 T.f_is_span T.d_is_span P_is_span (spD B 1 f_is_span) := by
  have G_is_from := ok_is_from (P := P) (w := w) (base := base) T
  have key : FnOk P w B.K mg base CX0 2 T.f_is_span T.d_is_span P_is_span (spD B P_is_span.length (runD P_is_span.length N_is_span.length b_is_span)) := fn_ok (B := B) (W := []) (k := 1) (body := b_is_span) T.F_is_span sc_is_span (by rfl) fun cdv A outer s H E hr => ⟨_, (pss_cons (ps_if (PW.pt (pw_or (pt_not (pt_val (pe_callB call_isi (by rfl) T.n_isinstance (by decide +kernel) (pa_cons (pv 0) (pa_cons (pe_bltn (v := .ty "tuple") (by rfl) T.n_tuple (by decide +kernel) rfl) pa_nil))))) (pw_or (pt_cmpR (op_neD hr.units) (pe_callB call_len (by rfl) T.n_len (by decide +kernel) (pa_cons (pv 0) pa_nil)) pe_int (nomark _)) (pw_or1 (pt_not (pt_val (pe_call G_is_from (hr.mono (by decide)) (by rfl) T.m_is_from T.k_is_from T.b_is_from .nil pass0 (pa_cons (pe_ix ix_seq (pv 0) pe_int (fun _ _ => rfl)) (pa_cons pe_int (pa_cons (pe_glob (v := .int 1000000000) (by rfl) T.m_MOST ⟨_, rfl⟩) pa_nil)))))))))) (pss_one (ps_ret pe_bl)) pss_nil)
      (pss_one (ps_ret (pe_and (pe_call G_is_from (hr.mono (by decide)) (by rfl) T.m_is_from T.k_is_from T.b_is_from .nil pass0 (pa_cons (pe_ix ix_seq (pv 0) pe_int (fun _ _ => rfl)) (pa_cons pe_int (pa_cons (pe_glob (v := .int 1000000000) (by rfl) T.m_MOST ⟨_, rfl⟩) pa_nil)))) (pe_one (pe_call G_is_from (hr.mono (by decide)) (by rfl) T.m_is_from T.k_is_from T.b_is_from .nil pass0 (pa_cons (pe_ix ix_seq (pv 0) pe_int (fun _ _ => rfl)) (pa_cons pe_int (pa_cons (pe_ix ix_seq (pv 0) pe_int (fun _ _ => rfl)) pa_nil))))))))),
    (rs_seq (rs_if (rt_or (rt_not (rt_b (rd_isi rd_var))) (rt_or (rt_b (rd_op os_ne (rd_b cs_len (rd_cons rd_var rd_nil)) rd_int)) (rt_not (rt_b (rd_call (rd_cons (rd_op os_ix rd_var rd_int) (rd_cons rd_int (rd_cons rd_int rd_nil)))))))) (rs_ret rd_bl) rs_next)
      (rs_ret (rd_andV (rd_call (rd_cons (rd_op os_ix rd_var rd_int) (rd_cons rd_int (rd_cons rd_int rd_nil)))) (rd_call (rd_cons (rd_op os_ix rd_var rd_int) (rd_cons rd_int (rd_cons (rd_op os_ix rd_var rd_int) rd_nil)))))))⟩
  exact key
theorem ok_need_spans (T : Tx B mg) : FnOk P w B.K mg base CX0 3 T.f_need_spans T.d_need_spans P_need_spans (spD B 1 f_need_spans) := by
  have G_is_span := ok_is_span (P := P) (w := w) (base := base) T
  have key : FnOk P w B.K mg base CX0 3 T.f_need_spans T.d_need_spans P_need_spans (spD B P_need_spans.length (runD P_need_spans.length N_need_spans.length b_need_spans)) := fn_ok (B := B) (W := []) (k := 2) (body := b_need_spans) T.F_need_spans sc_need_spans (by rfl) fun cdv A outer s H E hr => ⟨_, (pss_cons (ps_if (PW.pt (pw_or (pt_not (pt_val (pe_callB call_isi (by rfl) T.n_isinstance (by decide +kernel) (pa_cons (pv 0) (pa_cons (pe_bltn (v := .ty "tuple") (by rfl) T.n_tuple (by decide +kernel) rfl) pa_nil))))) (pw_or (pt_not (pt_chain op_le op_le pe_int (pe_callB call_len (by rfl) T.n_len (by decide +kernel) (pa_cons (pv 0) pa_nil)) (pe_glob (v := .int 5) (by rfl) T.m_MOST_WORTHS ⟨_, rfl⟩))) (pw_or1 (pt_not (pt_val (pe_callB (cr_all rfl) (by rfl) T.n_all (by decide +kernel) (pa_cons (pe_lc (own := [("one", 1)]) (by rfl) sc_need_spans.nd (pi_seq (pv 0)) (blkOk_by (own := [("one", 1)]) (N := N_need_spans) (sc := defScope s_need_spans) (by decide +kernel)) (fun _ _ _ _ _ => (pg_name (i := 1) sc_need_spans.nd rfl (by first | exact Or.inl rfl | exact Or.inr rfl))) (fun _ _ _ _ _ => pts_nil) (fun _ _ _ _ _ => (pe_call G_is_span (hr.mono (by decide)) (by rfl) T.m_is_span T.k_is_span T.b_is_span .nil pass0 (pa_cons (pv 1) pa_nil)))) pa_nil)))))))) (pss_one ps_never) pss_nil)
      (pss_one (ps_if (pt_not (pt_val (pe_callB (cr_all rfl) (by rfl) T.n_all (by decide +kernel) (pa_cons (pe_lc (own := [("at", 2)]) (by rfl) sc_need_spans.nd (pi_range1 (by rfl) T.n_range (pa_cons (pe_op op_sub (pe_callB call_len (by rfl) T.n_len (by decide +kernel) (pa_cons (pv 0) pa_nil)) pe_int) pa_nil)) (blkOk_by (own := [("at", 2)]) (N := N_need_spans) (sc := defScope s_need_spans) (by decide +kernel)) (fun _ _ _ _ _ => (pg_name (i := 2) sc_need_spans.nd rfl (by first | exact Or.inl rfl | exact Or.inr rfl))) (fun _ _ _ _ _ => pts_nil) (fun _ _ _ _ _ => (pe_cmpR op_lt (pe_ix ix_seq (pe_ix ix_seq (pv 0) (pv 2) (fun _ _ => rfl)) pe_int (fun _ _ => rfl)) (pe_ix ix_seq (pe_ix ix_seq (pv 0) (pe_op op_addU (pv 2) pe_int) (fun _ _ => rfl)) pe_int (fun _ _ => rfl)) (nomark _)))) pa_nil)))) (pss_one ps_never) pss_nil))),
    (rs_seq (rs_if (rt_or (rt_not (rt_b (rd_isi rd_var))) (rt_or (rt_not (rt_b (rd_chain os_le os_le rd_int (rd_b cs_len (rd_cons rd_var rd_nil)) rd_int))) (rt_not (rt_b (rd_b cs_all (rd_cons (rd_comp (ri_seq rd_var) rg_name rt_yes (rd_call (rd_cons rd_var rd_nil))) rd_nil)))))) rs_stuck rs_next)
      (rs_if (rt_not (rt_b (rd_b cs_all (rd_cons (rd_comp (ri_r1 (rd_cons (rd_op os_dif (rd_b cs_len (rd_cons rd_var rd_nil)) rd_int) rd_nil)) rg_name rt_yes (rd_op os_lt (rd_op os_ix (rd_op os_ix rd_var rd_var) rd_int) (rd_op os_ix (rd_op os_ix rd_var (rd_op os_add rd_var rd_int)) rd_int))) rd_nil)))) rs_stuck rs_next))⟩
  exact key
theorem ok_common (T : Tx B mg) : FnOk P w B.K mg base CX0 1 T.f_common T.d_common P_common (spD B 2 f_common) := by
  have key : FnOk P w B.K mg base CX0 1 T.f_common T.d_common P_common (spD B P_common.length (runD P_common.length N_common.length b_common)) := fn_ok (B := B) (W := []) (k := 0) (body := b_common) T.F_common sc_common (by rfl) fun cdv A outer s H E hr => ⟨_, (pss_cons (ps_par (i := 2) (j := 3) (by rfl) sc_common.nd rfl rfl (by decide) rfl rfl (pa_cons (pe_callB call_abs (by rfl) T.n_abs (by decide +kernel) (pa_cons (pv 0) pa_nil)) (pa_cons (pe_callB call_abs (by rfl) T.n_abs (by decide +kernel) (pa_cons (pv 1) pa_nil)) pa_nil)) (by rfl))
      (pss_cons (ps_while PassesOwn.never (pt_cmpR op_gt (pv 3) pe_int (nomark _)) (pss_one (ps_par (i := 2) (j := 3) (by rfl) sc_common.nd rfl rfl (by decide) rfl rfl (pa_cons (pv 3) (pa_cons (pe_op op_mod (pv 2) (pv 3)) pa_nil)) (by rfl))))
      (pss_one (ps_ret (pv 2))))),
    (rs_seq (rs_par (rps_cons (rp_v (rd_b cs_abs (rd_cons rd_var rd_nil))) (rps_cons (rp_v (rd_b cs_abs (rd_cons rd_var rd_nil))) rps_nil)))
      (rs_seq (rs_while (rt_b (rd_op os_gt rd_var rd_int)) (rs_par (rps_cons (rp_v rd_var) (rps_cons (rp_v (rd_op os_mod rd_var rd_var)) rps_nil))))
      (rs_ret rd_var)))⟩
  exact key
theorem ok_made (T : Tx B mg) : FnOk P w B.K mg base CX0 2 T.f_made T.d_made P_made (spD B 2 f_made) := by
  have G_common := ok_common (P := P) (w := w) (base := base) T
  have key : FnOk P w B.K mg base CX0 2 T.f_made T.d_made P_made (spD B P_made.length (runD P_made.length N_made.length b_made)) := fn_ok (B := B) (W := []) (k := 1) (body := b_made) T.F_made sc_made (by rfl) fun cdv A outer s H E hr => ⟨_, (pss_cons (ps_set (i := 2) sc_made.nd rfl (by first | exact Or.inl rfl | exact Or.inr rfl) (pe_call G_common (hr.mono (by decide)) (by rfl) T.m_common T.k_common T.b_common .nil pass0 (pa_cons (pv 0) (pa_cons (pv 1) pa_nil))))
      (pss_one (ps_ret (pe_tup (pa_cons (pe_op op_fdivW (pv 0) (pv 2)) (pa_cons (pe_op op_fdivW (pv 1) (pv 2)) pa_nil)))))),
    (rs_seq (rs_set (rd_call (rd_cons rd_var (rd_cons rd_var rd_nil))))
      (rs_ret (rd_tup (rd_cons (rd_op os_fdiv rd_var rd_var) (rd_cons (rd_op os_fdiv rd_var rd_var) rd_nil)))))⟩
  exact key
theorem ok_taken_of (T : Tx B mg) : FnOk P w B.K mg base CX0 3 T.f_taken_of T.d_taken_of P_taken_of (spD B 2 f_taken_of) := by
  have G_made := ok_made (P := P) (w := w) (base := base) T
  have key : FnOk P w B.K mg base CX0 3 T.f_taken_of T.d_taken_of P_taken_of (spD B P_taken_of.length (runD P_taken_of.length N_taken_of.length b_taken_of)) := fn_ok (B := B) (W := []) (k := 2) (body := b_taken_of) T.F_taken_of sc_taken_of (by rfl) fun cdv A outer s H E hr => ⟨_, (pss_cons (ps_set (i := 2) sc_taken_of.nd rfl (by first | exact Or.inl rfl | exact Or.inr rfl) (pe_callB (cr_sum rfl) (by rfl) T.n_sum (by decide +kernel) (pa_cons (pe_lc (own := [("worth", 3), ("weight", 4)]) (by rfl) sc_taken_of.nd (pi_seq (pv 0)) (blkOk_by (own := [("worth", 3), ("weight", 4)]) (N := N_taken_of) (sc := defScope s_taken_of) (by decide +kernel)) (fun _ _ _ _ _ => (pg_tup rfl (pgs_cons (pg_name (i := 3) sc_taken_of.nd rfl (by first | exact Or.inl rfl | exact Or.inr rfl)) (pgs_cons (pg_name (i := 4) sc_taken_of.nd rfl (by first | exact Or.inl rfl | exact Or.inr rfl)) pgs_nil)))) (fun _ _ _ _ _ => (pts_one (pt_cmpR op_ge (pv 3) (pv 1) (nomark _)))) (fun _ _ _ _ _ => (pv 4))) pa_nil)))
      (pss_one (ps_ret (pe_call G_made (hr.mono (by decide)) (by rfl) T.m_made T.k_made T.b_made .nil pass0 (pa_cons (pe_op op_mulU (pv 1) (pv 2)) (pa_cons (pe_callB (cr_sum rfl) (by rfl) T.n_sum (by decide +kernel) (pa_cons (pe_lc (own := [("worth", 3), ("weight", 4)]) (by rfl) sc_taken_of.nd (pi_seq (pv 0)) (blkOk_by (own := [("worth", 3), ("weight", 4)]) (N := N_taken_of) (sc := defScope s_taken_of) (by decide +kernel)) (fun _ _ _ _ _ => (pg_tup rfl (pgs_cons (pg_name (i := 3) sc_taken_of.nd rfl (by first | exact Or.inl rfl | exact Or.inr rfl)) (pgs_cons (pg_name (i := 4) sc_taken_of.nd rfl (by first | exact Or.inl rfl | exact Or.inr rfl)) pgs_nil)))) (fun _ _ _ _ _ => pts_nil) (fun _ _ _ _ _ => (pv 4))) pa_nil)) pa_nil)))))),
    (rs_seq (rs_set (rd_b cs_sum (rd_cons (rd_comp (ri_seq rd_var) (rg_tup (rg_cons rg_name (rg_cons rg_name rg_nil))) (rt_b (rd_op os_ge rd_var rd_var)) rd_var) rd_nil)))
      (rs_ret (rd_call (rd_cons (rd_op os_mul rd_var rd_var) (rd_cons (rd_b cs_sum (rd_cons (rd_comp (ri_seq rd_var) (rg_tup (rg_cons rg_name (rg_cons rg_name rg_nil))) rt_yes rd_var) rd_nil)) rd_nil)))))⟩
  exact key
theorem ok_is_less (T : Tx B mg) : FnOk P w B.K mg base CX0 1 T.f_is_less T.d_is_less P_is_less (spD B 2 f_is_less) := by
  have key : FnOk P w B.K mg base CX0 1 T.f_is_less T.d_is_less P_is_less (spD B P_is_less.length (runD P_is_less.length N_is_less.length b_is_less)) := fn_ok (B := B) (W := []) (k := 0) (body := b_is_less) T.F_is_less sc_is_less (by rfl) fun cdv A outer s H E hr => ⟨_, (pss_one (ps_ret (pe_cmpR op_lt (pe_op op_mulU (pe_ix ix_seq (pv 0) pe_int (fun _ _ => rfl)) (pe_ix ix_seq (pv 1) pe_int (fun _ _ => rfl))) (pe_op op_mulU (pe_ix ix_seq (pv 1) pe_int (fun _ _ => rfl)) (pe_ix ix_seq (pv 0) pe_int (fun _ _ => rfl))) (nomark _)))),
    (rs_ret (rd_op os_lt (rd_op os_mul (rd_op os_ix rd_var rd_int) (rd_op os_ix rd_var rd_int)) (rd_op os_mul (rd_op os_ix rd_var rd_int) (rd_op os_ix rd_var rd_int))))⟩
  exact key
theorem ok_worst_of (T : Tx B mg) : FnOk P w B.K mg base CX0 1 T.f_worst_of T.d_worst_of P_worst_of (spD B 2 f_worst_of) := by
  have key : FnOk P w B.K mg base CX0 1 T.f_worst_of T.d_worst_of P_worst_of (spD B P_worst_of.length (runD P_worst_of.length N_worst_of.length b_worst_of)) := fn_ok (B := B) (W := []) (k := 0) (body := b_worst_of) T.F_worst_of sc_worst_of (by rfl) fun cdv A outer s H E hr => ⟨_, (pss_one (ps_ret (pe_callTy call_tuple_of (by rfl) T.n_tuple (by decide +kernel) (pa_cons (pe_lc (own := [("worth", 2), ("low", 3), ("high", 4)]) (by rfl) sc_worst_of.nd (pi_seq (pv 0)) (blkOk_by (own := [("worth", 2), ("low", 3), ("high", 4)]) (N := N_worst_of) (sc := defScope s_worst_of) (by decide +kernel)) (fun _ _ _ _ _ => (pg_tup rfl (pgs_cons (pg_name (i := 2) sc_worst_of.nd rfl (by first | exact Or.inl rfl | exact Or.inr rfl)) (pgs_cons (pg_name (i := 3) sc_worst_of.nd rfl (by first | exact Or.inl rfl | exact Or.inr rfl)) (pgs_cons (pg_name (i := 4) sc_worst_of.nd rfl (by first | exact Or.inl rfl | exact Or.inr rfl)) pgs_nil))))) (fun _ _ _ _ _ => pts_nil) (fun _ _ _ _ _ => (pe_tup (pa_cons (pv 2) (pa_cons (pe_ifExp (pt_cmpR op_ge (pv 2) (pv 1) (nomark _)) (pv 3) (pv 4)) pa_nil))))) pa_nil)))),
    (rs_ret (rd_b cs_tuple (rd_cons (rd_comp (ri_seq rd_var) (rg_tup (rg_cons rg_name (rg_cons rg_name (rg_cons rg_name rg_nil)))) rt_yes (rd_tup (rd_cons rd_var (rd_cons (rd_if (rt_b (rd_op os_ge rd_var rd_var)) rd_var rd_var) rd_nil)))) rd_nil)))⟩
  exact key
theorem ok_sure_price (T : Tx B mg) : FnOk P w B.K mg base CX0 4 T.f_sure_price T.d_sure_price P_sure_price (spD B 1 f_sure_price) := by
  have G_need_spans := ok_need_spans (P := P) (w := w) (base := base) T
  have G_taken_of := ok_taken_of (P := P) (w := w) (base := base) T
  have G_is_less := ok_is_less (P := P) (w := w) (base := base) T
  have G_worst_of := ok_worst_of (P := P) (w := w) (base := base) T
  have key : FnOk P w B.K mg base CX0 4 T.f_sure_price T.d_sure_price P_sure_price (spD B P_sure_price.length (runD P_sure_price.length N_sure_price.length b_sure_price)) := fn_ok (B := B) (W := []) (k := 3) (body := b_sure_price) T.F_sure_price sc_sure_price (by rfl) fun cdv A outer s H E hr => ⟨_, (pss_cons (ps_expr (pe_call G_need_spans (hr.mono (by decide)) (by rfl) T.m_need_spans T.k_need_spans T.b_need_spans .nil pass0 (pa_cons (pv 0) pa_nil)))
      (pss_cons (ps_set (i := 1) sc_sure_price.nd rfl (by first | exact Or.inl rfl | exact Or.inr rfl) (pe_tup (pa_cons (pe_ix ix_seq (pe_ix ix_seq (pv 0) pe_int (fun _ _ => rfl)) pe_int (fun _ _ => rfl)) (pa_cons (pe_call G_taken_of (hr.mono (by decide)) (by rfl) T.m_taken_of T.k_taken_of T.b_taken_of .nil pass0 (pa_cons (pe_call G_worst_of (hr.mono (by decide)) (by rfl) T.m_worst_of T.k_worst_of T.b_worst_of .nil pass0 (pa_cons (pv 0) (pa_cons (pe_ix ix_seq (pe_ix ix_seq (pv 0) pe_int (fun _ _ => rfl)) pe_int (fun _ _ => rfl)) pa_nil))) (pa_cons (pe_ix ix_seq (pe_ix ix_seq (pv 0) pe_int (fun _ _ => rfl)) pe_int (fun _ _ => rfl)) pa_nil))) pa_nil))))
      (pss_cons (ps_for PassesOwn.never rfl (pi_seq (pe_slice sl_U (pv 0) (po_some pe_int) po_none)) (pg_tup rfl (pgs_cons (pg_name (i := 2) sc_sure_price.nd rfl (by first | exact Or.inl rfl | exact Or.inr rfl)) (pgs_cons (pg_name (i := 3) sc_sure_price.nd rfl (by first | exact Or.inl rfl | exact Or.inr rfl)) (pgs_cons (pg_name (i := 4) sc_sure_price.nd rfl (by first | exact Or.inl rfl | exact Or.inr rfl)) pgs_nil)))) (pss_cons (ps_set (i := 5) sc_sure_price.nd rfl (by first | exact Or.inl rfl | exact Or.inr rfl) (pe_call G_taken_of (hr.mono (by decide)) (by rfl) T.m_taken_of T.k_taken_of T.b_taken_of .nil pass0 (pa_cons (pe_call G_worst_of (hr.mono (by decide)) (by rfl) T.m_worst_of T.k_worst_of T.b_worst_of .nil pass0 (pa_cons (pv 0) (pa_cons (pv 2) pa_nil))) (pa_cons (pv 2) pa_nil))))
      (pss_one (ps_if (pt_val (pe_call G_is_less (hr.mono (by decide)) (by rfl) T.m_is_less T.k_is_less T.b_is_less .nil pass0 (pa_cons (pe_ix ix_seq (pv 1) pe_int (fun _ _ => rfl)) (pa_cons (pv 5) pa_nil)))) (pss_one (ps_set (i := 1) sc_sure_price.nd rfl (by first | exact Or.inl rfl | exact Or.inr rfl) (pe_tup (pa_cons (pv 2) (pa_cons (pv 5) pa_nil))))) pss_nil))))
      (pss_one (ps_ret (pv 1)))))),
    (rs_seq (rs_do (rd_call (rd_cons rd_var rd_nil)))
      (rs_seq (rs_set (rd_tup (rd_cons (rd_op os_ix (rd_op os_ix rd_var rd_int) rd_int) (rd_cons (rd_call (rd_cons (rd_call (rd_cons rd_var (rd_cons (rd_op os_ix (rd_op os_ix rd_var rd_int) rd_int) rd_nil))) (rd_cons (rd_op os_ix (rd_op os_ix rd_var rd_int) rd_int) rd_nil))) rd_nil))))
      (rs_seq (rs_for (ri_seq (rd_sl rd_var (ro_part rd_int) ro_no)) (rg_tup (rg_cons rg_name (rg_cons rg_name (rg_cons rg_name rg_nil)))) (rs_seq (rs_set (rd_call (rd_cons (rd_call (rd_cons rd_var (rd_cons rd_var rd_nil))) (rd_cons rd_var rd_nil))))
      (rs_if (rt_b (rd_call (rd_cons (rd_op os_ix rd_var rd_int) (rd_cons rd_var rd_nil)))) (rs_set (rd_tup (rd_cons rd_var (rd_cons rd_var rd_nil)))) rs_next)))
      (rs_ret rd_var))))⟩
  exact key
theorem ok__law_corners (T : Tx B mg) : FnOk P w B.K mg base CX0 1 T.f__law_corners T.d__law_corners P__law_corners (spD B 1 f__law_corners) := by
  have key : FnOk P w B.K mg base CX0 1 T.f__law_corners T.d__law_corners P__law_corners (spD B P__law_corners.length (runD P__law_corners.length N__law_corners.length b__law_corners)) := fn_ok (B := B) (W := []) (k := 0) (body := b__law_corners) T.F__law_corners sc__law_corners (by rfl) fun cdv A outer s H E hr => ⟨_, (pss_cons (ps_set (i := 1) sc__law_corners.nd rfl (by first | exact Or.inl rfl | exact Or.inr rfl) (pe_lst (pa_cons (pe_tup pa_nil) pa_nil)))
      (pss_cons (ps_for PassesOwn.never rfl (pi_seq (pv 0)) (pg_tup rfl (pgs_cons (pg_name (i := 2) sc__law_corners.nd rfl (by first | exact Or.inl rfl | exact Or.inr rfl)) (pgs_cons (pg_name (i := 3) sc__law_corners.nd rfl (by first | exact Or.inl rfl | exact Or.inr rfl)) (pgs_cons (pg_name (i := 4) sc__law_corners.nd rfl (by first | exact Or.inl rfl | exact Or.inr rfl)) pgs_nil)))) (pss_one (ps_set (i := 1) sc__law_corners.nd rfl (by first | exact Or.inl rfl | exact Or.inr rfl) (pe_op op_addU (pe_lc (own := [("_law_some", 5)]) (by rfl) sc__law_corners.nd (pi_seq (pv 1)) (blkOk_by (own := [("_law_some", 5)]) (N := N__law_corners) (sc := defScope s__law_corners) (by decide +kernel)) (fun _ _ _ _ _ => (pg_name (i := 5) sc__law_corners.nd rfl (by first | exact Or.inl rfl | exact Or.inr rfl))) (fun _ _ _ _ _ => pts_nil) (fun _ _ _ _ _ => (pe_op op_addU (pv 5) (pe_tup (pa_cons (pe_tup (pa_cons (pv 2) (pa_cons (pv 3) pa_nil))) pa_nil))))) (pe_lc (own := [("_law_some", 5)]) (by rfl) sc__law_corners.nd (pi_seq (pv 1)) (blkOk_by (own := [("_law_some", 5)]) (N := N__law_corners) (sc := defScope s__law_corners) (by decide +kernel)) (fun _ _ _ _ _ => (pg_name (i := 5) sc__law_corners.nd rfl (by first | exact Or.inl rfl | exact Or.inr rfl))) (fun _ _ _ _ _ => pts_nil) (fun _ _ _ _ _ => (pe_op op_addU (pv 5) (pe_tup (pa_cons (pe_tup (pa_cons (pv 2) (pa_cons (pv 4) pa_nil))) pa_nil)))))))))
      (pss_one (ps_ret (pv 1))))),
    (rs_seq (rs_set (rd_lst (rd_cons (rd_tup rd_nil) rd_nil)))
      (rs_seq (rs_for (ri_seq rd_var) (rg_tup (rg_cons rg_name (rg_cons rg_name (rg_cons rg_name rg_nil)))) (rs_set (rd_op os_add (rd_comp (ri_seq rd_var) rg_name rt_yes (rd_op os_add rd_var (rd_tup (rd_cons (rd_tup (rd_cons rd_var (rd_cons rd_var rd_nil))) rd_nil)))) (rd_comp (ri_seq rd_var) rg_name rt_yes (rd_op os_add rd_var (rd_tup (rd_cons (rd_tup (rd_cons rd_var (rd_cons rd_var rd_nil))) rd_nil)))))))
      (rs_ret rd_var)))⟩
  exact key
theorem ok__law_less (T : Tx B mg) : FnOk P w B.K mg base CX0 1 T.f__law_less T.d__law_less P__law_less (spD B 2 f__law_less) := by
  have key : FnOk P w B.K mg base CX0 1 T.f__law_less T.d__law_less P__law_less (spD B P__law_less.length (runD P__law_less.length N__law_less.length b__law_less)) := fn_ok (B := B) (W := []) (k := 0) (body := b__law_less) T.F__law_less sc__law_less (by rfl) fun cdv A outer s H E hr => ⟨_, (pss_one (ps_ret (pe_cmpR op_lt (pe_op op_mulU (pe_ix ix_seq (pv 0) pe_int (fun _ _ => rfl)) (pe_ix ix_seq (pv 1) pe_int (fun _ _ => rfl))) (pe_op op_mulU (pe_ix ix_seq (pv 1) pe_int (fun _ _ => rfl)) (pe_ix ix_seq (pv 0) pe_int (fun _ _ => rfl))) (nomark _)))),
    (rs_ret (rd_op os_lt (rd_op os_mul (rd_op os_ix rd_var rd_int) (rd_op os_ix rd_var rd_int)) (rd_op os_mul (rd_op os_ix rd_var rd_int) (rd_op os_ix rd_var rd_int))))⟩
  exact key
theorem ok__law_ends (T : Tx B mg) : FnOk P w B.K mg base CX0 2 T.f__law_ends T.d__law_ends P__law_ends (spD B 1 f__law_ends) := by
  have G__law_less := ok__law_less (P := P) (w := w) (base := base) T
  have key : FnOk P w B.K mg base CX0 2 T.f__law_ends T.d__law_ends P__law_ends (spD B P__law_ends.length (runD P__law_ends.length N__law_ends.length b__law_ends)) := fn_ok (B := B) (W := []) (k := 1) (body := b__law_ends) T.F__law_ends sc__law_ends (by rfl) fun cdv A outer s H E hr => ⟨_, (pss_cons (ps_par (i := 1) (j := 2) (by rfl) sc__law_ends.nd rfl rfl (by decide) rfl rfl (pa_cons (pe_ix ix_seq (pv 0) pe_int (fun _ _ => rfl)) (pa_cons (pe_ix ix_seq (pv 0) pe_int (fun _ _ => rfl)) pa_nil)) (by rfl))
      (pss_cons (ps_for PassesOwn.never rfl (pi_seq (pv 0)) (pg_name (i := 3) sc__law_ends.nd rfl (by first | exact Or.inl rfl | exact Or.inr rfl)) (pss_cons (ps_set (i := 1) sc__law_ends.nd rfl (by first | exact Or.inl rfl | exact Or.inr rfl) (pe_ifExp (pt_val (pe_call G__law_less (hr.mono (by decide)) (by rfl) T.m__law_less T.k__law_less T.b__law_less .nil pass0 (pa_cons (pv 3) (pa_cons (pv 1) pa_nil)))) (pv 3) (pv 1)))
      (pss_one (ps_set (i := 2) sc__law_ends.nd rfl (by first | exact Or.inl rfl | exact Or.inr rfl) (pe_ifExp (pt_val (pe_call G__law_less (hr.mono (by decide)) (by rfl) T.m__law_less T.k__law_less T.b__law_less .nil pass0 (pa_cons (pv 2) (pa_cons (pv 3) pa_nil)))) (pv 3) (pv 2))))))
      (pss_one (ps_ret (pe_tup (pa_cons (pv 1) (pa_cons (pv 2) pa_nil))))))),
    (rs_seq (rs_par (rps_cons (rp_v (rd_op os_ix rd_var rd_int)) (rps_cons (rp_v (rd_op os_ix rd_var rd_int)) rps_nil)))
      (rs_seq (rs_for (ri_seq rd_var) rg_name (rs_seq (rs_set (rd_if (rt_b (rd_call (rd_cons rd_var (rd_cons rd_var rd_nil)))) rd_var rd_var))
      (rs_set (rd_if (rt_b (rd_call (rd_cons rd_var (rd_cons rd_var rd_nil)))) rd_var rd_var))))
      (rs_ret (rd_tup (rd_cons rd_var (rd_cons rd_var rd_nil))))))⟩
  exact key
theorem ok_is_price (T : Tx B mg) : FnOk P w B.K mg base CX0 2 T.f_is_price T.d_is_price P_is_price (spD B 1 f_is_price) := by
  have G_is_from := ok_is_from (P := P) (w := w) (base := base) T
  have key : FnOk P w B.K mg base CX0 2 T.f_is_price T.d_is_price P_is_price (spD B P_is_price.length (runD P_is_price.length N_is_price.length b_is_price)) := fn_ok (B := B) (W := []) (k := 1) (body := b_is_price) T.F_is_price sc_is_price (by rfl) fun cdv A outer s H E hr => ⟨_, (pss_one (ps_ret (pe_call G_is_from (hr.mono (by decide)) (by rfl) T.m_is_from T.k_is_from T.b_is_from .nil pass0 (pa_cons (pv 0) (pa_cons pe_int (pa_cons (pe_glob (v := .int 1000000000) (by rfl) T.m_MOST ⟨_, rfl⟩) pa_nil)))))),
    (rs_ret (rd_call (rd_cons rd_var (rd_cons rd_int (rd_cons rd_int rd_nil)))))⟩
  exact key
theorem ok_need_both (T : Tx B mg) : FnOk P w B.K mg base CX0 4 T.f_need_both T.d_need_both P_need_both (spD B 2 f_need_both) := by
  have G_need_spans := ok_need_spans (P := P) (w := w) (base := base) T
  have G_is_price := ok_is_price (P := P) (w := w) (base := base) T
  have key : FnOk P w B.K mg base CX0 4 T.f_need_both T.d_need_both P_need_both (spD B P_need_both.length (runD P_need_both.length N_need_both.length b_need_both)) := fn_ok (B := B) (W := []) (k := 3) (body := b_need_both) T.F_need_both sc_need_both (by rfl) fun cdv A outer s H E hr => ⟨_, (pss_cons (ps_expr (pe_call G_need_spans (hr.mono (by decide)) (by rfl) T.m_need_spans T.k_need_spans T.b_need_spans .nil pass0 (pa_cons (pv 0) pa_nil)))
      (pss_one (ps_if (pt_not (pt_val (pe_call G_is_price (hr.mono (by decide)) (by rfl) T.m_is_price T.k_is_price T.b_is_price .nil pass0 (pa_cons (pv 1) pa_nil)))) (pss_one ps_never) pss_nil))),
    (rs_seq (rs_do (rd_call (rd_cons rd_var rd_nil)))
      (rs_if (rt_not (rt_b (rd_call (rd_cons rd_var rd_nil)))) rs_stuck rs_next))⟩
  exact key
theorem ok_luckiest_of (T : Tx B mg) : FnOk P w B.K mg base CX0 1 T.f_luckiest_of T.d_luckiest_of P_luckiest_of (spD B 2 f_luckiest_of) := by
  have key : FnOk P w B.K mg base CX0 1 T.f_luckiest_of T.d_luckiest_of P_luckiest_of (spD B P_luckiest_of.length (runD P_luckiest_of.length N_luckiest_of.length b_luckiest_of)) := fn_ok (B := B) (W := []) (k := 0) (body := b_luckiest_of) T.F_luckiest_of sc_luckiest_of (by rfl) fun cdv A outer s H E hr => ⟨_, (pss_one (ps_ret (pe_callTy call_tuple_of (by rfl) T.n_tuple (by decide +kernel) (pa_cons (pe_lc (own := [("worth", 2), ("low", 3), ("high", 4)]) (by rfl) sc_luckiest_of.nd (pi_seq (pv 0)) (blkOk_by (own := [("worth", 2), ("low", 3), ("high", 4)]) (N := N_luckiest_of) (sc := defScope s_luckiest_of) (by decide +kernel)) (fun _ _ _ _ _ => (pg_tup rfl (pgs_cons (pg_name (i := 2) sc_luckiest_of.nd rfl (by first | exact Or.inl rfl | exact Or.inr rfl)) (pgs_cons (pg_name (i := 3) sc_luckiest_of.nd rfl (by first | exact Or.inl rfl | exact Or.inr rfl)) (pgs_cons (pg_name (i := 4) sc_luckiest_of.nd rfl (by first | exact Or.inl rfl | exact Or.inr rfl)) pgs_nil))))) (fun _ _ _ _ _ => pts_nil) (fun _ _ _ _ _ => (pe_tup (pa_cons (pv 2) (pa_cons (pe_ifExp (pt_cmpR op_ge (pv 2) (pv 1) (nomark _)) (pv 4) (pv 3)) pa_nil))))) pa_nil)))),
    (rs_ret (rd_b cs_tuple (rd_cons (rd_comp (ri_seq rd_var) (rg_tup (rg_cons rg_name (rg_cons rg_name (rg_cons rg_name rg_nil)))) rt_yes (rd_tup (rd_cons rd_var (rd_cons (rd_if (rt_b (rd_op os_ge rd_var rd_var)) rd_var rd_var) rd_nil)))) rd_nil)))⟩
  exact key
theorem ok_sure_takings (T : Tx B mg) : FnOk P w B.K mg base CX0 5 T.f_sure_takings T.d_sure_takings P_sure_takings (spD B 2 f_sure_takings) := by
  have G_need_both := ok_need_both (P := P) (w := w) (base := base) T
  have G_taken_of := ok_taken_of (P := P) (w := w) (base := base) T
  have G_worst_of := ok_worst_of (P := P) (w := w) (base := base) T
  have G_luckiest_of := ok_luckiest_of (P := P) (w := w) (base := base) T
  have key : FnOk P w B.K mg base CX0 5 T.f_sure_takings T.d_sure_takings P_sure_takings (spD B P_sure_takings.length (runD P_sure_takings.length N_sure_takings.length b_sure_takings)) := fn_ok (B := B) (W := []) (k := 4) (body := b_sure_takings) T.F_sure_takings sc_sure_takings (by rfl) fun cdv A outer s H E hr => ⟨_, (pss_cons (ps_expr (pe_call G_need_both (hr.mono (by decide)) (by rfl) T.m_need_both T.k_need_both T.b_need_both .nil pass0 (pa_cons (pv 0) (pa_cons (pv 1) pa_nil))))
      (pss_one (ps_ret (pe_tup (pa_cons (pe_call G_taken_of (hr.mono (by decide)) (by rfl) T.m_taken_of T.k_taken_of T.b_taken_of .nil pass0 (pa_cons (pe_call G_worst_of (hr.mono (by decide)) (by rfl) T.m_worst_of T.k_worst_of T.b_worst_of .nil pass0 (pa_cons (pv 0) (pa_cons (pv 1) pa_nil))) (pa_cons (pv 1) pa_nil))) (pa_cons (pe_call G_taken_of (hr.mono (by decide)) (by rfl) T.m_taken_of T.k_taken_of T.b_taken_of .nil pass0 (pa_cons (pe_call G_luckiest_of (hr.mono (by decide)) (by rfl) T.m_luckiest_of T.k_luckiest_of T.b_luckiest_of .nil pass0 (pa_cons (pv 0) (pa_cons (pv 1) pa_nil))) (pa_cons (pv 1) pa_nil))) pa_nil)))))),
    (rs_seq (rs_do (rd_call (rd_cons rd_var (rd_cons rd_var rd_nil))))
      (rs_ret (rd_tup (rd_cons (rd_call (rd_cons (rd_call (rd_cons rd_var (rd_cons rd_var rd_nil))) (rd_cons rd_var rd_nil))) (rd_cons (rd_call (rd_cons (rd_call (rd_cons rd_var (rd_cons rd_var rd_nil))) (rd_cons rd_var rd_nil))) rd_nil)))))⟩
  exact key
theorem ok__law_gcd (T : Tx B mg) : FnOk P w B.K mg base CX0 141 T.f__law_gcd T.d__law_gcd P__law_gcd (spD B 2 (gcdF 140)) := gcd_ok T.F__law_gcd sc__law_gcd rfl rfl (fun n t cdv A outer s H E hr h => by
  refine pss_one (ps_ret (pe_ifExp (pt_cmpR (op_eqD hr.units) (pv 1) pe_int (nomark _)) (pe_callB call_abs (by rfl) T.n_abs (by decide +kernel) (pa_cons (pv 0) pa_nil)) ?_))
  rcases h with ⟨_, rfl⟩ | ⟨k, rfl, G, rfl⟩
  · exact ⟨fun _ _ _ _ _ _ h => h.elim⟩
  · exact pe_call G hr (by rfl) T.m__law_gcd T.k__law_gcd T.b__law_gcd .nil pass0 (pa_cons (pv 1) (pa_cons (pe_op op_mod (pv 0) (pv 1)) pa_nil))) 140

theorem ok__law_is (T : Tx B mg) : FnOk P w B.K mg base CX0 142 T.f__law_is T.d__law_is P__law_is (spD B 3 f__law_is) := by
  have G__law_gcd := ok__law_gcd (P := P) (w := w) (base := base) T
  have key : FnOk P w B.K mg base CX0 142 T.f__law_is T.d__law_is P__law_is (spD B P__law_is.length (runD P__law_is.length N__law_is.length b__law_is)) := fn_ok (B := B) (W := []) (k := 141) (body := b__law_is) T.F__law_is sc__law_is (by rfl) fun cdv A outer s H E hr => ⟨_, (pss_cons (ps_if (PW.pt (pw_or (pt_not (pt_val (pe_callB call_isi (by rfl) T.n_isinstance (by decide +kernel) (pa_cons (pv 0) (pa_cons (pe_bltn (v := .ty "tuple") (by rfl) T.n_tuple (by decide +kernel) rfl) pa_nil))))) (pw_or (pt_cmpR (op_neD hr.units) (pe_callB call_len (by rfl) T.n_len (by decide +kernel) (pa_cons (pv 0) pa_nil)) pe_int (nomark _)) (pw_or (pt_val (pe_callB call_isi (by rfl) T.n_isinstance (by decide +kernel) (pa_cons (pe_ix ix_seq (pv 0) pe_int (fun _ _ => rfl)) (pa_cons (pe_bltn (v := .ty "bool") (by rfl) T.n_bool (by decide +kernel) rfl) pa_nil)))) (pw_or1 (pt_cmpR op_lt (pe_ix ix_seq (pv 0) pe_int (fun _ _ => rfl)) pe_int (nomark _))))))) (pss_one (ps_ret pe_bl)) pss_nil)
      (pss_one (ps_ret (pe_and (pe_cmpR (op_eqD hr.units) (pe_op op_mulU (pe_ix ix_seq (pv 0) pe_int (fun _ _ => rfl)) (pv 2)) (pe_op op_mulU (pv 1) (pe_ix ix_seq (pv 0) pe_int (fun _ _ => rfl))) (nomark _)) (pe_one (pe_cmpR (op_eqD hr.units) (pe_call G__law_gcd (hr.mono (by decide)) (by rfl) T.m__law_gcd T.k__law_gcd T.b__law_gcd .nil pass0 (pa_cons (pe_ix ix_seq (pv 0) pe_int (fun _ _ => rfl)) (pa_cons (pe_ix ix_seq (pv 0) pe_int (fun _ _ => rfl)) pa_nil))) pe_int (nomark _))))))),
    (rs_seq (rs_if (rt_or (rt_not (rt_b (rd_isi rd_var))) (rt_or (rt_b (rd_op os_ne (rd_b cs_len (rd_cons rd_var rd_nil)) rd_int)) (rt_or (rt_b (rd_isi (rd_op os_ix rd_var rd_int))) (rt_b (rd_op os_lt (rd_op os_ix rd_var rd_int) rd_int))))) (rs_ret rd_bl) rs_next)
      (rs_ret (rd_andV (rd_op os_eq (rd_op os_mul (rd_op os_ix rd_var rd_int) rd_var) (rd_op os_mul rd_var (rd_op os_ix rd_var rd_int))) (rd_op os_eq (rd_call (rd_cons (rd_op os_ix rd_var rd_int) (rd_cons (rd_op os_ix rd_var rd_int) rd_nil))) rd_int))))⟩
  exact key
theorem ok_least_ahead (T : Tx B mg) : FnOk P w B.K mg base CX0 1 T.f_least_ahead T.d_least_ahead P_least_ahead (spD B 3 f_least_ahead) := by
  have key : FnOk P w B.K mg base CX0 1 T.f_least_ahead T.d_least_ahead P_least_ahead (spD B P_least_ahead.length (runD P_least_ahead.length N_least_ahead.length b_least_ahead)) := fn_ok (B := B) (W := []) (k := 0) (body := b_least_ahead) T.F_least_ahead sc_least_ahead (by rfl) fun cdv A outer s H E hr => ⟨_, (pss_cons (ps_set (i := 3) sc_least_ahead.nd rfl (by first | exact Or.inl rfl | exact Or.inr rfl) pe_int)
      (pss_cons (ps_for PassesOwn.never rfl (pi_seq (pv 0)) (pg_tup rfl (pgs_cons (pg_name (i := 4) sc_least_ahead.nd rfl (by first | exact Or.inl rfl | exact Or.inr rfl)) (pgs_cons (pg_name (i := 5) sc_least_ahead.nd rfl (by first | exact Or.inl rfl | exact Or.inr rfl)) (pgs_cons (pg_name (i := 6) sc_least_ahead.nd rfl (by first | exact Or.inl rfl | exact Or.inr rfl)) pgs_nil)))) (pss_cons (ps_set (i := 7) sc_least_ahead.nd rfl (by first | exact Or.inl rfl | exact Or.inr rfl) (pe_op op_sub (pe_ifExp (pt_cmpR op_ge (pv 4) (pv 1) (nomark _)) (pv 1) pe_int) (pe_ifExp (pt_cmpR op_ge (pv 4) (pv 2) (nomark _)) (pv 2) pe_int)))
      (pss_one (ps_aug (i := 3) sc_least_ahead.nd rfl (by first | exact Or.inl rfl | exact Or.inr rfl) (pe_op op_mulU (pv 7) (pe_ifExp (pt_cmpR op_gt (pv 7) pe_int (nomark _)) (pv 5) (pv 6))) ip_add))))
      (pss_one (ps_ret (pv 3))))),
    (rs_seq (rs_set rd_int)
      (rs_seq (rs_for (ri_seq rd_var) (rg_tup (rg_cons rg_name (rg_cons rg_name (rg_cons rg_name rg_nil)))) (rs_seq (rs_set (rd_op os_dif (rd_if (rt_b (rd_op os_ge rd_var rd_var)) rd_var rd_int) (rd_if (rt_b (rd_op os_ge rd_var rd_var)) rd_var rd_int)))
      (rs_aug (rd_op os_mul rd_var (rd_if (rt_b (rd_op os_gt rd_var rd_int)) rd_var rd_var)))))
      (rs_ret rd_var)))⟩
  exact key
theorem ok_always_best (T : Tx B mg) : FnOk P w B.K mg base CX0 4 T.f_always_best T.d_always_best P_always_best (spD B 1 f_always_best) := by
  have G_need_spans := ok_need_spans (P := P) (w := w) (base := base) T
  have G_least_ahead := ok_least_ahead (P := P) (w := w) (base := base) T
  have key : FnOk P w B.K mg base CX0 4 T.f_always_best T.d_always_best P_always_best (spD B P_always_best.length (runD P_always_best.length N_always_best.length b_always_best)) := fn_ok (B := B) (W := []) (k := 3) (body := b_always_best) T.F_always_best sc_always_best (by rfl) fun cdv A outer s H E hr => ⟨_, (pss_cons (ps_expr (pe_call G_need_spans (hr.mono (by decide)) (by rfl) T.m_need_spans T.k_need_spans T.b_need_spans .nil pass0 (pa_cons (pv 0) pa_nil)))
      (pss_cons (ps_set (i := 1) sc_always_best.nd rfl (by first | exact Or.inl rfl | exact Or.inr rfl) (pe_lc (own := [("worth", 2), ("low", 3), ("high", 4)]) (by rfl) sc_always_best.nd (pi_seq (pv 0)) (blkOk_by (own := [("worth", 2), ("low", 3), ("high", 4)]) (N := N_always_best) (sc := defScope s_always_best) (by decide +kernel)) (fun _ _ _ _ _ => (pg_tup rfl (pgs_cons (pg_name (i := 2) sc_always_best.nd rfl (by first | exact Or.inl rfl | exact Or.inr rfl)) (pgs_cons (pg_name (i := 3) sc_always_best.nd rfl (by first | exact Or.inl rfl | exact Or.inr rfl)) (pgs_cons (pg_name (i := 4) sc_always_best.nd rfl (by first | exact Or.inl rfl | exact Or.inr rfl)) pgs_nil))))) (fun _ _ _ _ _ => pts_nil) (fun _ _ _ _ _ => (pv 2))))
      (pss_one (ps_ret (pe_lc (own := [("price", 5)]) (by rfl) sc_always_best.nd (pi_seq (pv 1)) (blkOk_by (own := [("price", 5)]) (N := N_always_best) (sc := defScope s_always_best) (by decide +kernel)) (fun _ _ _ _ _ => (pg_name (i := 5) sc_always_best.nd rfl (by first | exact Or.inl rfl | exact Or.inr rfl))) (fun _ _ _ _ _ => (pts_one (pt_val (pe_callB (cr_all rfl) (by rfl) T.n_all (by decide +kernel) (pa_cons (pe_lc (own := [("other", 6)]) (by rfl) sc_always_best.nd (pi_seq (pv 1)) (blkOk_by (own := [("other", 6)]) (N := N_always_best) (by rfl)) (fun _ _ _ _ _ => (pg_name (i := 6) sc_always_best.nd rfl (by first | exact Or.inl rfl | exact Or.inr rfl))) (fun _ _ _ _ _ => pts_nil) (fun _ _ _ _ _ => (pe_cmpR op_ge (pe_call G_least_ahead (hr.mono (by decide)) (by rfl) T.m_least_ahead T.k_least_ahead T.b_least_ahead .nil pass0 (pa_cons (pv 0) (pa_cons (pv 5) (pa_cons (pv 6) pa_nil)))) pe_int (nomark _)))) pa_nil))))) (fun _ _ _ _ _ => (pv 5))))))),
    (rs_seq (rs_do (rd_call (rd_cons rd_var rd_nil)))
      (rs_seq (rs_set (rd_comp (ri_seq rd_var) (rg_tup (rg_cons rg_name (rg_cons rg_name (rg_cons rg_name rg_nil)))) rt_yes rd_var))
      (rs_ret (rd_comp (ri_seq rd_var) rg_name (rt_b (rd_b cs_all (rd_cons (rd_comp (ri_seq rd_var) rg_name rt_yes (rd_op os_ge (rd_call (rd_cons rd_var (rd_cons rd_var (rd_cons rd_var rd_nil)))) rd_int)) rd_nil))) rd_var))))⟩
  exact key
theorem ok__law_taken_of (T : Tx B mg) : FnOk P w B.K mg base CX0 1 T.f__law_taken_of T.d__law_taken_of P__law_taken_of (spD B 2 f__law_taken_of) := by
  have key : FnOk P w B.K mg base CX0 1 T.f__law_taken_of T.d__law_taken_of P__law_taken_of (spD B P__law_taken_of.length (runD P__law_taken_of.length N__law_taken_of.length b__law_taken_of)) := fn_ok (B := B) (W := []) (k := 0) (body := b__law_taken_of) T.F__law_taken_of sc__law_taken_of (by rfl) fun cdv A outer s H E hr => ⟨_, (pss_cons (ps_set (i := 2) sc__law_taken_of.nd rfl (by first | exact Or.inl rfl | exact Or.inr rfl) (pe_callB (cr_sum rfl) (by rfl) T.n_sum (by decide +kernel) (pa_cons (pe_lc (own := [("_law_worth", 3), ("_law_weight", 4)]) (by rfl) sc__law_taken_of.nd (pi_seq (pv 0)) (blkOk_by (own := [("_law_worth", 3), ("_law_weight", 4)]) (N := N__law_taken_of) (sc := defScope s__law_taken_of) (by decide +kernel)) (fun _ _ _ _ _ => (pg_tup rfl (pgs_cons (pg_name (i := 3) sc__law_taken_of.nd rfl (by first | exact Or.inl rfl | exact Or.inr rfl)) (pgs_cons (pg_name (i := 4) sc__law_taken_of.nd rfl (by first | exact Or.inl rfl | exact Or.inr rfl)) pgs_nil)))) (fun _ _ _ _ _ => (pts_one (pt_cmpR op_ge (pv 3) (pv 1) (nomark _)))) (fun _ _ _ _ _ => (pv 4))) pa_nil)))
      (pss_one (ps_ret (pe_tup (pa_cons (pe_op op_mulU (pv 1) (pv 2)) (pa_cons (pe_callB (cr_sum rfl) (by rfl) T.n_sum (by decide +kernel) (pa_cons (pe_lc (own := [("_law_worth", 3), ("_law_weight", 4)]) (by rfl) sc__law_taken_of.nd (pi_seq (pv 0)) (blkOk_by (own := [("_law_worth", 3), ("_law_weight", 4)]) (N := N__law_taken_of) (sc := defScope s__law_taken_of) (by decide +kernel)) (fun _ _ _ _ _ => (pg_tup rfl (pgs_cons (pg_name (i := 3) sc__law_taken_of.nd rfl (by first | exact Or.inl rfl | exact Or.inr rfl)) (pgs_cons (pg_name (i := 4) sc__law_taken_of.nd rfl (by first | exact Or.inl rfl | exact Or.inr rfl)) pgs_nil)))) (fun _ _ _ _ _ => pts_nil) (fun _ _ _ _ _ => (pv 4))) pa_nil)) pa_nil)))))),
    (rs_seq (rs_set (rd_b cs_sum (rd_cons (rd_comp (ri_seq rd_var) (rg_tup (rg_cons rg_name (rg_cons rg_name rg_nil))) (rt_b (rd_op os_ge rd_var rd_var)) rd_var) rd_nil)))
      (rs_ret (rd_tup (rd_cons (rd_op os_mul rd_var rd_var) (rd_cons (rd_b cs_sum (rd_cons (rd_comp (ri_seq rd_var) (rg_tup (rg_cons rg_name (rg_cons rg_name rg_nil))) rt_yes rd_var) rd_nil)) rd_nil)))))⟩
  exact key
theorem ok__law_same (T : Tx B mg) : FnOk P w B.K mg base CX0 3 T.f__law_same T.d__law_same P__law_same (spD B 3 f__law_same) := by
  have G__law_ends := ok__law_ends (P := P) (w := w) (base := base) T
  have G__law_taken_of := ok__law_taken_of (P := P) (w := w) (base := base) T
  have key : FnOk P w B.K mg base CX0 3 T.f__law_same T.d__law_same P__law_same (spD B P__law_same.length (runD P__law_same.length N__law_same.length b__law_same)) := fn_ok (B := B) (W := []) (k := 2) (body := b__law_same) T.F__law_same sc__law_same (by rfl) fun cdv A outer s H E hr => ⟨_, (pss_cons (ps_set (i := 3) sc__law_same.nd rfl (by first | exact Or.inl rfl | exact Or.inr rfl) (pe_ix ix_seq (pe_call G__law_ends (hr.mono (by decide)) (by rfl) T.m__law_ends T.k__law_ends T.b__law_ends .nil pass0 (pa_cons (pe_lc (own := [("_law_buyer", 4)]) (by rfl) sc__law_same.nd (pi_seq (pv 2)) (blkOk_by (own := [("_law_buyer", 4)]) (N := N__law_same) (sc := defScope s__law_same) (by decide +kernel)) (fun _ _ _ _ _ => (pg_name (i := 4) sc__law_same.nd rfl (by first | exact Or.inl rfl | exact Or.inr rfl))) (fun _ _ _ _ _ => pts_nil) (fun _ _ _ _ _ => (pe_call G__law_taken_of (hr.mono (by decide)) (by rfl) T.m__law_taken_of T.k__law_taken_of T.b__law_taken_of .nil pass0 (pa_cons (pv 4) (pa_cons (pv 1) pa_nil))))) pa_nil)) pe_int (fun _ _ => rfl)))
      (pss_one (ps_ret (pe_cmpR (op_eqD hr.units) (pe_op op_mulU (pe_ix ix_seq (pv 3) pe_int (fun _ _ => rfl)) (pe_ix ix_seq (pv 0) pe_int (fun _ _ => rfl))) (pe_op op_mulU (pe_ix ix_seq (pv 0) pe_int (fun _ _ => rfl)) (pe_ix ix_seq (pv 3) pe_int (fun _ _ => rfl))) (nomark _))))),
    (rs_seq (rs_set (rd_op os_ix (rd_call (rd_cons (rd_comp (ri_seq rd_var) rg_name rt_yes (rd_call (rd_cons rd_var (rd_cons rd_var rd_nil)))) rd_nil)) rd_int))
      (rs_ret (rd_op os_eq (rd_op os_mul (rd_op os_ix rd_var rd_int) (rd_op os_ix rd_var rd_int)) (rd_op os_mul (rd_op os_ix rd_var rd_int) (rd_op os_ix rd_var rd_int)))))⟩
  exact key
theorem ok_law (T : Tx B mg) (hl : ∀ ns : List Int, ns.length ≤ 63 → ∃ s', b_law (lawEn N_law.length) ⟨ns, 0, 627, 0⟩ = .ok (.ret (.bl true)) s') : FnOk P w B.K mg base CX0 143 T.f_law T.d_law P_law (spLaw B.K) := by
  have G__law_spans := ok__law_spans (P := P) (w := w) (base := base) T
  have G_sure_price := ok_sure_price (P := P) (w := w) (base := base) T
  have G__law_corners := ok__law_corners (P := P) (w := w) (base := base) T
  have G__law_ends := ok__law_ends (P := P) (w := w) (base := base) T
  have G_sure_takings := ok_sure_takings (P := P) (w := w) (base := base) T
  have G__law_is := ok__law_is (P := P) (w := w) (base := base) T
  have G_always_best := ok_always_best (P := P) (w := w) (base := base) T
  have G__law_taken := ok__law_taken (P := P) (w := w) (base := base) T
  have G__law_taken_of := ok__law_taken_of (P := P) (w := w) (base := base) T
  have G__law_less := ok__law_less (P := P) (w := w) (base := base) T
  have G__law_same := ok__law_same (P := P) (w := w) (base := base) T
  exact law_ok (B := B) (W := []) (k := 142) (seed := 627) (body := b_law) T.F_law sc_law (by decide) rfl (by decide) (fun cdv A outer s H E hr => ⟨_, pss_cons (ps_set (i := 1) sc_law.nd rfl (by first | exact Or.inl rfl | exact Or.inr rfl) (pe_lst (pa_cons (pv 0) (pa_cons pe_int (pa_cons pe_int (pa_cons pe_int pa_nil))))))
      (pss_cons (ps_for PassesOwn.never rfl (pi_range1 (by rfl) T.n_range (pa_cons pe_int pa_nil)) (pg_name (i := 2) sc_law.nd rfl (by first | exact Or.inl rfl | exact Or.inr rfl)) (pss_cons (ps_set (i := 3) sc_law.nd rfl (by first | exact Or.inl rfl | exact Or.inr rfl) (pe_call G__law_spans (hr.mono (by decide)) (by rfl) T.m__law_spans T.k__law_spans T.b__law_spans .nil pass0 (pa_cons (pv 1) (pa_cons (pe_ix ix_seq (pe_lst (pa_cons pe_int (pa_cons pe_int (pa_cons (pe_op op_pow pe_int pe_int) pa_nil)))) (pe_call G__law_taken (hr.mono (by decide)) (by rfl) T.m__law_taken T.k__law_taken T.b__law_taken .nil pass0 (pa_cons (pv 1) (pa_cons pe_int pa_nil))) (fun _ _ => rfl)) pa_nil))))
      (pss_cons (ps_asg (pe_tup (pa_cons (pe_call G__law_corners (hr.mono (by decide)) (by rfl) T.m__law_corners T.k__law_corners T.b__law_corners .nil pass0 (pa_cons (pv 3) pa_nil)) (pa_cons (pe_lc (own := [("_law_worth", 6), ("_law_low", 7), ("_law_high", 8)]) (by rfl) sc_law.nd (pi_seq (pv 3)) (blkOk_by (own := [("_law_worth", 6), ("_law_low", 7), ("_law_high", 8)]) (N := N_law) (sc := defScope s_law) (by decide +kernel)) (fun _ _ _ _ _ => (pg_tup rfl (pgs_cons (pg_name (i := 6) sc_law.nd rfl (by first | exact Or.inl rfl | exact Or.inr rfl)) (pgs_cons (pg_name (i := 7) sc_law.nd rfl (by first | exact Or.inl rfl | exact Or.inr rfl)) (pgs_cons (pg_name (i := 8) sc_law.nd rfl (by first | exact Or.inl rfl | exact Or.inr rfl)) pgs_nil))))) (fun _ _ _ _ _ => pts_nil) (fun _ _ _ _ _ => (pv 6))) pa_nil))) (pg_tup rfl (pgs_cons (pg_name (i := 4) sc_law.nd rfl (by first | exact Or.inl rfl | exact Or.inr rfl)) (pgs_cons (pg_name (i := 5) sc_law.nd rfl (by first | exact Or.inl rfl | exact Or.inr rfl)) pgs_nil))))
      (pss_cons (ps_set (i := 9) sc_law.nd rfl (by first | exact Or.inl rfl | exact Or.inr rfl) (pe_op op_addU (pv 5) (pe_lst (pa_cons (pe_call G__law_taken (hr.mono (by decide)) (by rfl) T.m__law_taken T.k__law_taken T.b__law_taken .nil pass0 (pa_cons (pv 1) (pa_cons (pe_op op_addU (pe_ix ix_seq (pv 5) (pe_un un_neg pe_int) (fun _ _ => rfl)) pe_int) pa_nil))) (pa_cons (pe_call G__law_taken (hr.mono (by decide)) (by rfl) T.m__law_taken T.k__law_taken T.b__law_taken .nil pass0 (pa_cons (pv 1) (pa_cons (pe_op op_addU (pe_op op_pow pe_int pe_int) pe_int) pa_nil))) pa_nil)))))
      (pss_cons (ps_set (i := 10) sc_law.nd rfl (by first | exact Or.inl rfl | exact Or.inr rfl) pe_non)
      (pss_cons (ps_for PassesOwn.never rfl (pi_seq (pv 9)) (pg_name (i := 11) sc_law.nd rfl (by first | exact Or.inl rfl | exact Or.inr rfl)) (pss_cons (ps_asg (pe_call G__law_ends (hr.mono (by decide)) (by rfl) T.m__law_ends T.k__law_ends T.b__law_ends .nil pass0 (pa_cons (pe_lc (own := [("_law_buyer", 14)]) (by rfl) sc_law.nd (pi_seq (pv 4)) (blkOk_by (own := [("_law_buyer", 14)]) (N := N_law) (sc := defScope s_law) (by decide +kernel)) (fun _ _ _ _ _ => (pg_name (i := 14) sc_law.nd rfl (by first | exact Or.inl rfl | exact Or.inr rfl))) (fun _ _ _ _ _ => pts_nil) (fun _ _ _ _ _ => (pe_call G__law_taken_of (hr.mono (by decide)) (by rfl) T.m__law_taken_of T.k__law_taken_of T.b__law_taken_of .nil pass0 (pa_cons (pv 14) (pa_cons (pv 11) pa_nil))))) pa_nil)) (pg_tup rfl (pgs_cons (pg_name (i := 12) sc_law.nd rfl (by first | exact Or.inl rfl | exact Or.inr rfl)) (pgs_cons (pg_name (i := 13) sc_law.nd rfl (by first | exact Or.inl rfl | exact Or.inr rfl)) pgs_nil))))
      (pss_cons (ps_set (i := 15) sc_law.nd rfl (by first | exact Or.inl rfl | exact Or.inr rfl) (pe_call G_sure_takings (hr.mono (by decide)) (by rfl) T.m_sure_takings T.k_sure_takings T.b_sure_takings .nil pass0 (pa_cons (pv 3) (pa_cons (pv 11) pa_nil))))
      (pss_cons (ps_if (PW.pt (pw_or (pt_not (pt_val (pe_call G__law_is (hr.mono (by decide)) (by rfl) T.m__law_is T.k__law_is T.b__law_is .nil pass0 (pa_cons (pe_ix ix_seq (pv 15) pe_int (fun _ _ => rfl)) (pa_cons (pe_ix ix_seq (pv 12) pe_int (fun _ _ => rfl)) (pa_cons (pe_ix ix_seq (pv 12) pe_int (fun _ _ => rfl)) pa_nil)))))) (pw_or1 (pt_not (pt_val (pe_call G__law_is (hr.mono (by decide)) (by rfl) T.m__law_is T.k__law_is T.b__law_is .nil pass0 (pa_cons (pe_ix ix_seq (pv 15) pe_int (fun _ _ => rfl)) (pa_cons (pe_ix ix_seq (pv 13) pe_int (fun _ _ => rfl)) (pa_cons (pe_ix ix_seq (pv 13) pe_int (fun _ _ => rfl)) pa_nil))))))))) (pss_one (ps_ret pe_bl)) pss_nil)
      (pss_one (ps_if (PW.pt (pw_and (pt_cmpR op_in_seq (pv 11) (pv 5) (by rfl)) (pw_and1 (PW.pt (pw_or (pt_cmpR op_isN (pv 10) pe_non (nomark _)) (pw_or1 (pt_val (pe_call G__law_less (hr.mono (by decide)) (by rfl) T.m__law_less T.k__law_less T.b__law_less .nil pass0 (pa_cons (pe_ix ix_seq (pv 10) pe_int (fun _ _ => rfl)) (pa_cons (pv 12) pa_nil)))))))))) (pss_one (ps_set (i := 10) sc_law.nd rfl (by first | exact Or.inl rfl | exact Or.inr rfl) (pe_tup (pa_cons (pv 11) (pa_cons (pv 12) pa_nil))))) pss_nil))))))
      (pss_cons (ps_set (i := 15) sc_law.nd rfl (by first | exact Or.inl rfl | exact Or.inr rfl) (pe_call G_sure_price (hr.mono (by decide)) (by rfl) T.m_sure_price T.k_sure_price T.b_sure_price .nil pass0 (pa_cons (pv 3) pa_nil)))
      (pss_cons (ps_if (pt_cmpR (op_neD hr.units) (pe_ix ix_seq (pv 15) pe_int (fun _ _ => rfl)) (pe_ix ix_seq (pv 5) (pe_bm PySem.F.plainAttrs_list PySem.F.slot_list_index PySem.F.type_list_index mt_index (pe_lc (own := [("_law_worth", 6)]) (by rfl) sc_law.nd (pi_seq (pv 5)) (blkOk_by (own := [("_law_worth", 6)]) (N := N_law) (sc := defScope s_law) (by decide +kernel)) (fun _ _ _ _ _ => (pg_name (i := 6) sc_law.nd rfl (by first | exact Or.inl rfl | exact Or.inr rfl))) (fun _ _ _ _ _ => pts_nil) (fun _ _ _ _ _ => (pe_call G__law_same (hr.mono (by decide)) (by rfl) T.m__law_same T.k__law_same T.b__law_same .nil pass0 (pa_cons (pe_ix ix_seq (pv 10) pe_int (fun _ _ => rfl)) (pa_cons (pv 6) (pa_cons (pv 4) pa_nil)))))) (pa_cons pe_bl pa_nil)) (fun _ _ => rfl)) (nomark _)) (pss_one (ps_ret pe_bl)) pss_nil)
      (pss_cons (ps_if (pt_not (pt_val (pe_call G__law_is (hr.mono (by decide)) (by rfl) T.m__law_is T.k__law_is T.b__law_is .nil pass0 (pa_cons (pe_ix ix_seq (pv 15) pe_int (fun _ _ => rfl)) (pa_cons (pe_ix ix_seq (pe_ix ix_seq (pv 10) pe_int (fun _ _ => rfl)) pe_int (fun _ _ => rfl)) (pa_cons (pe_ix ix_seq (pe_ix ix_seq (pv 10) pe_int (fun _ _ => rfl)) pe_int (fun _ _ => rfl)) pa_nil)))))) (pss_one (ps_ret pe_bl)) pss_nil)
      (pss_cons (ps_set (i := 16) sc_law.nd rfl (by first | exact Or.inl rfl | exact Or.inr rfl) (pe_lst pa_nil))
      (pss_cons (ps_for PassesOwn.never rfl (pi_seq (pv 5)) (pg_name (i := 11) sc_law.nd rfl (by first | exact Or.inl rfl | exact Or.inr rfl)) (pss_cons (ps_set (i := 17) sc_law.nd rfl (by first | exact Or.inl rfl | exact Or.inr rfl) pe_bl)
      (pss_cons (ps_for PassesOwn.never rfl (pi_seq (pv 4)) (pg_name (i := 14) sc_law.nd rfl (by first | exact Or.inl rfl | exact Or.inr rfl)) (pss_cons (ps_set (i := 18) sc_law.nd rfl (by first | exact Or.inl rfl | exact Or.inr rfl) (pe_call G__law_taken_of (hr.mono (by decide)) (by rfl) T.m__law_taken_of T.k__law_taken_of T.b__law_taken_of .nil pass0 (pa_cons (pv 14) (pa_cons (pv 11) pa_nil))))
      (pss_one (ps_set (i := 17) sc_law.nd rfl (by first | exact Or.inl rfl | exact Or.inr rfl) (pe_and (pv 17) (pe_one (pe_not (pe_callB (cr_any rfl) (by rfl) T.n_any (by decide +kernel) (pa_cons (pe_lc (own := [("_law_other", 19)]) (by rfl) sc_law.nd (pi_seq (pv 5)) (blkOk_by (own := [("_law_other", 19)]) (N := N_law) (sc := defScope s_law) (by decide +kernel)) (fun _ _ _ _ _ => (pg_name (i := 19) sc_law.nd rfl (by first | exact Or.inl rfl | exact Or.inr rfl))) (fun _ _ _ _ _ => pts_nil) (fun _ _ _ _ _ => (pe_call G__law_less (hr.mono (by decide)) (by rfl) T.m__law_less T.k__law_less T.b__law_less .nil pass0 (pa_cons (pv 18) (pa_cons (pe_call G__law_taken_of (hr.mono (by decide)) (by rfl) T.m__law_taken_of T.k__law_taken_of T.b__law_taken_of .nil pass0 (pa_cons (pv 14) (pa_cons (pv 19) pa_nil))) pa_nil))))) pa_nil)))))))))
      (pss_one (ps_set (i := 16) sc_law.nd rfl (by first | exact Or.inl rfl | exact Or.inr rfl) (pe_ifExp (pt_val (pv 17)) (pe_op op_addU (pv 16) (pe_lst (pa_cons (pv 11) pa_nil))) (pv 16)))))))
      (pss_one (ps_if (pt_cmpR (op_neD hr.units) (pe_call G_always_best (hr.mono (by decide)) (by rfl) T.m_always_best T.k_always_best T.b_always_best .nil pass0 (pa_cons (pv 3) pa_nil)) (pv 16) (nomark _)) (pss_one (ps_ret pe_bl)) pss_nil)))))))))))))
      (pss_one (ps_ret pe_bl))),
    (rs_seq (rs_for (ri_r1 (rd_cons rd_int rd_nil)) rg_name (rs_seq (rs_set (rd_call (rd_cons rd_var (rd_cons (rd_op os_ix (rd_lst (rd_cons rd_int (rd_cons rd_int (rd_cons (rd_op os_pow rd_int rd_int) rd_nil)))) (rd_call (rd_cons rd_var (rd_cons rd_int rd_nil)))) rd_nil))))
      (rs_seq (rs_parT (is := [4, 5]) (rps_cons (rp_v (rd_call (rd_cons rd_var rd_nil))) (rps_cons (rp_v (rd_comp (ri_seq rd_var) (rg_tup (rg_cons rg_name (rg_cons rg_name (rg_cons rg_name rg_nil)))) rt_yes rd_var)) rps_nil)))
      (rs_seq (rs_set (rd_op os_add rd_var (rd_lst (rd_cons (rd_call (rd_cons rd_var (rd_cons (rd_op os_add (rd_op os_ix rd_var (rd_un us_neg rd_int)) rd_int) rd_nil))) (rd_cons (rd_call (rd_cons rd_var (rd_cons (rd_op os_add (rd_op os_pow rd_int rd_int) rd_int) rd_nil))) rd_nil)))))
      (rs_seq (rs_set rd_non)
      (rs_seq (rs_for (ri_seq rd_var) rg_name (rs_seq (rs_asg (rd_call (rd_cons (rd_comp (ri_seq rd_var) rg_name rt_yes (rd_call (rd_cons rd_var (rd_cons rd_var rd_nil)))) rd_nil)) (rg_tup (rg_cons rg_name (rg_cons rg_name rg_nil))))
      (rs_seq (rs_set (rd_call (rd_cons rd_var (rd_cons rd_var rd_nil))))
      (rs_seq (rs_if (rt_or (rt_not (rt_b (rd_call (rd_cons (rd_op os_ix rd_var rd_int) (rd_cons (rd_op os_ix rd_var rd_int) (rd_cons (rd_op os_ix rd_var rd_int) rd_nil)))))) (rt_not (rt_b (rd_call (rd_cons (rd_op os_ix rd_var rd_int) (rd_cons (rd_op os_ix rd_var rd_int) (rd_cons (rd_op os_ix rd_var rd_int) rd_nil))))))) (rs_ret rd_bl) rs_next)
      (rs_if (rt_and (rt_b (rd_op os_in rd_var rd_var)) (rt_or (rt_b (rd_op os_isN rd_var rd_non)) (rt_b (rd_call (rd_cons (rd_op os_ix rd_var rd_int) (rd_cons rd_var rd_nil)))))) (rs_set (rd_tup (rd_cons rd_var (rd_cons rd_var rd_nil)))) rs_next)))))
      (rs_seq (rs_set (rd_call (rd_cons rd_var rd_nil)))
      (rs_seq (rs_if (rt_b (rd_op os_ne (rd_op os_ix rd_var rd_int) (rd_op os_ix rd_var (rd_index' (rd_comp (ri_seq rd_var) rg_name rt_yes (rd_call (rd_cons (rd_op os_ix rd_var rd_int) (rd_cons rd_var (rd_cons rd_var rd_nil))))) (rd_cons rd_bl rd_nil))))) (rs_ret rd_bl) rs_next)
      (rs_seq (rs_if (rt_not (rt_b (rd_call (rd_cons (rd_op os_ix rd_var rd_int) (rd_cons (rd_op os_ix (rd_op os_ix rd_var rd_int) rd_int) (rd_cons (rd_op os_ix (rd_op os_ix rd_var rd_int) rd_int) rd_nil)))))) (rs_ret rd_bl) rs_next)
      (rs_seq (rs_set (rd_lst rd_nil))
      (rs_seq (rs_for (ri_seq rd_var) rg_name (rs_seq (rs_set rd_bl)
      (rs_seq (rs_for (ri_seq rd_var) rg_name (rs_seq (rs_set (rd_call (rd_cons rd_var (rd_cons rd_var rd_nil))))
      (rs_set (rd_andV rd_var (rd_notV (rd_b cs_any (rd_cons (rd_comp (ri_seq rd_var) rg_name rt_yes (rd_call (rd_cons rd_var (rd_cons (rd_call (rd_cons rd_var (rd_cons rd_var rd_nil))) rd_nil)))) rd_nil)))))))
      (rs_set (rd_if (rt_b rd_var) (rd_op os_add rd_var (rd_lst (rd_cons rd_var rd_nil))) rd_var)))))
      (rs_if (rt_b (rd_op os_ne (rd_call (rd_cons rd_var rd_nil)) rd_var)) (rs_ret rd_bl) rs_next))))))))))))
      (rs_ret rd_bl))⟩) hl
end
theorem common_w (n : Nat) : ∀ (a b : D) (g l : Int) (s : S), 0 ≤ g → 0 ≤ l → l < n → whileN (cTst (cOp gGt (cVar 3) (cC (.int 0)))) (cPar (pCons [] 2 (cV (cVar 3)) (pCons [] 3 (cV (cOp gMod (cVar 2) (cVar 3))) pNil))) n [some a, some b, some (.int g), some (.int l)] s
    = .ok (.next [some a, some b, some (.int (Int.gcd g l)), some (.int 0)]) s := by
  induction n with
  | zero => intro a b g l s _ _ h; omega
  | succ n ih =>
    intro a b g l s hg h0 h
    by_cases hl : 0 < l
    · have e : gMod (.int g) (.int l) = some (.int (g % l)) := g_mod hl
      simp only [whileN, e_tst, e_op, e_var, e_c, e_par, e_pcons, e_pnil, e_cV, pc_v, List.getElem?_cons_succ, List.getElem?_cons_zero, Option.join_some, lift_some, bind_ok, g_gt, g_asB, decide_eq_true hl, if_true, e, List.not_mem_nil, if_false, List.set_cons_succ, List.set_cons_zero]
      rw [ih a b l (g % l) s (by omega) (Int.emod_nonneg _ (by omega)) (by have := Int.emod_lt_of_pos g hl; omega), gcd_em]
    · have : l = 0 := by omega
      subst this
      simp [whileN]
      omega
theorem common_is {a b : Int} (s : S) : f_common [.int a, .int b] s = .ok (.int (Int.gcd a b)) s := by
  rw [u_common]
  unfold b_common
  have := common_w (b.natAbs + 1) (.int a) (.int b) (a.natAbs : Int) (b.natAbs : Int) s (by omega) (by omega) (by omega)
  simp [fuelI]
  rw [this]
  simp [Int.gcd]
theorem made_is {a b : Int} (s : S) (hb : 0 < b) (hz : Bd 8000 b) : f_made [.int a, .int b] s = .ok (frD (Rat.divInt a b)) s := by
  have hg : 0 < (Int.gcd a b : Int) := by
    have := Int.gcd_pos_of_ne_zero_right a (show b ≠ 0 by omega)
    omega
  have hle : (Int.gcd a b : Int) ≤ b := by
    have := Int.gcd_dvd_right a b
    exact Int.le_of_dvd hb this
  have hgz : Bd 8000 (Int.gcd a b : Int) := by unfold Bd at *; omega
  rw [u_made]
  unfold b_made
  simp [common_is, g_fdiv hg hgz (show 8000 < 9000 by decide), frD, q_num hb, q_den hb]

/-! ### spans -/
abbrev S3 := Int × Int × Int
abbrev P2 := Int × Int
def encS (x : S3) : D := .tup [.int x.1, .int x.2.1, .int x.2.2]
def encB (x : P2) : D := .tup [.int x.1, .int x.2]
def spD' (xs : List S3) : D := .tup (xs.map encS)
def buD (xs : List P2) : D := .tup (xs.map encB)
structure VS (xs : List S3) : Prop where
  len1 : 1 ≤ xs.length
  len5 : xs.length ≤ 5
  ok : ∀ x ∈ xs, 0 ≤ x.1 ∧ x.1 ≤ 1000000000 ∧ 1 ≤ x.2.1 ∧ x.2.1 ≤ x.2.2 ∧ x.2.2 ≤ 1000000000
  up : xs.Pairwise fun a b => a.1 < b.1
theorem is_from_is (v lo hi : Int) (s : S) : f_is_from [.int v, .int lo, .int hi] s = .ok (.bl (decide (lo ≤ v ∧ v ≤ hi))) s := by
  rw [u_is_from]; unfold b_is_from
  by_cases h : lo ≤ v <;> simp [h]
theorem is_price_is (v : Int) (s : S) : f_is_price [.int v] s = .ok (.bl (decide (0 ≤ v ∧ v ≤ 1000000000))) s := by
  rw [u_is_price]; unfold b_is_price
  simp [is_from_is]
theorem is_span_is {x : S3} (s : S) (h : 0 ≤ x.1 ∧ x.1 ≤ 1000000000 ∧ 1 ≤ x.2.1 ∧ x.2.1 ≤ x.2.2 ∧ x.2.2 ≤ 1000000000) : f_is_span [encS x] s = .ok (.bl true) s := by
  rw [u_is_span]; unfold b_is_span encS
  have e1 : (decide (0 ≤ x.1 ∧ x.1 ≤ 1000000000)) = true := by simp; omega
  have e2 : (decide (1 ≤ x.2.2 ∧ x.2.2 ≤ 1000000000)) = true := by simp; omega
  have e3 : (decide (1 ≤ x.2.1 ∧ x.2.1 ≤ x.2.2)) = true := by simp; omega
  simp [is_from_is, e1, e2, e3]

theorem need_spans_is {xs : List S3} (v : VS xs) (s : S) : f_need_spans [spD' xs] s = .ok .non s := by
  have l1 := v.len1
  have l5 := v.len5
  have hr : gR1 [.int ((xs.length : Int) - 1)] = some (upto 0 (xs.length - 1)) := by
    rw [show (xs.length : Int) - 1 = ((xs.length - 1 : Nat) : Int) by omega]
    exact g_r1 _ (by omega)
  have d1 : (1 : Int) ≤ xs.length := by omega
  have d5 : (xs.length : Int) ≤ 5 := by omega
  rw [u_need_spans]; unfold b_need_spans spD'
  simp [d1, d5, show xs.length ≤ 100000 by omega]
  rw [comp_map (xs := xs) (enc := encS) (e := fun _ => .bl true)]
  · simp [hr, show xs.length - 1 ≤ 100000 by omega]
    rw [upto0, comp_map (e := fun _ => .bl true)]
    · simp
    · intro i hi
      refine ⟨_, rfl, fun s => ?_⟩
      have hi : i < xs.length - 1 := List.mem_range.mp hi
      have e1 : xs[i]? = some xs[i] := List.getElem?_eq_getElem (by omega)
      have e2 : xs[i + 1]? = some xs[i + 1] := List.getElem?_eq_getElem (by omega)
      have hlt := List.pairwise_iff_getElem.mp v.up i (i + 1) (by omega) (by omega) (by omega)
      have a1 : atI (xs.map encS) (i : Int) = some (encS xs[i]) := by rw [at_nat, List.getElem?_map, e1]; rfl
      have a2 : atI (xs.map encS) ((i : Int) + 1) = some (encS xs[i + 1]) := by
        rw [show (i : Int) + 1 = ((i + 1 : Nat) : Int) by omega, at_nat, List.getElem?_map, e2]; rfl
      simp [a1, a2, encS, hlt, -at_nat]
  · intro x hx
    exact ⟨_, rfl, fun s => by simp [is_span_is s (v.ok x hx)]⟩
def lowB (xs : List S3) (p : Int) : List P2 := xs.map fun x => (x.1, if p ≤ x.1 then x.2.1 else x.2.2)
def highB (xs : List S3) (p : Int) : List P2 := xs.map fun x => (x.1, if p ≤ x.1 then x.2.2 else x.2.1)
theorem worst_is {xs : List S3} (hl : xs.length ≤ 5) (p : Int) (s : S) : f_worst_of [spD' xs, .int p] s = .ok (buD (lowB xs p)) s := by
  rw [u_worst_of]; unfold b_worst_of spD'
  simp [show xs.length ≤ 100000 by omega]
  rw [comp_map (e := fun x => encB (x.1, if p ≤ x.1 then x.2.1 else x.2.2))]
  · simp [buD, lowB]
  · intro x hx
    exact ⟨_, rfl, fun s => by by_cases h : p ≤ x.1 <;> simp [h, encB]⟩
theorem lucky_is {xs : List S3} (hl : xs.length ≤ 5) (p : Int) (s : S) : f_luckiest_of [spD' xs, .int p] s = .ok (buD (highB xs p)) s := by
  rw [u_luckiest_of]; unfold b_luckiest_of spD'
  simp [show xs.length ≤ 100000 by omega]
  rw [comp_map (e := fun x => encB (x.1, if p ≤ x.1 then x.2.2 else x.2.1))]
  · simp [buD, highB]
  · intro x hx
    exact ⟨_, rfl, fun s => by by_cases h : p ≤ x.1 <;> simp [h, encB]⟩
/-- those who buy, all -/
def buys (ys : List P2) (p : Int) : Int := ((ys.filter fun y => decide (p ≤ y.1)).map (·.2)).sum
def tot (ys : List P2) : Int := (ys.map (·.2)).sum
structure VB (ys : List P2) : Prop where
  len1 : 1 ≤ ys.length
  len5 : ys.length ≤ 5
  ok : ∀ y ∈ ys, 0 ≤ y.1 ∧ y.1 ≤ 1000000000 ∧ 1 ≤ y.2 ∧ y.2 ≤ 1000000000
theorem sum_bd : ∀ (ys : List P2), (∀ y ∈ ys, 1 ≤ y.2 ∧ y.2 ≤ 1000000000) → (ys.length : Int) ≤ tot ys ∧ tot ys ≤ 1000000000 * ys.length
  | [], _ => by simp [tot]
  | y :: ys, h => by
    have ih := sum_bd ys fun z hz => h z (by simp [hz])
    have := h y (by simp)
    unfold tot at *
    simp; omega
theorem buys_bd (ys : List P2) (p : Int) (h : ∀ y ∈ ys, 1 ≤ y.2 ∧ y.2 ≤ 1000000000) : 0 ≤ buys ys p ∧ buys ys p ≤ tot ys := by
  unfold buys tot
  induction ys with
  | nil => simp
  | cons y ys ih =>
    have ih := ih fun z hz => h z (by simp [hz])
    have := h y (by simp)
    by_cases c : p ≤ y.1 <;> simp [List.filter_cons, c] <;> omega
theorem VB.tot {ys : List P2} (v : VB ys) : 1 ≤ tot ys ∧ tot ys ≤ 5000000000 := by
  have := sum_bd ys fun y hy => (v.ok y hy).2.2
  have := v.len1; have := v.len5
  omega
theorem bd_of {x : Int} (h : -(2 ^ 40) < x ∧ x < 2 ^ 40) : Bd 40 x := by unfold Bd; omega
theorem taken_is {ys : List P2} (v : VB ys) {p : Int} (hp : 0 ≤ p ∧ p ≤ 1000000001) (s : S) : f_taken_of [buD ys, .int p] s = .ok (frD (Rat.divInt (p * buys ys p) (tot ys))) s := by
  have l5 := v.len5
  have t := v.tot
  have b := buys_bd ys p fun y hy => (v.ok y hy).2.2
  have m1 : gMul (.int p) (.int (buys ys p)) = some (.int (p * buys ys p)) := g_mul (bd_of (by omega)) (bd_of (by omega)) (by decide)
  have m2 := made_is (a := p * buys ys p) (b := tot ys) s (by omega) ((bd_of (by omega)).mono (by decide))
  have hb : (List.map Prod.snd (List.filter (fun (y : P2) => decide (p ≤ y.fst)) ys)).sum = buys ys p := rfl
  have ht : (List.map Prod.snd ys).sum = tot ys := rfl
  rw [u_taken_of]; unfold b_taken_of buD
  simp [show ys.length ≤ 100000 by omega]
  rw [comp_pure (p := fun (y : P2) => decide (p ≤ y.1)) (e := fun (y : P2) => .int y.2)]
  · simp [show ys.length ≤ 100000 by omega, hb, m1]
    rw [comp_map (e := fun (y : P2) => .int y.2)]
    · simp [ht, m2]
    · intro x hx
      exact ⟨_, rfl, fun s => by simp⟩
  · intro x hx
    exact ⟨_, rfl, fun s => by simp, fun _ s => by simp⟩
theorem low_VB {xs : List S3} (v : VS xs) (p : Int) : VB (lowB xs p) := ⟨by simp [lowB, v.len1], by simp [lowB, v.len5], fun y hy => by
  obtain ⟨x, hx, rfl⟩ := List.mem_map.mp hy
  have := v.ok x hx
  dsimp only
  split <;> omega⟩
theorem high_VB {xs : List S3} (v : VS xs) (p : Int) : VB (highB xs p) := ⟨by simp [highB, v.len1], by simp [highB, v.len5], fun y hy => by
  obtain ⟨x, hx, rfl⟩ := List.mem_map.mp hy
  have := v.ok x hx
  dsimp only
  split <;> omega⟩
/-- what a price takes of a buyer -/
def val (ys : List P2) (p : Int) : Rat := Rat.divInt (p * buys ys p) (tot ys)
theorem sure_takings_is {xs : List S3} (v : VS xs) {p : Int} (hp : 0 ≤ p ∧ p ≤ 1000000000) (s : S) : f_sure_takings [spD' xs, .int p] s = .ok (.tup [frD (val (lowB xs p) p), frD (val (highB xs p) p)]) s := by
  have h1 := taken_is (low_VB v p) (p := p) (by omega)
  have h2 := taken_is (high_VB v p) (p := p) (by omega)
  have nb : f_need_both [spD' xs, .int p] s = .ok .non s := by
    rw [u_need_both]; unfold b_need_both
    simp [need_spans_is v, is_price_is, hp]
  rw [u_sure_takings]; unfold b_sure_takings
  simp [nb, worst_is v.len5, lucky_is v.len5, h1, h2, val]
theorem is_less_is {p q : Rat} (s : S) (h1 : Bd 400000 p.num) (h2 : Bd 400000 p.den) (h3 : Bd 400000 q.num) (h4 : Bd 400000 q.den) : f_is_less [frD p, frD q] s = .ok (.bl (decide (p < q))) s := by
  rw [u_is_less]; unfold b_is_less frD
  have e : decide (p < q) = decide (p.num * q.den < q.num * p.den) := by simp [Rat.lt_iff]
  simp [g_mul h1 h4 (by decide), g_mul h3 h2 (by decide), e]
theorem val_bd {ys : List P2} (v : VB ys) {p : Int} (hp : 0 ≤ p ∧ p ≤ 1000000001) : Bd 400000 (val ys p).num ∧ Bd 400000 ((val ys p).den : Int) ∧ ((val ys p).den : Int) < 2 ^ 35 := by
  have t := v.tot
  have b := buys_bd ys p fun y hy => (v.ok y hy).2.2
  unfold val
  rw [q_num (by omega), q_den (by omega)]
  have b1 : Bd 80 (p * buys ys p) := (bd_of (by omega)).mul (bd_of (by omega))
  have b2 : Bd 40 (tot ys) := bd_of (by omega)
  have hd : (tot ys) / (Int.gcd (p * buys ys p) (tot ys) : Int) ≤ tot ys := Int.ediv_le_self _ (by omega)
  have hd0 : 0 ≤ (tot ys) / (Int.gcd (p * buys ys p) (tot ys) : Int) := Int.ediv_nonneg (by omega) (by omega)
  refine ⟨?_, ?_, by omega⟩
  · refine Bd.mono (n := 80) ?_ (by decide)
    unfold Bd at *
    exact Nat.lt_of_le_of_lt (Int.natAbs_ediv_le_natAbs _ _) b1
  · refine Bd.mono (n := 40) ?_ (by decide)
    unfold Bd at *
    omega

@[simp] theorem p9 : gPow (.int 10) (.int 9) = some (.int 1000000000) := by simp [gPow, gIc, okPow]
@[simp] theorem p6 : gPow (.int 10) (.int 6) = some (.int 1000000) := by simp [gPow, gIc, okPow]
/-- the first of the greatest -/
def fMax {α : Type} (f : α → Rat) (x : α) (xs : List α) : α := xs.foldl (fun b y => if f b < f y then y else b) x
theorem fMax_spec {α : Type} (f : α → Rat) : ∀ (xs : List α) (x : α), fMax f x xs ∈ x :: xs ∧ (∀ y ∈ x :: xs, f y ≤ f (fMax f x xs)) ∧
    ∃ pre post, x :: xs = pre ++ fMax f x xs :: post ∧ ∀ y ∈ pre, f y < f (fMax f x xs)
  | [], x => ⟨by simp [fMax], by simp [fMax, Rat.le_refl], [], [], rfl, by simp⟩
  | z :: xs, x => by
    show fMax f (if f x < f z then z else x) xs ∈ _ ∧ (∀ y ∈ _, f y ≤ f (fMax f (if f x < f z then z else x) xs)) ∧ ∃ pre post, x :: z :: xs = pre ++ fMax f (if f x < f z then z else x) xs :: post ∧ ∀ y ∈ pre, f y < f (fMax f (if f x < f z then z else x) xs)
    by_cases h : f x < f z
    · rw [if_pos h]
      obtain ⟨h1, h2, pre, post, h3, h4⟩ := fMax_spec f xs z
      have hz := h2 z (by simp)
      refine ⟨by simp at h1 ⊢; exact .inr h1, fun y hy => ?_, x :: pre, post, by rw [h3]; rfl, fun y hy => ?_⟩
      · rcases List.mem_cons.mp hy with e | e
        · subst e; exact Rat.le_trans (Rat.le_of_lt h) hz
        · exact h2 y e
      · rcases List.mem_cons.mp hy with e | e
        · subst e; grind
        · exact h4 y e
    · rw [if_neg h]
      obtain ⟨h1, h2, pre, post, h3, h4⟩ := fMax_spec f xs x
      have hx := h2 x (by simp)
      have hzx : f z ≤ f x := Rat.not_lt.mp h
      refine ⟨by simp at h1 ⊢; rcases h1 with e | e; · exact .inl e
                 · exact .inr (.inr e), fun y hy => ?_, ?_⟩
      · rcases List.mem_cons.mp hy with e | e
        · subst e; exact hx
        · rcases List.mem_cons.mp e with e | e
          · subst e; exact Rat.le_trans hzx hx
          · exact h2 y (by simp [e])
      · cases pre with
        | nil =>
          simp at h3
          refine ⟨[], z :: xs, ?_, by simp⟩
          rw [← h3.1]; rfl
        | cons p pre =>
          simp at h3
          obtain ⟨rfl, h3⟩ := h3
          have hlt := h4 x (by simp)
          refine ⟨x :: z :: pre, post, congrArg (fun l => x :: z :: l) h3, fun y hy => ?_⟩
          rcases List.mem_cons.mp hy with e | e
          · subst e; exact hlt
          · rcases List.mem_cons.mp e with e | e
            · subst e; grind
            · exact h4 y (by simp [e])
def lv (xs : List S3) (x : S3) : Rat := val (lowB xs x.1) x.1
theorem sure_price_is {x : S3} {xs : List S3} (v : VS (x :: xs)) (s : S) : f_sure_price [spD' (x :: xs)] s = .ok (.tup [.int (fMax (lv (x :: xs)) x xs).1, frD (lv (x :: xs) (fMax (lv (x :: xs)) x xs))]) s := by
  have hv : ∀ y ∈ x :: xs, ∀ s, f_taken_of [buD (lowB (x :: xs) y.1), .int y.1] s = .ok (frD (lv (x :: xs) y)) s := fun y hy s =>
    taken_is (low_VB v y.1) (by have := v.ok y hy; omega) s
  have hb : ∀ y ∈ x :: xs, Bd 400000 (lv (x :: xs) y).num ∧ Bd 400000 ((lv (x :: xs) y).den : Int) := fun y hy => by
    have := val_bd (low_VB v y.1) (p := y.1) (by have := v.ok y hy; omega)
    exact ⟨this.1, this.2.1⟩
  have hw : ∀ p s, f_worst_of [spD' (x :: xs), .int p] s = .ok (buD (lowB (x :: xs) p)) s := fun p s => worst_is v.len5 p s
  have hx := hv x (by simp)
  have hsp : spD' (x :: xs) = .tup (encS x :: xs.map encS) := rfl
  have hsl : gSl (spD' (x :: xs)) (some 1) none = some (.tup (xs.map encS)) := by
    rw [hsp]; simp [gSl, cutD, HT.sIx]; exact List.take_of_length_le (by simp)
  have hit : gIx (spD' (x :: xs)) (.int 0) = some (encS x) := by rw [hsp, g_ixT, at_0]; rfl
  have hi0 : gIx (encS x) (.int 0) = some (.int x.1) := rfl
  rw [u_sure_price]; unfold b_sure_price
  simp only [e_seq, e_do, e_call, e_cons, e_var, e_nil, List.getElem?_cons_zero, Option.join_some, lift_some, bind_ok, List.length_cons, List.length_nil, need_spans_is v, if_true, e_set, e_tup, e_op, e_c, hit, hi0, hw, hx, e_for, e_itU, e_sl, e_part, e_no, g_asI, hsl, g_seqT]
  simp [hx, hsl]
  have key := for_inv (tg := tgTup 3 (tgCons (tgName 2) (tgCons (tgName 3) (tgCons (tgName 4) tgNil)))) (F := l1_sure_price)
    (enc := encS) (xs := xs) (fun pre δ s' => s' = s ∧ ∃ a b c d, δ = [some (spD' (x :: xs)), some (.tup [.int (fMax (lv (x :: xs)) x pre).1, frD (lv (x :: xs) (fMax (lv (x :: xs)) x pre))]), a, b, c, d])
    (δ := [some (spD' (x :: xs)), some (.tup [.int x.1, frD (lv (x :: xs) x)]), none, none, none, none]) (s := s) ⟨rfl, none, none, none, none, rfl⟩ ?_
  · obtain ⟨δ', s', h1, rfl, a, b, c, d, rfl⟩ := key
    rw [h1]; simp
  · rintro pre y post δ s' e ⟨rfl, a, b, c, d, rfl⟩
    have hy : y ∈ x :: xs := by rw [e]; simp
    have hm : fMax (lv (x :: xs)) x pre ∈ x :: xs := by
      have := (fMax_spec (lv (x :: xs)) pre x).1
      rcases List.mem_cons.mp this with z | z
      · rw [z]; simp
      · exact List.mem_cons_of_mem _ (by conv => lhs; rw [e]
                                         exact List.mem_append_left _ z)
    have hl := is_less_is s' (hb _ hm).1 (hb _ hm).2 (hb _ hy).1 (hb _ hy).2
    have hf : fMax (lv (x :: xs)) x (pre ++ [y]) = if lv (x :: xs) (fMax (lv (x :: xs)) x pre) < lv (x :: xs) y then y else fMax (lv (x :: xs)) x pre := by
      unfold fMax; rw [List.foldl_append]; rfl
    refine ⟨_, [some (spD' (x :: xs)), some (.tup [.int (fMax (lv (x :: xs)) x (pre ++ [y])).1, frD (lv (x :: xs) (fMax (lv (x :: xs)) x (pre ++ [y])))]), some (.int y.1), some (.int y.2.1), some (.int y.2.2), some (frD (lv (x :: xs) y))], s', rfl, ?_, rfl, _, _, _, _, rfl⟩
    unfold l1_sure_price
    simp [hw, hv y hy, hl, hf]
    split <;> simp
/-! ### prices that are always best -/
def ah (p q w : Int) : Int := (if p ≤ w then p else 0) - (if q ≤ w then q else 0)
def lead (xs : List S3) (p q : Int) : Int := (xs.map fun x => ah p q x.1 * (if 0 < ah p q x.1 then x.2.1 else x.2.2)).sum
theorem least_ahead_is {xs : List S3} (v : VS xs) {p q : Int} (hp : 0 ≤ p ∧ p ≤ 1000000000) (hq : 0 ≤ q ∧ q ≤ 1000000000) (s : S) : f_least_ahead [spD' xs, .int p, .int q] s = .ok (.int (lead xs p q)) s := by
  rw [u_least_ahead]; unfold b_least_ahead
  have hsp : seqD (spD' xs) = some (xs.map encS) := rfl
  simp [hsp]
  have key := for_inv (tg := tgTup 3 (tgCons (tgName 4) (tgCons (tgName 5) (tgCons (tgName 6) tgNil)))) (F := l1_least_ahead)
    (enc := encS) (xs := xs) (fun pre δ s' => s' = s ∧ ∃ a b c d, δ = [some (spD' xs), some (.int p), some (.int q), some (.int (lead pre p q)), a, b, c, d])
    (δ := [some (spD' xs), some (.int p), some (.int q), some (.int 0), none, none, none, none]) (s := s) ⟨rfl, none, none, none, none, rfl⟩ ?_
  · obtain ⟨δ', s', h1, rfl, a, b, c, d, rfl⟩ := key
    rw [h1]; simp
  · rintro pre x post δ s' e ⟨rfl, a, b, c, d, rfl⟩
    have hx := v.ok x (by rw [e]; simp)
    have e1 : ∀ (t : S), (cIf (cTst (cOp gGe (cVar 4) (cVar 1))) (cVar 1) (cC (.int 0))) [some (spD' xs), some (.int p), some (.int q), some (.int (lead pre p q)), some (.int x.1), some (.int x.2.1), some (.int x.2.2), d] t = .ok (.int (if p ≤ x.1 then p else 0)) t := fun t => by
      by_cases z : p ≤ x.1 <;> simp [z]
    have e2 : ∀ (t : S), (cIf (cTst (cOp gGe (cVar 4) (cVar 2))) (cVar 2) (cC (.int 0))) [some (spD' xs), some (.int p), some (.int q), some (.int (lead pre p q)), some (.int x.1), some (.int x.2.1), some (.int x.2.2), d] t = .ok (.int (if q ≤ x.1 then q else 0)) t := fun t => by
      by_cases z : q ≤ x.1 <;> simp [z]
    have hbd : Bd 40 (ah p q x.1) := bd_of (by unfold ah; split <;> split <;> omega)
    have e3 : ∀ (t : S), (cIf (cTst (cOp gGt (cVar 7) (cC (.int 0)))) (cVar 5) (cVar 6)) [some (spD' xs), some (.int p), some (.int q), some (.int (lead pre p q)), some (.int x.1), some (.int x.2.1), some (.int x.2.2), some (.int (ah p q x.1))] t = .ok (.int (if 0 < ah p q x.1 then x.2.1 else x.2.2)) t := fun t => by
      by_cases z : 0 < ah p q x.1 <;> simp [z]
    have m := g_mul hbd (bd_of (x := if 0 < ah p q x.1 then x.2.1 else x.2.2) (by split <;> omega)) (by decide)
    refine ⟨[some (spD' xs), some (.int p), some (.int q), some (.int (lead pre p q)), some (.int x.1), some (.int x.2.1), some (.int x.2.2), d], [some (spD' xs), some (.int p), some (.int q), some (.int (lead (pre ++ [x]) p q)), some (.int x.1), some (.int x.2.1), some (.int x.2.2), some (.int (ah p q x.1))], s', rfl, ?_, rfl, _, _, _, _, rfl⟩
    have el : lead (pre ++ [x]) p q = lead pre p q + ah p q x.1 * (if 0 < ah p q x.1 then x.2.1 else x.2.2) := by
      unfold lead; simp
    unfold l1_least_ahead
    rw [e_seq, e_set, e_op, e1, bind_ok, e2, bind_ok, g_dif, lift_some, bind_ok, bind_ok]
    show cAug 3 (fun i j => i + j) _ [some (spD' xs), some (.int p), some (.int q), some (.int (lead pre p q)), some (.int x.1), some (.int x.2.1), some (.int x.2.2), some (.int (ah p q x.1))] s' = _
    simp only [e_aug, e_op, e3, e_var]
    simp [m, el]
theorem always_is {xs : List S3} (v : VS xs) (s : S) : f_always_best [spD' xs] s = .ok (.lst (((xs.map (·.1)).filter fun p => (xs.map (·.1)).all fun q => decide (0 ≤ lead xs p q)).map D.int)) s := by
  have l5 := v.len5
  have hp : ∀ p ∈ xs.map (·.1), 0 ≤ p ∧ p ≤ 1000000000 := fun p hp => by
    obtain ⟨x, hx, rfl⟩ := List.mem_map.mp hp
    have := v.ok x hx; omega
  have hsp : seqD (spD' xs) = some (xs.map encS) := rfl
  rw [u_always_best]; unfold b_always_best
  simp [need_spans_is v, hsp, show xs.length ≤ 100000 by omega]
  rw [comp_map (e := fun (x : S3) => .int x.1)]
  · have e0 : (xs.map fun x => D.int x.1) = (xs.map (·.1)).map D.int := by rw [List.map_map]; rfl
    rw [e0]
    simp [show xs.length ≤ 100000 by omega, -List.map_map]
    rw [comp_pure (p := fun p => (xs.map (·.1)).all fun q => decide (0 ≤ lead xs p q)) (e := D.int)]
    · simp [-List.map_map]
    · intro p hpm
      refine ⟨_, rfl, fun s => ?_, fun _ s => by simp⟩
      simp [show xs.length ≤ 100000 by omega, -List.map_map]
      rw [comp_map (e := fun q => .bl (decide (0 ≤ lead xs p q)))]
      · simp [-List.map_map]
      · intro q hqm
        exact ⟨_, rfl, fun s => by simp [least_ahead_is v (hp p hpm) (hp q hqm)]⟩
  · intro x hx
    exact ⟨_, rfl, fun s => by simp⟩

/-! ### the law's own helpers -/
theorem draw_is (s : S) {m : Int} (h0 : 0 < m) (h1 : m < 1073741824) : ∃ v s', 0 ≤ v ∧ v < m ∧ drawF [.row, .int m] s = .ok (.int v) s' :=
  ⟨(draw s m).1, (draw s m).2, (draw_lt s h0).1, (draw_lt s h0).2, by show (if 0 < m ∧ m < 1073741824 then _ else _) = _; rw [if_pos ⟨h0, h1⟩]⟩
theorem law_is_is {q : Rat} {o u : Int} (s : S) (hu : 0 < u) (h1 : Bd 400000 q.num) (h2 : Bd 400000 (q.den : Int)) (h3 : Bd 400000 o) (h4 : Bd 400000 u) (hd : (q.den : Int) < 2 ^ 70) : f__law_is [frD q, .int o, .int u] s = .ok (.bl (decide (q = Rat.divInt o u))) s := by
  have hden := q.den_pos
  have hg : Int.gcd q.num (q.den : Int) = 1 := by
    have := q.reduced
    simpa [Int.gcd, Nat.Coprime] using this
  have e1 := law_gcd_is (L := 140) (a := q.num) (b := (q.den : Int)) s (by omega) hd (by decide)
  have e2 : decide (q = Rat.divInt o u) = decide (q.num * u = o * q.den) := by
    have : q = Rat.divInt o u ↔ q.num * u = o * q.den := by
      conv => lhs; lhs; rw [← q_self q]
      exact q_eq (by omega) hu
    simp [this]
  rw [hg] at e1
  rw [u__law_is]; unfold b__law_is frD
  simp [show ¬ ((q.den : Int) < 1) by omega, g_mul h1 h4 (by decide), g_mul h3 h2 (by decide), e2]
  by_cases z : q.num * u = o * q.den <;> simp [z, e1]
def pv (x : P2) : Rat := Rat.divInt x.1 x.2
def OkP (x : P2) : Prop := 0 < x.2 ∧ Bd 90 x.1 ∧ Bd 90 x.2
theorem law_less_is {x y : P2} (hx : OkP x) (hy : OkP y) (s : S) : f__law_less [encB x, encB y] s = .ok (.bl (decide (pv x < pv y))) s := by
  have e : decide (pv x < pv y) = decide (x.1 * y.2 < y.1 * x.2) := by unfold pv; simp [q_lt hx.1 hy.1]
  rw [u__law_less]; unfold b__law_less encB
  simp [g_mul hx.2.1 hy.2.2 (by decide), g_mul hy.2.1 hx.2.2 (by decide), e]

theorem law_taken_of_is {ys : List P2} (v : VB ys) {p : Int} (hp : 0 ≤ p ∧ p ≤ 1000000001) (s : S) : f__law_taken_of [buD ys, .int p] s = .ok (encB (p * buys ys p, tot ys)) s := by
  have l5 := v.len5
  have t := v.tot
  have b := buys_bd ys p fun y hy => (v.ok y hy).2.2
  have m1 : gMul (.int p) (.int (buys ys p)) = some (.int (p * buys ys p)) := g_mul (bd_of (by omega)) (bd_of (by omega)) (by decide)
  have hb : (List.map Prod.snd (List.filter (fun (y : P2) => decide (p ≤ y.fst)) ys)).sum = buys ys p := rfl
  have ht : (List.map Prod.snd ys).sum = tot ys := rfl
  rw [u__law_taken_of]; unfold b__law_taken_of buD
  simp [show ys.length ≤ 100000 by omega]
  rw [comp_pure (p := fun (y : P2) => decide (p ≤ y.1)) (e := fun (y : P2) => .int y.2)]
  · simp [show ys.length ≤ 100000 by omega, hb, m1]
    rw [comp_map (e := fun (y : P2) => .int y.2)]
    · simp [ht, encB]
    · intro x hx
      exact ⟨_, rfl, fun s => by simp⟩
  · intro x hx
    exact ⟨_, rfl, fun s => by simp, fun _ s => by simp⟩
theorem okP_val {ys : List P2} (v : VB ys) {p : Int} (hp : 0 ≤ p ∧ p ≤ 1000000001) : OkP (p * buys ys p, tot ys) := by
  have t := v.tot
  have b := buys_bd ys p fun y hy => (v.ok y hy).2.2
  exact ⟨by show 0 < tot ys; omega, ((bd_of (by omega)).mul (bd_of (by omega)) : Bd 80 _).mono (by decide), (bd_of (by show _ < tot ys ∧ tot ys < _; omega)).mono (by decide)⟩
theorem ends_is {x : P2} {xs : List P2} (hok : ∀ z ∈ x :: xs, OkP z) (s : S) : ∃ l m, l ∈ x :: xs ∧ m ∈ x :: xs ∧ (∀ z ∈ x :: xs, pv l ≤ pv z ∧ pv z ≤ pv m) ∧ f__law_ends [.lst ((x :: xs).map encB)] s = .ok (.tup [encB l, encB m]) s := by
  have key := for_inv (tg := tgName 3) (F := l1__law_ends)
    (enc := encB) (xs := x :: xs) (fun pre δ s' => s' = s ∧ ∃ l m d, l ∈ x :: xs ∧ m ∈ x :: xs ∧ (∀ z ∈ pre, pv l ≤ pv z ∧ pv z ≤ pv m) ∧ δ = [some (.lst ((x :: xs).map encB)), some (encB l), some (encB m), d])
    (δ := [some (.lst ((x :: xs).map encB)), some (encB x), some (encB x), none]) (s := s) ⟨rfl, x, x, none, by simp, by simp, by simp, rfl⟩ ?_
  · obtain ⟨δ', s', h1, rfl, l, m, d, hl, hm, hz, rfl⟩ := key
    refine ⟨l, m, hl, hm, hz, ?_⟩
    rw [u__law_ends]; unfold b__law_ends
    simp at h1 ⊢
    rw [h1]; simp
  · rintro pre y post δ s' e ⟨rfl, l, m, d, hl, hm, hz, rfl⟩
    have hy : y ∈ x :: xs := by rw [e]; simp
    have c1 := law_less_is (hok y hy) (hok l hl) s'
    have c2 := law_less_is (hok m hm) (hok y hy) s'
    refine ⟨_, [some (.lst ((x :: xs).map encB)), some (encB (if pv y < pv l then y else l)), some (encB (if pv m < pv y then y else m)), some (encB y)], s', rfl, ?_, rfl, if pv y < pv l then y else l, if pv m < pv y then y else m, some (encB y), by split <;> assumption, by split <;> assumption, ?_, rfl⟩
    · unfold l1__law_ends
      simp [c1]
      by_cases z1 : pv y < pv l <;> by_cases z2 : pv m < pv y <;> simp [z1, z2, c2]
    · intro z hz'
      rcases List.mem_append.mp hz' with q | q
      · have := hz z q
        refine ⟨?_, ?_⟩
        · split
          · grind
          · exact this.1
        · split
          · grind
          · exact this.2
      · have : z = y := by simpa using q
        subst this
        refine ⟨?_, ?_⟩
        · split
          · exact Rat.le_refl
          · exact Rat.not_lt.mp (by assumption)
        · split
          · exact Rat.le_refl
          · exact Rat.not_lt.mp (by assumption)
/-! ### corners -/
def stepC (c : List (List P2)) (x : S3) : List (List P2) := c.map (· ++ [(x.1, x.2.1)]) ++ c.map (· ++ [(x.1, x.2.2)])
def corn (xs : List S3) : List (List P2) := xs.foldl stepC [[]]
inductive Cor : List P2 → List S3 → Prop
  | nil : Cor [] []
  | cons {y : P2} {x : S3} {ys : List P2} {xs : List S3} : y.1 = x.1 → (y.2 = x.2.1 ∨ y.2 = x.2.2) → Cor ys xs → Cor (y :: ys) (x :: xs)
theorem Cor.snoc {y : P2} {x : S3} (h1 : y.1 = x.1) (h2 : y.2 = x.2.1 ∨ y.2 = x.2.2) : ∀ {ys : List P2} {xs : List S3}, Cor ys xs → Cor (ys ++ [y]) (xs ++ [x])
  | _, _, .nil => .cons h1 h2 .nil
  | _, _, .cons a b c => .cons a b (Cor.snoc h1 h2 c)
theorem corn_mem : ∀ (xs pre : List S3) (acc : List (List P2)), (∀ c ∈ acc, Cor c pre) → ∀ ys ∈ xs.foldl stepC acc, Cor ys (pre ++ xs)
  | [], pre, acc, h, ys, hy => by rw [List.append_nil]; exact h ys hy
  | x :: xs, pre, acc, h, ys, hy => by
    have := corn_mem xs (pre ++ [x]) (stepC acc x) (fun c hc => by
      unfold stepC at hc
      rcases List.mem_append.mp hc with q | q
      · obtain ⟨d, hd, rfl⟩ := List.mem_map.mp q
        exact Cor.snoc (y := (x.1, x.2.1)) (x := x) rfl (.inl rfl) (h d hd)
      · obtain ⟨d, hd, rfl⟩ := List.mem_map.mp q
        exact Cor.snoc (y := (x.1, x.2.2)) (x := x) rfl (.inr rfl) (h d hd)) ys hy
    simpa using this
theorem corn_has (f : S3 → Bool) : ∀ (xs : List S3) (acc : List (List P2)) (c : List P2), c ∈ acc → c ++ xs.map (fun x => (x.1, if f x then x.2.1 else x.2.2)) ∈ xs.foldl stepC acc
  | [], acc, c, h => by simpa using h
  | x :: xs, acc, c, h => by
    have := corn_has f xs (stepC acc x) (c ++ [(x.1, if f x then x.2.1 else x.2.2)]) (by
      unfold stepC
      by_cases z : f x
      · exact List.mem_append_left _ (List.mem_map.mpr ⟨c, h, by simp [z]⟩)
      · exact List.mem_append_right _ (List.mem_map.mpr ⟨c, h, by simp [z]⟩))
    simpa using this
theorem corn_len : ∀ (xs : List S3) (acc : List (List P2)), (xs.foldl stepC acc).length = acc.length * 2 ^ xs.length
  | [], acc => by simp
  | x :: xs, acc => by
    show (xs.foldl stepC (stepC acc x)).length = _
    rw [corn_len xs]
    have : (stepC acc x).length = acc.length * 2 := by unfold stepC; simp; omega
    rw [this, List.length_cons, Nat.pow_succ, Nat.mul_assoc, Nat.mul_comm 2]
theorem Cor.VB : ∀ {ys : List P2} {xs : List S3}, Cor ys xs → (∀ x ∈ xs, 0 ≤ x.1 ∧ x.1 ≤ 1000000000 ∧ 1 ≤ x.2.1 ∧ x.2.1 ≤ x.2.2 ∧ x.2.2 ≤ 1000000000) → ys.length = xs.length ∧ ∀ y ∈ ys, 0 ≤ y.1 ∧ y.1 ≤ 1000000000 ∧ 1 ≤ y.2 ∧ y.2 ≤ 1000000000
  | _, _, .nil, _ => ⟨rfl, by simp⟩
  | _, _, .cons (y := y) (x := x) a b c, h => by
    have ih := Cor.VB c fun z hz => h z (by simp [hz])
    have hx := h x (by simp)
    refine ⟨by simp [ih.1], fun z hz => ?_⟩
    rcases List.mem_cons.mp hz with e | e
    · subst e; omega
    · exact ih.2 z e
theorem corn_VB {xs : List S3} (v : VS xs) {ys : List P2} (h : ys ∈ corn xs) : VB ys ∧ Cor ys xs := by
  have h0 : ∀ c ∈ ([[]] : List (List P2)), Cor c [] := fun c hc => by
    have : c = [] := by simpa using hc
    rw [this]; exact .nil
  have c := corn_mem xs [] [[]] h0 ys h
  have := Cor.VB c v.ok
  exact ⟨⟨by rw [this.1]; exact v.len1, by rw [this.1]; exact v.len5, this.2⟩, c⟩
theorem Cor.low (p : Int) : ∀ {ys : List P2} {xs : List S3}, Cor ys xs → (∀ x ∈ xs, x.2.1 ≤ x.2.2) → buys (lowB xs p) p ≤ buys ys p ∧ tot ys - buys ys p ≤ tot (lowB xs p) - buys (lowB xs p) p ∧ buys ys p ≤ buys (highB xs p) p ∧ tot (highB xs p) - buys (highB xs p) p ≤ tot ys - buys ys p
  | _, _, .nil, _ => by simp [buys, tot, lowB, highB]
  | _, _, .cons (y := y) (x := x) (ys := ys) (xs := xs) a b c, h => by
    have ih := Cor.low p c fun z hz => h z (by simp [hz])
    have hx := h x (by simp)
    unfold buys tot lowB highB at *
    by_cases z : p ≤ x.1
    · simp [List.filter_cons, z, a] at ih ⊢; omega
    · simp [List.filter_cons, z, a] at ih ⊢; omega
theorem val_mono {p B C B' C' : Int} (hp : 0 ≤ p) (h0 : 0 ≤ B) (h1 : B ≤ B') (h2 : 0 ≤ C') (h3 : C' ≤ C) (t : 0 < B + C) (t' : 0 < B' + C') : Rat.divInt (p * B) (B + C) ≤ Rat.divInt (p * B') (B' + C') := by
  rw [q_le t t']
  have e : B * C' ≤ B' * C := Int.mul_le_mul h1 h3 h2 (by omega)
  have e2 : B * (B' + C') ≤ B' * (B + C) := by
    rw [Int.mul_add, Int.mul_add, Int.mul_comm B' B]; omega
  have := Int.mul_le_mul_of_nonneg_left e2 hp
  rw [← Int.mul_assoc, ← Int.mul_assoc] at this
  exact this
theorem val_ends {xs : List S3} (v : VS xs) {ys : List P2} (h : ys ∈ corn xs) {p : Int} (hp : 0 ≤ p) : val (lowB xs p) p ≤ val ys p ∧ val ys p ≤ val (highB xs p) p := by
  obtain ⟨vb, c⟩ := corn_VB v h
  have k := Cor.low p c fun x hx => (v.ok x hx).2.2.2.1
  have t1 := (low_VB v p).tot
  have t2 := vb.tot
  have t3 := (high_VB v p).tot
  have b1 := buys_bd (lowB xs p) p fun y hy => ((low_VB v p).ok y hy).2.2
  have b2 := buys_bd ys p fun y hy => (vb.ok y hy).2.2
  have b3 := buys_bd (highB xs p) p fun y hy => ((high_VB v p).ok y hy).2.2
  unfold val
  have e1 : tot (lowB xs p) = buys (lowB xs p) p + (tot (lowB xs p) - buys (lowB xs p) p) := by omega
  have e2 : tot ys = buys ys p + (tot ys - buys ys p) := by omega
  have e3 : tot (highB xs p) = buys (highB xs p) p + (tot (highB xs p) - buys (highB xs p) p) := by omega
  constructor
  · rw [e1, e2]; exact val_mono hp (by omega) (by omega) (by omega) (by omega) (by omega) (by omega)
  · rw [e3, e2]; exact val_mono hp (by omega) (by omega) (by omega) (by omega) (by omega) (by omega)
theorem low_mem {xs : List S3} (p : Int) : lowB xs p ∈ corn xs := by
  have := corn_has (fun x => decide (p ≤ x.1)) xs [[]] [] (by simp)
  simpa [lowB, corn] using this
theorem high_mem {xs : List S3} (p : Int) : highB xs p ∈ corn xs := by
  have := corn_has (fun x => !decide (p ≤ x.1)) xs [[]] [] (by simp)
  have e : (xs.map fun x => (x.1, if (!decide (p ≤ x.1)) = true then x.2.1 else x.2.2)) = highB xs p := by
    unfold highB
    refine List.map_congr_left fun x _ => ?_
    by_cases z : p ≤ x.1 <;> simp [z]
  rw [e] at this
  simpa [corn] using this

/-- the least and the greatest of all corners, as the law finds them -/
theorem corn_ne (xs : List S3) : ∃ c cs, corn xs = c :: cs := by
  have := corn_len xs [[]]
  cases e : corn xs with
  | nil => unfold corn at e; rw [e] at this; simp at this; have := Nat.two_pow_pos xs.length; omega
  | cons c cs => exact ⟨c, cs, rfl⟩
theorem corn_len32 {xs : List S3} (v : VS xs) : (corn xs).length ≤ 32 := by
  have := corn_len xs [[]]
  unfold corn
  rw [this]
  have : 2 ^ xs.length ≤ 2 ^ 5 := Nat.pow_le_pow_right (by decide) v.len5
  simpa using this
theorem ends_corn {xs : List S3} (v : VS xs) {p : Int} (hp : 0 ≤ p ∧ p ≤ 1000000001) (s : S) : ∃ l m : P2, OkP l ∧ OkP m ∧ pv l = val (lowB xs p) p ∧ pv m = val (highB xs p) p ∧
    f__law_ends [.lst ((corn xs).map fun ys => encB (p * buys ys p, tot ys))] s = .ok (.tup [encB l, encB m]) s := by
  obtain ⟨c, cs, e⟩ := corn_ne xs
  have hok : ∀ z ∈ (p * buys c p, tot c) :: cs.map (fun ys => (p * buys ys p, tot ys)), ∃ ys ∈ corn xs, z = (p * buys ys p, tot ys) := fun z hz => by
    rcases List.mem_cons.mp hz with q | q
    · exact ⟨c, by rw [e]; simp, q⟩
    · obtain ⟨ys, hy, rfl⟩ := List.mem_map.mp q
      exact ⟨ys, by rw [e]; simp [hy], rfl⟩
  have hin : ∀ ys ∈ corn xs, (p * buys ys p, tot ys) ∈ (p * buys c p, tot c) :: cs.map (fun ys => (p * buys ys p, tot ys)) := fun ys hy => by
    rw [e] at hy
    rcases List.mem_cons.mp hy with q | q
    · rw [q]; simp
    · exact List.mem_cons_of_mem _ (List.mem_map.mpr ⟨ys, q, rfl⟩)
  obtain ⟨l, m, hl, hm, hz, hf⟩ := ends_is (x := (p * buys c p, tot c)) (xs := cs.map fun ys => (p * buys ys p, tot ys)) (fun z hz => by
    obtain ⟨ys, hy, rfl⟩ := hok z hz
    exact okP_val (corn_VB v hy).1 hp) s
  obtain ⟨yl, hyl, rfl⟩ := hok l hl
  obtain ⟨ym, hym, rfl⟩ := hok m hm
  refine ⟨_, _, okP_val (corn_VB v hyl).1 hp, okP_val (corn_VB v hym).1 hp, ?_, ?_, ?_⟩
  · exact Rat.le_antisymm (hz _ (hin _ (low_mem p))).1 (val_ends v hyl hp.1).1
  · exact Rat.le_antisymm (val_ends v hym hp.1).2 (hz _ (hin _ (high_mem p))).2
  · rw [← hf, e]; simp; rfl
theorem ends_lc {xs : List S3} (v : VS xs) {p : Int} (hp : 0 ≤ p ∧ p ≤ 1000000001) {tg : D → En → Option En} {f : En → M D} {δ : En} (s : S) (hf : ∀ ys ∈ corn xs, ∃ δ1, tg (buD ys) δ = some δ1 ∧ ∀ s, f δ1 s = f__law_taken_of [buD ys, .int p] s) :
    compL tg cYes f δ ((corn xs).map buD) s = .ok ((corn xs).map fun ys => encB (p * buys ys p, tot ys)) s :=
  comp_map fun ys hy => by
    obtain ⟨δ1, h1, h2⟩ := hf ys hy
    exact ⟨δ1, h1, fun s => by rw [h2, law_taken_of_is (corn_VB v hy).1 hp]⟩
theorem law_same_is {xs : List S3} (v : VS xs) {p : Int} (hp : 0 ≤ p ∧ p ≤ 1000000001) {b : P2} (hb : OkP b) (s : S) : f__law_same [encB b, .int p, .lst ((corn xs).map buD)] s = .ok (.bl (decide (val (lowB xs p) p = pv b))) s := by
  obtain ⟨l, m, ol, om, el, em, hf⟩ := ends_corn v hp s
  have hlen := corn_len32 v
  rw [u__law_same]; unfold b__law_same
  simp [show (corn xs).length ≤ 100000 by omega]
  rw [ends_lc v hp s fun ys hy => ⟨_, rfl, fun s => by simp⟩]
  have e1 : decide (val (lowB xs p) p = pv b) = decide (l.1 * b.2 = b.1 * l.2) := by
    have : val (lowB xs p) p = pv b ↔ l.1 * b.2 = b.1 * l.2 := by rw [← el]; exact q_eq ol.1 hb.1
    simp [this]
  simp [hf]
  simp [encB, g_mul ol.2.1 hb.2.2 (by decide), g_mul hb.2.1 ol.2.2 (by decide), e1]
theorem corners_is {xs : List S3} (v : VS xs) (s : S) : f__law_corners [spD' xs] s = .ok (.lst ((corn xs).map buD)) s := by
  have hsp : seqD (spD' xs) = some (xs.map encS) := rfl
  have key := for_inv (tg := tgTup 3 (tgCons (tgName 2) (tgCons (tgName 3) (tgCons (tgName 4) tgNil)))) (F := l1__law_corners)
    (enc := encS) (xs := xs) (fun pre δ s' => s' = s ∧ ∃ a b c d, δ = [some (spD' xs), some (.lst ((corn pre).map buD)), a, b, c, d])
    (δ := [some (spD' xs), some (.lst [.tup []]), none, none, none, none]) (s := s) ⟨rfl, none, none, none, none, rfl⟩ ?_
  · obtain ⟨δ', s', h1, rfl, a, b, c, d, rfl⟩ := key
    rw [u__law_corners]; unfold b__law_corners
    simp [hsp]
    rw [h1]; simp
  · rintro pre x post δ s' e ⟨rfl, a, b, c, d, rfl⟩
    have hpl : pre.length ≤ 5 := by have := v.len5; rw [e] at this; simp at this; omega
    have hcl : (corn pre).length ≤ 32 := by
      have := corn_len pre [[]]
      unfold corn
      rw [this]
      have : 2 ^ pre.length ≤ 2 ^ 5 := Nat.pow_le_pow_right (by decide) hpl
      simpa using this
    have hcc : ∀ ys ∈ corn pre, ys.length ≤ 5 := fun ys hy => by
      have h0 : ∀ c ∈ ([[]] : List (List P2)), Cor c [] := fun c hc => by
        have : c = [] := by simpa using hc
        rw [this]; exact .nil
      have := Cor.VB (corn_mem pre [] [[]] h0 ys hy) fun z hz => v.ok z (by rw [e]; simp [show z ∈ pre by simpa using hz])
      rw [this.1]; simpa using hpl
    have cs : corn (pre ++ [x]) = stepC (corn pre) x := by unfold corn; rw [List.foldl_append]; rfl
    have k1 : ∀ ys ∈ corn pre, ∀ w : Int, gAdd (buD ys) (.tup [.tup [.int x.1, .int w]]) = some (buD (ys ++ [(x.1, w)])) := fun ys hy w => by
      unfold buD
      rw [g_addT _ _ (by have := hcc ys hy; simp; omega)]; simp [encB]
    refine ⟨_, [some (spD' xs), some (.lst ((corn (pre ++ [x])).map buD)), some (.int x.1), some (.int x.2.1), some (.int x.2.2), d], s', rfl, ?_, rfl, _, _, _, _, rfl⟩
    unfold l1__law_corners
    simp [show (corn pre).length ≤ 100000 by omega]
    rw [comp_map (e := fun ys => buD (ys ++ [(x.1, x.2.1)]))]
    · simp [show (corn pre).length ≤ 100000 by omega]
      rw [comp_map (e := fun ys => buD (ys ++ [(x.1, x.2.2)]))]
      · simp
        rw [g_addL _ _ (by simp; omega), cs]
        simp [stepC, Function.comp_def]
      · intro ys hy
        exact ⟨_, rfl, fun s => by simp [k1 ys hy]⟩
    · intro ys hy
      exact ⟨_, rfl, fun s => by simp [k1 ys hy]⟩

theorem spans_turn (xs : List S3) (w most : Int) (i : Nat) (a b : Option D) (s' : S) (hm : 2 ≤ most ∧ most ≤ 1000000000) (hl : xs.length ≤ 5) : ∃ v1 v2 v4 t4, 0 ≤ v1 ∧ v1 < most ∧ 0 ≤ v2 ∧ v2 < most ∧ 0 ≤ v4 ∧ v4 < 1000000 ∧
    l1__law_spans
      [some .row, some (.int most), some (.int w), some (.lst (xs.map encS)), some (.int (i : Int)), b] s'
    = .ok (.next [some .row, some (.int most), some (.int (w + 1 + v4)), some (.lst ((xs ++ [(w, 1 + v1, min 1000000000 (1 + v1 + v2))]).map encS)), some (.int i), some (.int (1 + v1))]) t4 := by
  obtain ⟨v1, t1, v10, v11, d1⟩ := draw_is s' (m := most) (by omega) (by omega)
  obtain ⟨v2, t2, v20, v21, d2⟩ := draw_is t1 (m := most) (by omega) (by omega)
  obtain ⟨v3, t3, v30, v31, d3⟩ := draw_is t2 (m := 4) (by decide) (by decide)
  have hst : ∃ st, atI [D.int 1, .int 3, .int 9, .int 1000000] v3 = some (.int st) ∧ 1 ≤ st ∧ st ≤ 1000000 := by
    have : v3 = 0 ∨ v3 = 1 ∨ v3 = 2 ∨ v3 = 3 := by omega
    rcases this with q | q | q | q
    · rw [q]; exact ⟨1, by rw [at_0]; rfl, by omega, by omega⟩
    · rw [q]; exact ⟨3, by rw [at_1]; rfl, by omega, by omega⟩
    · rw [q]; exact ⟨9, by rw [at_2]; rfl, by omega, by omega⟩
    · rw [q]; exact ⟨1000000, by rw [at_3]; rfl, by omega, by omega⟩
  obtain ⟨st, hst, st0, st1⟩ := hst
  obtain ⟨v4, t4, v40, v41, d4⟩ := draw_is t3 (m := st) (by omega) (by omega)
  refine ⟨v1, v2, v4, t4, v10, v11, v20, v21, v40, by omega, ?_⟩
  unfold l1__law_spans
  simp [d1, d2, d3, show xs.length < 100000 by omega, hst, d4, encS]
theorem law_spans_is (s : S) {most : Int} (hm : 2 ≤ most ∧ most ≤ 1000000000) : ∃ xs s', VS xs ∧ (∀ x ∈ xs, x.1 ≤ 10000000) ∧ f__law_spans [.row, .int most] s = .ok (spD' xs) s' := by
  obtain ⟨w0, s1, w00, w01, e1⟩ := draw_is s (m := 4) (by decide) (by decide)
  obtain ⟨n0, s2, n00, n01, e2⟩ := draw_is s1 (m := 5) (by decide) (by decide)
  obtain ⟨n, hn⟩ : ∃ n : Nat, n0 = n := ⟨n0.toNat, by omega⟩
  have key := for_inv (tg := tgName 4) (F := l1__law_spans)
    (enc := fun i : Nat => D.int (i : Int)) (xs := List.range (1 + n)) (fun pre δ s' => ∃ xs w a b, δ = [some .row, some (.int most), some (.int w), some (.lst (xs.map encS)), a, b] ∧ xs.length = pre.length ∧ (∀ x ∈ xs, 0 ≤ x.1 ∧ x.1 < w ∧ 1 ≤ x.2.1 ∧ x.2.1 ≤ x.2.2 ∧ x.2.2 ≤ 1000000000) ∧ xs.Pairwise (fun a b => a.1 < b.1) ∧ 0 ≤ w ∧ w ≤ 3 + 1000000 * (pre.length : Int))
    (δ := [some .row, some (.int most), some (.int w0), some (.lst []), none, none]) (s := s2) ⟨[], w0, none, none, rfl, rfl, by simp, by simp, w00, by simp; omega⟩ ?_
  · obtain ⟨δ', s', h1, xs, w, a, b, rfl, hl, hx, hp, hw0, hw1⟩ := key
    rw [List.length_range] at hl hw1
    refine ⟨xs, s', ⟨by omega, by omega, fun x hm => ?_, hp⟩, fun x hm => ?_, ?_⟩
    · have := hx x hm; omega
    · have := hx x hm; omega
    · have x1 : cPar (pCons [3] 2 (cV (cCall 2 f__law_taken (cCons (cVar 0) (cCons (cC (.int 4)) cNil)))) (pCons [3] 3 (cN (cLstL cNil)) pNil)) [some .row, some (.int most), none, none, none, none] s = .ok (.next [some .row, some (.int most), some (.int w0), some (.lst []), none, none]) s1 := by simp [e1]
      have x2 : cItA gR1 (cCons (cOp gAdd (cC (.int 1)) (cCall 2 f__law_taken (cCons (cVar 0) (cCons (cC (.int 5)) cNil)))) cNil) [some .row, some (.int most), some (.int w0), some (.lst []), none, none] s1 = lift (gR1 [.int (1 + n0)]) s2 := by simp [e2]
      rw [u__law_spans]; unfold b__law_spans
      rw [e_seq, x1, bind_ok]
      dsimp only
      rw [e_seq, e_for, x2, show (1 : Int) + n0 = ((1 + n : Nat) : Int) by omega, g_r1 _ (by omega), lift_some, bind_ok, upto0, h1, bind_ok]
      simp [spD']
  · rintro pre i post δ s' e ⟨xs, w, a, b, rfl, hl, hx, hp, hw0, hw1⟩
    have hpre : pre.length ≤ 5 := by
      have := congrArg List.length e
      simp at this; omega
    obtain ⟨v1, v2, v4, t4, v10, v11, v20, v21, v40, v41, hF⟩ := spans_turn xs w most i a b s' hm (by omega)
    refine ⟨_, [some .row, some (.int most), some (.int (w + 1 + v4)), some (.lst ((xs ++ [(w, 1 + v1, min 1000000000 (1 + v1 + v2))]).map encS)), some (.int i), some (.int (1 + v1))], t4, rfl, ?_, xs ++ [(w, 1 + v1, min 1000000000 (1 + v1 + v2))], w + 1 + v4, _, _, rfl, by simp [hl], fun x hm => ?_, ?_, by omega, by simp; omega⟩
    · exact hF
    · rcases List.mem_append.mp hm with q | q
      · have := hx x q; omega
      · have : x = (w, 1 + v1, min 1000000000 (1 + v1 + v2)) := by simpa using q
        subst this
        dsimp only
        omega
    · rw [List.pairwise_append]
      refine ⟨hp, by simp, fun x hm y hy => ?_⟩
      have : y = (w, 1 + v1, min 1000000000 (1 + v1 + v2)) := by simpa using hy
      subst this
      exact (hx x hm).2.1

/-! ### what is ahead -/
theorem cons_dif (p q : Int) (y : P2) (ys : List P2) : p * buys (y :: ys) p - q * buys (y :: ys) q = ah p q y.1 * y.2 + (p * buys ys p - q * buys ys q) := by
  have key : ∀ r : Int, r * buys (y :: ys) r = (if r ≤ y.1 then r else 0) * y.2 + r * buys ys r := fun r => by
    unfold buys
    by_cases z : r ≤ y.1
    · simp [List.filter_cons, z, Int.mul_add]
    · simp [List.filter_cons, z]
  rw [key p, key q]; unfold ah; rw [Int.sub_mul]; omega
theorem Cor.lead (p q : Int) : ∀ {ys : List P2} {xs : List S3}, Cor ys xs → (∀ x ∈ xs, x.2.1 ≤ x.2.2) → lead xs p q ≤ p * buys ys p - q * buys ys q
  | _, _, .nil, _ => by simp [LW.lead, buys]
  | _, _, .cons (y := y) (x := x) (ys := ys) (xs := xs) a b c, h => by
    have ih := Cor.lead p q c fun z hz => h z (by simp [hz])
    have hx := h x (by simp)
    rw [cons_dif]
    have e : LW.lead (x :: xs) p q = ah p q x.1 * (if 0 < ah p q x.1 then x.2.1 else x.2.2) + LW.lead xs p q := by simp [LW.lead]
    rw [e, a]
    have : ah p q x.1 * (if 0 < ah p q x.1 then x.2.1 else x.2.2) ≤ ah p q x.1 * y.2 := by
      split
      · rename_i z
        exact Int.mul_le_mul_of_nonneg_left (by rcases b with b | b <;> omega) (by omega)
      · rename_i z
        exact Int.mul_le_mul_of_nonpos_left (by omega) (by rcases b with b | b <;> omega)
    omega
theorem lead_eq (p q : Int) : ∀ xs : List S3, p * buys (xs.map fun x => (x.1, if decide (0 < ah p q x.1) = true then x.2.1 else x.2.2)) p - q * buys (xs.map fun x => (x.1, if decide (0 < ah p q x.1) = true then x.2.1 else x.2.2)) q = lead xs p q
  | [] => by simp [lead, buys]
  | x :: xs => by
    rw [List.map_cons, cons_dif, lead_eq p q xs]; simp [lead]
def good (xs : List S3) (ws : List Int) (p : Int) : Bool := (corn xs).all fun ys => !ws.any fun q => decide (pv (p * buys ys p, tot ys) < pv (q * buys ys q, tot ys))
theorem good_iff {xs : List S3} (v : VS xs) (ws : List Int) (p : Int) : good xs ws p = ws.all fun q => decide (0 ≤ lead xs p q) := by
  have hlo : ∀ x ∈ xs, x.2.1 ≤ x.2.2 := fun x hx => (v.ok x hx).2.2.2.1
  have lt_iff : ∀ ys ∈ corn xs, ∀ q, (pv (p * buys ys p, tot ys) < pv (q * buys ys q, tot ys) ↔ p * buys ys p < q * buys ys q) := fun ys hy q => by
    have t := (corn_VB v hy).1.tot
    unfold pv
    rw [q_lt (by show 0 < tot ys; omega) (by show 0 < tot ys; omega)]
    exact Int.mul_lt_mul_right (by omega)
  rw [Bool.eq_iff_iff]
  unfold good
  simp only [List.all_eq_true, Bool.not_eq_true', List.any_eq_false, decide_eq_true_eq, Bool.not_eq_true]
  constructor
  · intro h q hq
    have hm := corn_has (fun x => decide (0 < ah p q x.1)) xs [[]] [] (by simp)
    rw [List.nil_append] at hm
    have := h _ hm q hq
    have z : ¬ (p * buys (xs.map fun x => (x.1, if decide (0 < ah p q x.1) = true then x.2.1 else x.2.2)) p < q * buys (xs.map fun x => (x.1, if decide (0 < ah p q x.1) = true then x.2.1 else x.2.2)) q) := fun w => by
      have := (lt_iff _ hm q).mpr w
      simp_all
    have e := lead_eq p q xs
    omega
  · intro h ys hy q hq
    have h1 := Cor.lead p q (corn_VB v hy).2 hlo
    have h2 := h q hq
    have z : ¬ pv (p * buys ys p, tot ys) < pv (q * buys ys q, tot ys) := fun w => by
      have := (lt_iff ys hy q).mp w
      omega
    simp [z]
/-! ### the first that is True -/
theorem index_is {α : Type} {e : α → Bool} {pre post : List α} {b : α} (h1 : ∀ y ∈ pre, e y = false) (h2 : e b = true) : gIndex (.lst ((pre ++ b :: post).map fun x => D.bl (e x))) [.bl true] = some (.int (pre.length : Int)) := by
  have hs : ((pre ++ b :: post).map fun x => D.bl (e x)).all PV.scal = true := by simp [PV.scal]
  have hf : ((pre ++ b :: post).map fun x => D.bl (e x)).findIdx? (eqS · (.bl true)) = some pre.length := by
    rw [List.findIdx?_eq_some_iff_getElem]
    refine ⟨by simp, ?_, fun j hj => ?_⟩
    · simp [eqS, h2]
    · have : pre[j] ∈ pre := List.getElem_mem hj
      simp [List.getElem_append, hj, eqS, h1 _ this]
  show (if PV.scal (.bl true) && _ then _ else _) = _
  rw [hs, hf]; rfl
theorem in_ints (p : Int) (ws : List Int) : gIn (.int p) (.lst (ws.map D.int)) = some (.bl (decide (p ∈ ws))) := by
  have hs : (ws.map D.int).all PV.scal = true := by simp [PV.scal]
  show (if PV.scal (.int p) && _ then _ else _) = _
  rw [hs]
  simp [PV.scal]
  show ws.any (fun x => x == p) = _
  rw [Bool.eq_iff_iff]; simp

/-! ### the law -/
def lvv (xs : List S3) (p : Int) : Rat := val (lowB xs p) p
def Best (xs : List S3) (ws pre : List Int) : Option D → Prop := fun o => (o = some .non ∧ ∀ p ∈ pre, p ∉ ws) ∨ ∃ bp l, o = some (.tup [.int bp, encB l]) ∧ OkP l ∧ (∀ p ∈ pre, p ∈ ws → lvv xs p ≤ pv l) ∧ ∃ p ∈ ws, pv l = lvv xs p
theorem okP_big {l : P2} (h : OkP l) : Bd 400000 l.1 ∧ Bd 400000 l.2 := ⟨h.2.1.mono (by decide), h.2.2.mono (by decide)⟩
theorem prices_turn {xs : List S3} (v : VS xs) (ws pre : List Int) {p : Int} (hp : 0 ≤ p ∧ p ≤ 1000000000) (t a9 o a11 a12 a13 a14 a15 a16 a17 a18 : Option D) (s : S) (hb : Best xs ws pre o) : ∃ o' b12 b13 b15, Best xs ws (pre ++ [p]) o' ∧
    l1_law [none, some .row, t, some (spD' xs), some (.lst ((corn xs).map buD)), some (.lst (ws.map D.int)), none, none, none, a9, o, some (.int p), a12, a13, a14, a15, a16, a17, a18, none] s
      = .ok (.next [none, some .row, t, some (spD' xs), some (.lst ((corn xs).map buD)), some (.lst (ws.map D.int)), none, none, none, a9, o', some (.int p), b12, b13, a14, b15, a16, a17, a18, none]) s := by
  obtain ⟨l, m, ol, om, el, em, hf⟩ := ends_corn v (p := p) (by omega) s
  have hlen := corn_len32 v
  have hst := sure_takings_is v hp s
  have b1 := val_bd (low_VB v p) (p := p) (by omega)
  have b2 := val_bd (high_VB v p) (p := p) (by omega)
  have i1 := law_is_is (q := val (lowB xs p) p) (o := l.1) (u := l.2) s ol.1 b1.1 b1.2.1 (okP_big ol).1 (okP_big ol).2 (by omega)
  have i2 := law_is_is (q := val (highB xs p) p) (o := m.1) (u := m.2) s om.1 b2.1 b2.2.1 (okP_big om).1 (okP_big om).2 (by omega)
  rw [show decide (val (lowB xs p) p = Rat.divInt l.1 l.2) = true from decide_eq_true el.symm] at i1
  rw [show decide (val (highB xs p) p = Rat.divInt m.1 m.2) = true from decide_eq_true em.symm] at i2
  have x0 : (cAsg (cCall 1 f__law_ends (cCons (cLc [14] (cItU (cVar 4)) (tgName 14) cYes (cCall 2 f__law_taken_of (cCons (cVar 14) (cCons (cVar 11) cNil)))) cNil)) (tgTup 2 (tgCons (tgName 12) (tgCons (tgName 13) tgNil))))
      [none, some .row, t, some (spD' xs), some (.lst ((corn xs).map buD)), some (.lst (ws.map D.int)), none, none, none, a9, o, some (.int p), a12, a13, a14, a15, a16, a17, a18, none] s
      = .ok (.next [none, some .row, t, some (spD' xs), some (.lst ((corn xs).map buD)), some (.lst (ws.map D.int)), none, none, none, a9, o, some (.int p), some (encB l), some (encB m), a14, a15, a16, a17, a18, none]) s := by
    simp [show (corn xs).length ≤ 100000 by omega]
    rw [ends_lc v (p := p) (by omega) s fun ys hy => ⟨_, rfl, fun s => by simp⟩]
    simp [hf]
  have hin := in_ints p ws
  have fin : ∀ o', Best xs ws (pre ++ [p]) o' → (cIte (cAnd (cTst (cOp gIn (cVar 11) (cVar 5))) (cOr (cTst (cOp gIsN (cVar 10) (cC .non))) (cTst (cCall 2 f__law_less (cCons (cOp gIx (cVar 10) (cC (.int 1))) (cCons (cVar 12) cNil)))))) (cSet 10 (cTup (cCons (cVar 11) (cCons (cVar 12) cNil)))) cNext)
      [none, some .row, t, some (spD' xs), some (.lst ((corn xs).map buD)), some (.lst (ws.map D.int)), none, none, none, a9, o, some (.int p), some (encB l), some (encB m), a14, some (.tup [frD (val (lowB xs p) p), frD (val (highB xs p) p)]), a16, a17, a18, none] s
      = .ok (.next [none, some .row, t, some (spD' xs), some (.lst ((corn xs).map buD)), some (.lst (ws.map D.int)), none, none, none, a9, o', some (.int p), some (encB l), some (encB m), a14, some (.tup [frD (val (lowB xs p) p), frD (val (highB xs p) p)]), a16, a17, a18, none]) s →
      ∃ o' b12 b13 b15, Best xs ws (pre ++ [p]) o' ∧
    l1_law [none, some .row, t, some (spD' xs), some (.lst ((corn xs).map buD)), some (.lst (ws.map D.int)), none, none, none, a9, o, some (.int p), a12, a13, a14, a15, a16, a17, a18, none] s
      = .ok (.next [none, some .row, t, some (spD' xs), some (.lst ((corn xs).map buD)), some (.lst (ws.map D.int)), none, none, none, a9, o', some (.int p), b12, b13, a14, b15, a16, a17, a18, none]) s := fun o' hB hF => by
    refine ⟨o', some (encB l), some (encB m), some (.tup [frD (val (lowB xs p) p), frD (val (highB xs p) p)]), hB, ?_⟩
    unfold l1_law
    rw [e_seq, x0, bind_ok]
    dsimp only
    rw [e_seq]
    have x1 : (cSet 15 (cCall 2 f_sure_takings (cCons (cVar 3) (cCons (cVar 11) cNil)))) [none, some .row, t, some (spD' xs), some (.lst ((corn xs).map buD)), some (.lst (ws.map D.int)), none, none, none, a9, o, some (.int p), some (encB l), some (encB m), a14, a15, a16, a17, a18, none] s
      = .ok (.next [none, some .row, t, some (spD' xs), some (.lst ((corn xs).map buD)), some (.lst (ws.map D.int)), none, none, none, a9, o, some (.int p), some (encB l), some (encB m), a14, some (.tup [frD (val (lowB xs p) p), frD (val (highB xs p) p)]), a16, a17, a18, none]) s := by
      simp [hst]
    rw [x1, bind_ok]
    dsimp only
    rw [e_seq]
    have g0 : gIx (encB l) (.int 0) = some (.int l.1) := by unfold encB; rw [g_ixT, at_0]; rfl
    have g1 : gIx (encB l) (.int 1) = some (.int l.2) := by unfold encB; rw [g_ixT, at_1]; rfl
    have g2 : gIx (encB m) (.int 0) = some (.int m.1) := by unfold encB; rw [g_ixT, at_0]; rfl
    have g3 : gIx (encB m) (.int 1) = some (.int m.2) := by unfold encB; rw [g_ixT, at_1]; rfl
    have x2 : (cIte (cOr (cNot (cTst (cCall 3 f__law_is (cCons (cOp gIx (cVar 15) (cC (.int 0))) (cCons (cOp gIx (cVar 12) (cC (.int 0))) (cCons (cOp gIx (cVar 12) (cC (.int 1))) cNil)))))) (cNot (cTst (cCall 3 f__law_is (cCons (cOp gIx (cVar 15) (cC (.int 1))) (cCons (cOp gIx (cVar 13) (cC (.int 0))) (cCons (cOp gIx (cVar 13) (cC (.int 1))) cNil))))))) (cRet (cC (.bl false))) cNext)
      [none, some .row, t, some (spD' xs), some (.lst ((corn xs).map buD)), some (.lst (ws.map D.int)), none, none, none, a9, o, some (.int p), some (encB l), some (encB m), a14, some (.tup [frD (val (lowB xs p) p), frD (val (highB xs p) p)]), a16, a17, a18, none] s
      = .ok (.next [none, some .row, t, some (spD' xs), some (.lst ((corn xs).map buD)), some (.lst (ws.map D.int)), none, none, none, a9, o, some (.int p), some (encB l), some (encB m), a14, some (.tup [frD (val (lowB xs p) p), frD (val (highB xs p) p)]), a16, a17, a18, none]) s := by
      simp [g0, g1, g2, g3, i1, i2]
    rw [x2, bind_ok]
    exact hF
  by_cases hpw : p ∈ ws
  · have hnew : Best xs ws (pre ++ [p]) (some (.tup [.int p, encB l])) ∨ ∃ bp l', o = some (.tup [.int bp, encB l']) ∧ OkP l' ∧ ¬ pv l' < pv l := by
      rcases hb with ⟨rfl, h⟩ | ⟨bp, l', rfl, ol', h1, h2⟩
      · left
        refine .inr ⟨p, l, rfl, ol, fun q hq hqw => ?_, p, hpw, el⟩
        rcases List.mem_append.mp hq with z | z
        · exact absurd hqw (h q z)
        · have : q = p := by simpa using z
          subst this; rw [el]; exact Rat.le_refl
      · by_cases hlt : pv l' < pv l
        · left
          refine .inr ⟨p, l, rfl, ol, fun q hq hqw => ?_, p, hpw, el⟩
          rcases List.mem_append.mp hq with z | z
          · have := h1 q z hqw; grind
          · have : q = p := by simpa using z
            subst this; rw [el]; exact Rat.le_refl
        · exact .inr ⟨bp, l', rfl, ol', hlt⟩
    rcases hb with ⟨rfl, h⟩ | ⟨bp, l', rfl, ol', h1, h2⟩
    · rcases hnew with hB | ⟨_, _, z, _⟩
      · refine fin _ hB ?_
        simp [hin, hpw]
      · cases z
    · have hl := law_less_is ol' ol s
      by_cases hlt : pv l' < pv l
      · rcases hnew with hB | ⟨bp2, l2, z, ol2, hlt2⟩
        · refine fin _ hB ?_
          simp [hin, hpw, hl, hlt]
        · refine fin _ (.inr ⟨p, l, rfl, ol, fun q hq hqw => ?_, p, hpw, el⟩) ?_
          · rcases List.mem_append.mp hq with z | z
            · have := h1 q z hqw; grind
            · have : q = p := by simpa using z
              subst this; rw [el]; exact Rat.le_refl
          · simp [hin, hpw, hl, hlt]
      · refine fin (some (.tup [.int bp, encB l'])) (.inr ⟨bp, l', rfl, ol', fun q hq hqw => ?_, h2⟩) ?_
        · rcases List.mem_append.mp hq with z | z
          · exact h1 q z hqw
          · have : q = p := by simpa using z
            subst this
            have := Rat.not_lt.mp hlt
            rw [el] at this; exact this
        · simp [hin, hpw, hl, hlt]
  · refine fin o ?_ ?_
    · rcases hb with ⟨rfl, h⟩ | ⟨bp, l', rfl, ol', h1, h2⟩
      · refine .inl ⟨rfl, fun q hq => ?_⟩
        rcases List.mem_append.mp hq with z | z
        · exact h q z
        · have : q = p := by simpa using z
          subst this; exact hpw
      · refine .inr ⟨bp, l', rfl, ol', fun q hq hqw => ?_, h2⟩
        rcases List.mem_append.mp hq with z | z
        · exact h1 q z hqw
        · have : q = p := by simpa using z
          subst this; exact absurd hqw hpw
    · simp [hin, hpw]

abbrev EnL (t s3 s4 s5 s9 s10 s11 s12 s13 s14 s15 s16 s17 s18 : Option D) : En := [none, some .row, t, s3, s4, s5, none, none, none, s9, s10, s11, s12, s13, s14, s15, s16, s17, s18, none]
def isGood (ws : List Int) (p : Int) (ys : List P2) : Bool := !ws.any fun q => decide (pv (p * buys ys p, tot ys) < pv (q * buys ys q, tot ys))
theorem inner_turn {xs : List S3} (v : VS xs) (ws : List Int) (hws : ∀ q ∈ ws, 0 ≤ q ∧ q ≤ 1000000000) (hwl : ws.length ≤ 5) {p : Int} (hp : 0 ≤ p ∧ p ≤ 1000000000) {ys : List P2} (hy : ys ∈ corn xs) (t s3 s4 s9 s10 s12 s13 s15 s16 s18 : Option D) (b : Bool) (s : S) : ∃ c18,
    l2_law (EnL t s3 s4 (some (.lst (ws.map D.int))) s9 s10 (some (.int p)) s12 s13 (some (buD ys)) s15 s16 (some (.bl b)) s18) s = .ok (.next (EnL t s3 s4 (some (.lst (ws.map D.int))) s9 s10 (some (.int p)) s12 s13 (some (buD ys)) s15 s16 (some (.bl (b && isGood ws p ys))) c18)) s := by
  have vb := (corn_VB v hy).1
  have ht := law_taken_of_is vb (p := p) (by omega)
  refine ⟨some (encB (p * buys ys p, tot ys)), ?_⟩
  unfold l2_law
  cases b with
  | false => simp [ht]
  | true =>
    simp [ht, show ws.length ≤ 100000 by omega, -List.map_map]
    rw [comp_map (e := fun q => .bl (decide (pv (p * buys ys p, tot ys) < pv (q * buys ys q, tot ys))))]
    · simp [isGood]
    · intro q hq
      refine ⟨_, rfl, fun s => ?_⟩
      have hq' := hws q hq
      have h1 := law_taken_of_is vb (p := q) (by omega)
      have h2 := law_less_is (okP_val vb (p := p) (by omega)) (okP_val vb (p := q) (by omega))
      simp [h1, h2]
theorem due_turn {xs : List S3} (v : VS xs) (ws : List Int) (hws : ∀ q ∈ ws, 0 ≤ q ∧ q ≤ 1000000000) (hwl : ws.length ≤ 5) {p : Int} (hp : 0 ≤ p ∧ p ≤ 1000000000) (t s3 s9 s10 s12 s13 s14 s15 s17 s18 : Option D) (due : List Int) (hdl : due.length ≤ 5) (s : S) : ∃ c14 c17 c18,
    l3_law (EnL t s3 (some (.lst ((corn xs).map buD))) (some (.lst (ws.map D.int))) s9 s10 (some (.int p)) s12 s13 s14 s15 (some (.lst (due.map D.int))) s17 s18) s
      = .ok (.next (EnL t s3 (some (.lst ((corn xs).map buD))) (some (.lst (ws.map D.int))) s9 s10 (some (.int p)) s12 s13 c14 s15 (some (.lst ((if good xs ws p then due ++ [p] else due).map D.int))) c17 c18)) s := by
  have key := for_inv (tg := tgName 14) (F := l2_law) (enc := buD) (xs := corn xs) (fun pre δ s' => s' = s ∧ ∃ c14 c18, δ = EnL t s3 (some (.lst ((corn xs).map buD))) (some (.lst (ws.map D.int))) s9 s10 (some (.int p)) s12 s13 c14 s15 (some (.lst (due.map D.int))) (some (.bl (pre.all (isGood ws p)))) c18)
    (δ := EnL t s3 (some (.lst ((corn xs).map buD))) (some (.lst (ws.map D.int))) s9 s10 (some (.int p)) s12 s13 s14 s15 (some (.lst (due.map D.int))) (some (.bl true)) s18) (s := s) ⟨rfl, _, _, rfl⟩ ?_
  · obtain ⟨δ', s', h1, rfl, c14, c18, rfl⟩ := key
    refine ⟨c14, some (.bl (good xs ws p)), c18, ?_⟩
    have eg : (corn xs).all (isGood ws p) = good xs ws p := rfl
    rw [eg] at h1
    unfold l3_law
    rw [e_seq, e_set, e_c, bind_ok, bind_ok]
    show cSeq _ _ (EnL t s3 (some (.lst ((corn xs).map buD))) (some (.lst (ws.map D.int))) s9 s10 (some (.int p)) s12 s13 s14 s15 (some (.lst (due.map D.int))) (some (.bl true)) s18) s' = _
    rw [e_seq, e_for, e_itU, e_var]
    show (Out.bind (forL (tgName 14) l2_law ((corn xs).map buD) (EnL t s3 (some (.lst ((corn xs).map buD))) (some (.lst (ws.map D.int))) s9 s10 (some (.int p)) s12 s13 s14 s15 (some (.lst (due.map D.int))) (some (.bl true)) s18) s') _) = _
    rw [h1, bind_ok]
    cases hg : good xs ws p with
    | false => simp
    | true =>
      simp [-List.map_append, -List.map_map]
      rw [g_addL _ _ (by simp; omega)]
      simp
  · rintro pre ys post δ s' e ⟨rfl, c14, c18, rfl⟩
    have hy : ys ∈ corn xs := by rw [e]; simp
    obtain ⟨c, hc⟩ := inner_turn v ws hws hwl hp hy t s3 (some (.lst ((corn xs).map buD))) s9 s10 s12 s13 s15 (some (.lst (due.map D.int))) c18 (pre.all (isGood ws p)) s'
    refine ⟨_, _, s', rfl, hc, rfl, some (buD ys), c, ?_⟩
    simp
theorem turn_is (t s3 s4 s5 s9 s10 s11 s12 s13 s14 s15 s16 s17 s18 : Option D) (s : S) : ∃ c3 c4 c5 c9 c10 c11 c12 c13 c14 c15 c16 c17 c18 s', l4_law (EnL t s3 s4 s5 s9 s10 s11 s12 s13 s14 s15 s16 s17 s18) s = .ok (.next (EnL t c3 c4 c5 c9 c10 c11 c12 c13 c14 c15 c16 c17 c18)) s' := by
  obtain ⟨k0, s1, k00, k01, d0⟩ := draw_is s (m := 3) (by decide) (by decide)
  have hmo : ∃ mo, atI [D.int 2, .int 9, .int 1000000000] k0 = some (.int mo) ∧ 2 ≤ mo ∧ mo ≤ 1000000000 := by
    have : k0 = 0 ∨ k0 = 1 ∨ k0 = 2 := by omega
    rcases this with q | q | q
    · rw [q]; exact ⟨2, by rw [at_0]; rfl, by omega, by omega⟩
    · rw [q]; exact ⟨9, by rw [at_1]; rfl, by omega, by omega⟩
    · rw [q]; exact ⟨1000000000, by rw [at_2]; rfl, by omega, by omega⟩
  obtain ⟨mo, hmo, mo0, mo1⟩ := hmo
  obtain ⟨xs, s2, v, hsm, hsp⟩ := law_spans_is s1 (most := mo) ⟨mo0, mo1⟩
  have l1 := v.len1
  have l5 := v.len5
  obtain ⟨x, xr, rfl⟩ : ∃ x xr, xs = x :: xr := by cases xs with | nil => simp at l1 | cons x xr => exact ⟨x, xr, rfl⟩
  generalize hxs : x :: xr = xs at *
  have hws : ∀ q ∈ xs.map (·.1), 0 ≤ q ∧ q ≤ 10000000 := fun q hq => by
    obtain ⟨y, hy, rfl⟩ := List.mem_map.mp hq
    have := v.ok y hy; have := hsm y hy; omega
  have hws' : ∀ q ∈ xs.map (·.1), 0 ≤ q ∧ q ≤ 1000000000 := fun q hq => by have := hws q hq; omega
  have hseq : seqD (spD' xs) = some (xs.map encS) := rfl
  generalize hW : xs.map (·.1) = ws at *
  have hwl : ws.length = xs.length := by rw [← hW]; simp
  obtain ⟨wl, hlast, hwl0⟩ : ∃ wl, (ws.map D.int).getLast? = some (.int wl) ∧ wl ∈ ws := by
    have hne : ws ≠ [] := fun z => by rw [z] at hwl; simp at hwl; omega
    refine ⟨ws.getLast hne, by rw [List.getLast?_map, List.getLast?_eq_getLast hne]; rfl, List.getLast_mem hne⟩
  have hwlb := hws wl hwl0
  obtain ⟨p1, s3', p10, p11, d1⟩ := draw_is s2 (m := wl + 2) (by omega) (by omega)
  obtain ⟨p2, s4', p20, p21, d2⟩ := draw_is s3' (m := 1000000001) (by decide) (by decide)
  have x1 : (cSet 3 (cCall 2 f__law_spans (cCons (cVar 1) (cCons (cOp gIx (cLst (cCons (cC (.int 2)) (cCons (cC (.int 9)) (cCons (cOp gPow (cC (.int 10)) (cC (.int 9))) cNil)))) (cCall 2 f__law_taken (cCons (cVar 1) (cCons (cC (.int 3)) cNil)))) cNil)))) (EnL t s3 s4 s5 s9 s10 s11 s12 s13 s14 s15 s16 s17 s18) s
      = .ok (.next (EnL t (some (spD' xs)) s4 s5 s9 s10 s11 s12 s13 s14 s15 s16 s17 s18)) s2 := by
    simp [d0, hmo, hsp]
  have x2 : (cPar (pCons [] 4 (cV (cCall 1 f__law_corners (cCons (cVar 3) cNil))) (pCons [] 5 (cV (cLc [6, 7, 8] (cItU (cVar 3)) (tgTup 3 (tgCons (tgName 6) (tgCons (tgName 7) (tgCons (tgName 8) tgNil)))) cYes (cVar 6))) pNil))) (EnL t (some (spD' xs)) s4 s5 s9 s10 s11 s12 s13 s14 s15 s16 s17 s18) s2
      = .ok (.next (EnL t (some (spD' xs)) (some (.lst ((corn xs).map buD))) (some (.lst (ws.map D.int))) s9 s10 s11 s12 s13 s14 s15 s16 s17 s18)) s2 := by
    simp [corners_is v, hseq, show xs.length ≤ 100000 by omega]
    rw [comp_map (e := fun (y : S3) => .int y.1)]
    · simp [← hW]
    · intro y hy
      exact ⟨_, rfl, fun s => by simp⟩
  have x3 : (cSet 9 (cOp gAdd (cVar 5) (cLst (cCons (cCall 2 f__law_taken (cCons (cVar 1) (cCons (cOp gAdd (cOp gIx (cVar 5) (cUn gNeg (cC (.int 1)))) (cC (.int 2))) cNil))) (cCons (cCall 2 f__law_taken (cCons (cVar 1) (cCons (cOp gAdd (cOp gPow (cC (.int 10)) (cC (.int 9))) (cC (.int 1))) cNil))) cNil))))) (EnL t (some (spD' xs)) (some (.lst ((corn xs).map buD))) (some (.lst (ws.map D.int))) s9 s10 s11 s12 s13 s14 s15 s16 s17 s18) s2
      = .ok (.next (EnL t (some (spD' xs)) (some (.lst ((corn xs).map buD))) (some (.lst (ws.map D.int))) (some (.lst ((ws ++ [p1, p2]).map D.int))) s10 s11 s12 s13 s14 s15 s16 s17 s18)) s4' := by
    have := g_addL (ws.map D.int) [.int p1, .int p2] (by simp; omega)
    simp [at_m1, hlast, d1, d2, this]
  have hps : ∀ p ∈ ws ++ [p1, p2], 0 ≤ p ∧ p ≤ 1000000000 := fun p hp => by
    rcases List.mem_append.mp hp with q | q
    · exact hws' p q
    · have : p = p1 ∨ p = p2 := by simpa using q
      rcases this with rfl | rfl <;> omega
  have kp := for_inv (tg := tgName 11) (F := l1_law) (enc := D.int) (xs := ws ++ [p1, p2]) (fun pre δ s' => s' = s4' ∧ ∃ o a11 b12 b13 b15, Best xs ws pre o ∧ δ = EnL t (some (spD' xs)) (some (.lst ((corn xs).map buD))) (some (.lst (ws.map D.int))) (some (.lst ((ws ++ [p1, p2]).map D.int))) o a11 b12 b13 s14 b15 s16 s17 s18)
    (δ := EnL t (some (spD' xs)) (some (.lst ((corn xs).map buD))) (some (.lst (ws.map D.int))) (some (.lst ((ws ++ [p1, p2]).map D.int))) (some .non) s11 s12 s13 s14 s15 s16 s17 s18) (s := s4') ⟨rfl, _, _, _, _, _, .inl ⟨rfl, by simp⟩, rfl⟩ (by
      rintro pre p post δ s' e ⟨rfl, o, a11, b12, b13, b15, hB, rfl⟩
      have hp := hps p (by rw [e]; simp)
      obtain ⟨o', c12, c13, c15, hB', hF⟩ := prices_turn v ws pre hp t (some (.lst ((ws ++ [p1, p2]).map D.int))) o a11 b12 b13 s14 b15 s16 s17 s18 s' hB
      exact ⟨_, _, s', rfl, hF, rfl, o', some (.int p), c12, c13, c15, hB', rfl⟩)
  obtain ⟨δ5, s5', f5, rfl, o, a11, b12, b13, b15, hB, rfl⟩ := kp
  obtain ⟨bp, l, rfl, ol, hl1, hl2⟩ : ∃ bp l, o = some (.tup [.int bp, encB l]) ∧ OkP l ∧ (∀ p ∈ ws, lvv xs p ≤ pv l) ∧ ∃ p ∈ ws, pv l = lvv xs p := by
    rcases hB with ⟨_, h⟩ | ⟨bp, l, h1, h2, h3, h4⟩
    · exact absurd hwl0 (h wl (by simp [hwl0]))
    · exact ⟨bp, l, h1, h2, fun p hp => h3 p (by simp [hp]) hp, h4⟩
  have hfm := fMax_spec (lv xs) xr x
  rw [hxs] at hfm
  have hspr := sure_price_is (x := x) (xs := xr) (by rw [hxs]; exact v)
  rw [hxs] at hspr
  generalize hbb : fMax (lv xs) x xr = bb at *
  obtain ⟨m1, m2, pre, post, m3, m4⟩ := hfm
  have hlb : pv l = lv xs bb := by
    refine Rat.le_antisymm ?_ (hl1 bb.1 (by rw [← hW]; exact List.mem_map.mpr ⟨bb, m1, rfl⟩))
    obtain ⟨p, hp, e⟩ := hl2
    rw [← hW] at hp
    obtain ⟨y, hy, rfl⟩ := List.mem_map.mp hp
    rw [e]; exact m2 y hy
  have hbw := v.ok bb m1
  have vb := val_bd (low_VB v bb.1) (p := bb.1) (by omega)
  have iz := fun s => law_is_is (q := lv xs bb) (o := l.1) (u := l.2) s ol.1 vb.1 vb.2.1 (okP_big ol).1 (okP_big ol).2 (by have := vb.2.2; unfold lv; omega)
  rw [show decide (lv xs bb = Rat.divInt l.1 l.2) = true from decide_eq_true hlb.symm] at iz
  have x6 : (cSet 15 (cCall 1 f_sure_price (cCons (cVar 3) cNil))) (EnL t (some (spD' xs)) (some (.lst ((corn xs).map buD))) (some (.lst (ws.map D.int))) (some (.lst ((ws ++ [p1, p2]).map D.int))) (some (.tup [.int bp, encB l])) a11 b12 b13 s14 b15 s16 s17 s18) s5'
      = .ok (.next (EnL t (some (spD' xs)) (some (.lst ((corn xs).map buD))) (some (.lst (ws.map D.int))) (some (.lst ((ws ++ [p1, p2]).map D.int))) (some (.tup [.int bp, encB l])) a11 b12 b13 s14 (some (.tup [.int bb.1, frD (lv xs bb)])) s16 s17 s18)) s5' := by
    simp [hspr]
  have hwsp : ws = pre.map (·.1) ++ bb.1 :: post.map (·.1) := by rw [← hW, m3]; simp
  have hidx : gIndex (.lst (ws.map fun w => .bl (decide (val (lowB xs w) w = pv l)))) [.bl true] = some (.int (pre.length : Int)) := by
    have := index_is (e := fun w => decide (val (lowB xs w) w = pv l)) (pre := pre.map (·.1)) (post := post.map (·.1)) (b := bb.1) (fun y hy => by
      obtain ⟨z, hz, rfl⟩ := List.mem_map.mp hy
      have h := m4 z hz
      rw [hlb]
      refine decide_eq_false fun q => ?_
      unfold lv at h
      rw [q] at h
      exact Rat.lt_irrefl h) (decide_eq_true hlb.symm)
    rw [← hwsp] at this
    rw [this]; simp
  have hat : atI (ws.map D.int) (pre.length : Int) = some (.int bb.1) := by
    rw [at_nat, hwsp]; simp
  have x7 : (cIte (cTst (cOp gNe (cOp gIx (cVar 15) (cC (.int 0))) (cOp gIx (cVar 5) (cMt gIndex (cAsL (cLc [6] (cItU (cVar 5)) (tgName 6) cYes (cCall 3 f__law_same (cCons (cOp gIx (cVar 10) (cC (.int 1))) (cCons (cVar 6) (cCons (cVar 4) cNil)))))) (cCons (cC (.bl true)) cNil))))) (cRet (cC (.bl false))) cNext)
      (EnL t (some (spD' xs)) (some (.lst ((corn xs).map buD))) (some (.lst (ws.map D.int))) (some (.lst ((ws ++ [p1, p2]).map D.int))) (some (.tup [.int bp, encB l])) a11 b12 b13 s14 (some (.tup [.int bb.1, frD (lv xs bb)])) s16 s17 s18) s5'
      = .ok (.next (EnL t (some (spD' xs)) (some (.lst ((corn xs).map buD))) (some (.lst (ws.map D.int))) (some (.lst ((ws ++ [p1, p2]).map D.int))) (some (.tup [.int bp, encB l])) a11 b12 b13 s14 (some (.tup [.int bb.1, frD (lv xs bb)])) s16 s17 s18)) s5' := by
    simp [show ws.length ≤ 100000 by omega, -List.map_map]
    rw [comp_map (e := fun w => .bl (decide (val (lowB xs w) w = pv l)))]
    · simp [hidx, hat, -at_nat, -List.map_map]
    · intro w hw
      have := hws' w hw
      exact ⟨_, rfl, fun s => by simp [law_same_is v (p := w) (by omega) ol]⟩
  have g0 : gIx (encB l) (.int 0) = some (.int l.1) := by unfold encB; rw [g_ixT, at_0]; rfl
  have g1 : gIx (encB l) (.int 1) = some (.int l.2) := by unfold encB; rw [g_ixT, at_1]; rfl
  have x8 : (cIte (cNot (cTst (cCall 3 f__law_is (cCons (cOp gIx (cVar 15) (cC (.int 1))) (cCons (cOp gIx (cOp gIx (cVar 10) (cC (.int 1))) (cC (.int 0))) (cCons (cOp gIx (cOp gIx (cVar 10) (cC (.int 1))) (cC (.int 1))) cNil)))))) (cRet (cC (.bl false))) cNext)
      (EnL t (some (spD' xs)) (some (.lst ((corn xs).map buD))) (some (.lst (ws.map D.int))) (some (.lst ((ws ++ [p1, p2]).map D.int))) (some (.tup [.int bp, encB l])) a11 b12 b13 s14 (some (.tup [.int bb.1, frD (lv xs bb)])) s16 s17 s18) s5'
      = .ok (.next (EnL t (some (spD' xs)) (some (.lst ((corn xs).map buD))) (some (.lst (ws.map D.int))) (some (.lst ((ws ++ [p1, p2]).map D.int))) (some (.tup [.int bp, encB l])) a11 b12 b13 s14 (some (.tup [.int bb.1, frD (lv xs bb)])) s16 s17 s18)) s5' := by
    simp [g0, g1, iz]
  have kd := for_inv (tg := tgName 11) (F := l3_law) (enc := D.int) (xs := ws) (fun pre δ s' => s' = s5' ∧ ∃ c11 c14 c17 c18, δ = EnL t (some (spD' xs)) (some (.lst ((corn xs).map buD))) (some (.lst (ws.map D.int))) (some (.lst ((ws ++ [p1, p2]).map D.int))) (some (.tup [.int bp, encB l])) c11 b12 b13 c14 (some (.tup [.int bb.1, frD (lv xs bb)])) (some (.lst ((pre.filter (good xs ws)).map D.int))) c17 c18)
    (δ := EnL t (some (spD' xs)) (some (.lst ((corn xs).map buD))) (some (.lst (ws.map D.int))) (some (.lst ((ws ++ [p1, p2]).map D.int))) (some (.tup [.int bp, encB l])) a11 b12 b13 s14 (some (.tup [.int bb.1, frD (lv xs bb)])) (some (.lst [])) s17 s18) (s := s5') ⟨rfl, _, _, _, _, rfl⟩ (by
      rintro pre p post δ s' e ⟨rfl, c11, c14, c17, c18, rfl⟩
      have hp := hws' p (by rw [e]; simp)
      have hpl : pre.length ≤ 5 := by have := congrArg List.length e; simp at this; omega
      obtain ⟨d14, d17, d18, hF⟩ := due_turn v ws hws' (by omega) hp t (some (spD' xs)) (some (.lst ((ws ++ [p1, p2]).map D.int))) (some (.tup [.int bp, encB l])) b12 b13 c14 (some (.tup [.int bb.1, frD (lv xs bb)])) c17 c18 (pre.filter (good xs ws)) (by have := List.length_filter_le (good xs ws) pre; omega) s'
      refine ⟨_, _, s', rfl, hF, rfl, some (.int p), d14, d17, d18, ?_⟩
      rw [List.filter_append]
      cases hg : good xs ws p with
      | true => simp [hg]
      | false => simp [hg])
  obtain ⟨δ9, s9', f9, rfl, c11, c14, c17, c18, rfl⟩ := kd
  have hal := always_is v s9'
  rw [hW] at hal
  have hfil : (ws.filter fun p => ws.all fun q => decide (0 ≤ lead xs p q)) = ws.filter (good xs ws) := by
    congr 1; funext p; exact (good_iff v ws p).symm
  rw [hfil] at hal
  have x10 : (cIte (cTst (cOp gNe (cCall 1 f_always_best (cCons (cVar 3) cNil)) (cVar 16))) (cRet (cC (.bl false))) cNext)
      (EnL t (some (spD' xs)) (some (.lst ((corn xs).map buD))) (some (.lst (ws.map D.int))) (some (.lst ((ws ++ [p1, p2]).map D.int))) (some (.tup [.int bp, encB l])) c11 b12 b13 c14 (some (.tup [.int bb.1, frD (lv xs bb)])) (some (.lst ((ws.filter (good xs ws)).map D.int))) c17 c18) s9'
      = .ok (.next (EnL t (some (spD' xs)) (some (.lst ((corn xs).map buD))) (some (.lst (ws.map D.int))) (some (.lst ((ws ++ [p1, p2]).map D.int))) (some (.tup [.int bp, encB l])) c11 b12 b13 c14 (some (.tup [.int bb.1, frD (lv xs bb)])) (some (.lst ((ws.filter (good xs ws)).map D.int))) c17 c18)) s9' := by
    simp [hal, g_neIs, -List.map_map]
  refine ⟨some (spD' xs), some (.lst ((corn xs).map buD)), some (.lst (ws.map D.int)), some (.lst ((ws ++ [p1, p2]).map D.int)), some (.tup [.int bp, encB l]), c11, b12, b13, c14, some (.tup [.int bb.1, frD (lv xs bb)]), some (.lst ((ws.filter (good xs ws)).map D.int)), c17, c18, s9', ?_⟩
  · unfold l4_law
    rw [e_seq, x1, bind_ok]; dsimp only
    rw [e_seq, x2, bind_ok]; dsimp only
    rw [e_seq, x3, bind_ok]; dsimp only
    rw [e_seq, e_set, e_c, bind_ok, bind_ok]
    show cSeq _ _ (EnL t (some (spD' xs)) (some (.lst ((corn xs).map buD))) (some (.lst (ws.map D.int))) (some (.lst ((ws ++ [p1, p2]).map D.int))) (some .non) s11 s12 s13 s14 s15 s16 s17 s18) s9' = _
    rw [e_seq, e_for, e_itU, e_var]
    show (Out.bind (forL (tgName 11) l1_law ((ws ++ [p1, p2]).map D.int) (EnL t (some (spD' xs)) (some (.lst ((corn xs).map buD))) (some (.lst (ws.map D.int))) (some (.lst ((ws ++ [p1, p2]).map D.int))) (some .non) s11 s12 s13 s14 s15 s16 s17 s18) s9') _) = _
    rw [f5, bind_ok]; dsimp only
    rw [e_seq, x6, bind_ok]; dsimp only
    rw [e_seq, x7, bind_ok]; dsimp only
    rw [e_seq, x8, bind_ok]; dsimp only
    rw [e_seq, e_set, e_lst, e_nil, bind_ok]
    show cSeq _ _ (EnL t (some (spD' xs)) (some (.lst ((corn xs).map buD))) (some (.lst (ws.map D.int))) (some (.lst ((ws ++ [p1, p2]).map D.int))) (some (.tup [.int bp, encB l])) a11 b12 b13 s14 (some (.tup [.int bb.1, frD (lv xs bb)])) (some (.lst [])) s17 s18) s9' = _
    rw [e_seq, e_for, e_itU, e_var]
    show (Out.bind (forL (tgName 11) l3_law (ws.map D.int) (EnL t (some (spD' xs)) (some (.lst ((corn xs).map buD))) (some (.lst (ws.map D.int))) (some (.lst ((ws ++ [p1, p2]).map D.int))) (some (.tup [.int bp, encB l])) a11 b12 b13 s14 (some (.tup [.int bb.1, frD (lv xs bb)])) (some (.lst [])) s17 s18) s9') _) = _
    rw [f9, bind_ok]; dsimp only
    rw [x10]
theorem law_true : ∀ ns : List Int, ns.length ≤ 63 → ∃ s', b_law (lawEn N_law.length) ⟨ns, 0, 627, 0⟩ = .ok (.ret (.bl true)) s' := by
  intro ns _
  have e0 : lawEn N_law.length = EnL none none none none none none none none none none none none none none := rfl
  rw [e0]
  have key := for_inv (tg := tgName 2) (F := l4_law) (enc := fun i : Nat => D.int (i : Int)) (xs := List.range 2) (fun pre δ s' => ∃ t c3 c4 c5 c9 c10 c11 c12 c13 c14 c15 c16 c17 c18, δ = EnL t c3 c4 c5 c9 c10 c11 c12 c13 c14 c15 c16 c17 c18)
    (δ := EnL none none none none none none none none none none none none none none) (s := ⟨ns, 0, 627, 0⟩) ⟨_, _, _, _, _, _, _, _, _, _, _, _, _, _, rfl⟩ (by
      rintro pre i post δ s' e ⟨t, c3, c4, c5, c9, c10, c11, c12, c13, c14, c15, c16, c17, c18, rfl⟩
      obtain ⟨d3, d4, d5, d9, d10, d11, d12, d13, d14, d15, d16, d17, d18, s'', h⟩ := turn_is (some (.int (i : Int))) c3 c4 c5 c9 c10 c11 c12 c13 c14 c15 c16 c17 c18 s'
      exact ⟨_, _, s'', rfl, h, _, _, _, _, _, _, _, _, _, _, _, _, _, _, rfl⟩)
  obtain ⟨δ', s', h, _⟩ := key
  refine ⟨s', ?_⟩
  unfold b_law
  have x1 : cItA gR1 (cCons (cC (.int 2)) cNil) (EnL none none none none none none none none none none none none none none) ⟨ns, 0, 627, 0⟩ = .ok ((List.range 2).map fun i : Nat => D.int (i : Int)) ⟨ns, 0, 627, 0⟩ := by
    simp [show gR1 [D.int 2] = some (upto 0 2) from g_r1 2 (by decide), upto0]
  rw [e_seq, e_for, x1, bind_ok, h, bind_ok]
  simp

theorem all_mk {l : PySem.W.OpenLaw} {w : World} {K : PySem.W.Frag} {h : Heap} {mg : Str → Option Value} {fa : Addr} (hl : ∀ ns : List Int, ns.length ≤ 63 → ∃ s', b_law (lawEn N_law.length) ⟨ns, 0, 627, 0⟩ = .ok (.ret (.bl true)) s') (X : K.In h) (G : h.Ns mainGlobals mg) (hfa : mg "law" = some (.ref fa))
    {f0 : Addr} {od0 an0 : Option Addr} {sl0 : Array (Option Value)} {oc0 kV0 dc0 pm0 cd0 ct0 : Value}
    (a0 : PySem.W.nsIn K mainGlobals "_law_taken" = some (some (.ref f0))) (l0 : K.lookup f0 = some ⟨oc0, od0, .func (PySem.W.fnOf "_law_taken" "_law_taken" (defArgs s__law_taken) (defBody s__law_taken) (defScope s__law_taken) .none kV0 dc0 pm0 an0 cd0 ct0), sl0⟩) (c0 : PySem.W.codeIn K cd0 "_law_taken" = true) (k0 : PySem.W.keepIn K (.ref f0) = true)
    {f1 : Addr} {od1 an1 : Option Addr} {sl1 : Array (Option Value)} {oc1 kV1 dc1 pm1 cd1 ct1 : Value}
    (a1 : PySem.W.nsIn K mainGlobals "_law_spans" = some (some (.ref f1))) (l1 : K.lookup f1 = some ⟨oc1, od1, .func (PySem.W.fnOf "_law_spans" "_law_spans" (defArgs s__law_spans) (defBody s__law_spans) (defScope s__law_spans) .none kV1 dc1 pm1 an1 cd1 ct1), sl1⟩) (c1 : PySem.W.codeIn K cd1 "_law_spans" = true) (k1 : PySem.W.keepIn K (.ref f1) = true)
    {f2 : Addr} {od2 an2 : Option Addr} {sl2 : Array (Option Value)} {oc2 kV2 dc2 pm2 cd2 ct2 : Value}
    (a2 : PySem.W.nsIn K mainGlobals "is_from" = some (some (.ref f2))) (l2 : K.lookup f2 = some ⟨oc2, od2, .func (PySem.W.fnOf "is_from" "is_from" (defArgs s_is_from) (defBody s_is_from) (defScope s_is_from) .none kV2 dc2 pm2 an2 cd2 ct2), sl2⟩) (c2 : PySem.W.codeIn K cd2 "is_from" = true) (k2 : PySem.W.keepIn K (.ref f2) = true)
    {f3 : Addr} {od3 an3 : Option Addr} {sl3 : Array (Option Value)} {oc3 kV3 dc3 pm3 cd3 ct3 : Value}
    (a3 : PySem.W.nsIn K mainGlobals "is_span" = some (some (.ref f3))) (l3 : K.lookup f3 = some ⟨oc3, od3, .func (PySem.W.fnOf "is_span" "is_span" (defArgs s_is_span) (defBody s_is_span) (defScope s_is_span) .none kV3 dc3 pm3 an3 cd3 ct3), sl3⟩) (c3 : PySem.W.codeIn K cd3 "is_span" = true) (k3 : PySem.W.keepIn K (.ref f3) = true)
    {f4 : Addr} {od4 an4 : Option Addr} {sl4 : Array (Option Value)} {oc4 kV4 dc4 pm4 cd4 ct4 : Value}
    (a4 : PySem.W.nsIn K mainGlobals "need_spans" = some (some (.ref f4))) (l4 : K.lookup f4 = some ⟨oc4, od4, .func (PySem.W.fnOf "need_spans" "need_spans" (defArgs s_need_spans) (defBody s_need_spans) (defScope s_need_spans) .none kV4 dc4 pm4 an4 cd4 ct4), sl4⟩) (c4 : PySem.W.codeIn K cd4 "need_spans" = true) (k4 : PySem.W.keepIn K (.ref f4) = true)
    {f5 : Addr} {od5 an5 : Option Addr} {sl5 : Array (Option Value)} {oc5 kV5 dc5 pm5 cd5 ct5 : Value}
    (a5 : PySem.W.nsIn K mainGlobals "common" = some (some (.ref f5))) (l5 : K.lookup f5 = some ⟨oc5, od5, .func (PySem.W.fnOf "common" "common" (defArgs s_common) (defBody s_common) (defScope s_common) .none kV5 dc5 pm5 an5 cd5 ct5), sl5⟩) (c5 : PySem.W.codeIn K cd5 "common" = true) (k5 : PySem.W.keepIn K (.ref f5) = true)
    {f6 : Addr} {od6 an6 : Option Addr} {sl6 : Array (Option Value)} {oc6 kV6 dc6 pm6 cd6 ct6 : Value}
    (a6 : PySem.W.nsIn K mainGlobals "made" = some (some (.ref f6))) (l6 : K.lookup f6 = some ⟨oc6, od6, .func (PySem.W.fnOf "made" "made" (defArgs s_made) (defBody s_made) (defScope s_made) .none kV6 dc6 pm6 an6 cd6 ct6), sl6⟩) (c6 : PySem.W.codeIn K cd6 "made" = true) (k6 : PySem.W.keepIn K (.ref f6) = true)
    {f7 : Addr} {od7 an7 : Option Addr} {sl7 : Array (Option Value)} {oc7 kV7 dc7 pm7 cd7 ct7 : Value}
    (a7 : PySem.W.nsIn K mainGlobals "taken_of" = some (some (.ref f7))) (l7 : K.lookup f7 = some ⟨oc7, od7, .func (PySem.W.fnOf "taken_of" "taken_of" (defArgs s_taken_of) (defBody s_taken_of) (defScope s_taken_of) .none kV7 dc7 pm7 an7 cd7 ct7), sl7⟩) (c7 : PySem.W.codeIn K cd7 "taken_of" = true) (k7 : PySem.W.keepIn K (.ref f7) = true)
    {f8 : Addr} {od8 an8 : Option Addr} {sl8 : Array (Option Value)} {oc8 kV8 dc8 pm8 cd8 ct8 : Value}
    (a8 : PySem.W.nsIn K mainGlobals "is_less" = some (some (.ref f8))) (l8 : K.lookup f8 = some ⟨oc8, od8, .func (PySem.W.fnOf "is_less" "is_less" (defArgs s_is_less) (defBody s_is_less) (defScope s_is_less) .none kV8 dc8 pm8 an8 cd8 ct8), sl8⟩) (c8 : PySem.W.codeIn K cd8 "is_less" = true) (k8 : PySem.W.keepIn K (.ref f8) = true)
    {f9 : Addr} {od9 an9 : Option Addr} {sl9 : Array (Option Value)} {oc9 kV9 dc9 pm9 cd9 ct9 : Value}
    (a9 : PySem.W.nsIn K mainGlobals "worst_of" = some (some (.ref f9))) (l9 : K.lookup f9 = some ⟨oc9, od9, .func (PySem.W.fnOf "worst_of" "worst_of" (defArgs s_worst_of) (defBody s_worst_of) (defScope s_worst_of) .none kV9 dc9 pm9 an9 cd9 ct9), sl9⟩) (c9 : PySem.W.codeIn K cd9 "worst_of" = true) (k9 : PySem.W.keepIn K (.ref f9) = true)
    {f10 : Addr} {od10 an10 : Option Addr} {sl10 : Array (Option Value)} {oc10 kV10 dc10 pm10 cd10 ct10 : Value}
    (a10 : PySem.W.nsIn K mainGlobals "sure_price" = some (some (.ref f10))) (l10 : K.lookup f10 = some ⟨oc10, od10, .func (PySem.W.fnOf "sure_price" "sure_price" (defArgs s_sure_price) (defBody s_sure_price) (defScope s_sure_price) .none kV10 dc10 pm10 an10 cd10 ct10), sl10⟩) (c10 : PySem.W.codeIn K cd10 "sure_price" = true) (k10 : PySem.W.keepIn K (.ref f10) = true)
    {f11 : Addr} {od11 an11 : Option Addr} {sl11 : Array (Option Value)} {oc11 kV11 dc11 pm11 cd11 ct11 : Value}
    (a11 : PySem.W.nsIn K mainGlobals "_law_corners" = some (some (.ref f11))) (l11 : K.lookup f11 = some ⟨oc11, od11, .func (PySem.W.fnOf "_law_corners" "_law_corners" (defArgs s__law_corners) (defBody s__law_corners) (defScope s__law_corners) .none kV11 dc11 pm11 an11 cd11 ct11), sl11⟩) (c11 : PySem.W.codeIn K cd11 "_law_corners" = true) (k11 : PySem.W.keepIn K (.ref f11) = true)
    {f12 : Addr} {od12 an12 : Option Addr} {sl12 : Array (Option Value)} {oc12 kV12 dc12 pm12 cd12 ct12 : Value}
    (a12 : PySem.W.nsIn K mainGlobals "_law_less" = some (some (.ref f12))) (l12 : K.lookup f12 = some ⟨oc12, od12, .func (PySem.W.fnOf "_law_less" "_law_less" (defArgs s__law_less) (defBody s__law_less) (defScope s__law_less) .none kV12 dc12 pm12 an12 cd12 ct12), sl12⟩) (c12 : PySem.W.codeIn K cd12 "_law_less" = true) (k12 : PySem.W.keepIn K (.ref f12) = true)
    {f13 : Addr} {od13 an13 : Option Addr} {sl13 : Array (Option Value)} {oc13 kV13 dc13 pm13 cd13 ct13 : Value}
    (a13 : PySem.W.nsIn K mainGlobals "_law_ends" = some (some (.ref f13))) (l13 : K.lookup f13 = some ⟨oc13, od13, .func (PySem.W.fnOf "_law_ends" "_law_ends" (defArgs s__law_ends) (defBody s__law_ends) (defScope s__law_ends) .none kV13 dc13 pm13 an13 cd13 ct13), sl13⟩) (c13 : PySem.W.codeIn K cd13 "_law_ends" = true) (k13 : PySem.W.keepIn K (.ref f13) = true)
    {f14 : Addr} {od14 an14 : Option Addr} {sl14 : Array (Option Value)} {oc14 kV14 dc14 pm14 cd14 ct14 : Value}
    (a14 : PySem.W.nsIn K mainGlobals "is_price" = some (some (.ref f14))) (l14 : K.lookup f14 = some ⟨oc14, od14, .func (PySem.W.fnOf "is_price" "is_price" (defArgs s_is_price) (defBody s_is_price) (defScope s_is_price) .none kV14 dc14 pm14 an14 cd14 ct14), sl14⟩) (c14 : PySem.W.codeIn K cd14 "is_price" = true) (k14 : PySem.W.keepIn K (.ref f14) = true)
    {f15 : Addr} {od15 an15 : Option Addr} {sl15 : Array (Option Value)} {oc15 kV15 dc15 pm15 cd15 ct15 : Value}
    (a15 : PySem.W.nsIn K mainGlobals "need_both" = some (some (.ref f15))) (l15 : K.lookup f15 = some ⟨oc15, od15, .func (PySem.W.fnOf "need_both" "need_both" (defArgs s_need_both) (defBody s_need_both) (defScope s_need_both) .none kV15 dc15 pm15 an15 cd15 ct15), sl15⟩) (c15 : PySem.W.codeIn K cd15 "need_both" = true) (k15 : PySem.W.keepIn K (.ref f15) = true)
    {f16 : Addr} {od16 an16 : Option Addr} {sl16 : Array (Option Value)} {oc16 kV16 dc16 pm16 cd16 ct16 : Value}
    (a16 : PySem.W.nsIn K mainGlobals "luckiest_of" = some (some (.ref f16))) (l16 : K.lookup f16 = some ⟨oc16, od16, .func (PySem.W.fnOf "luckiest_of" "luckiest_of" (defArgs s_luckiest_of) (defBody s_luckiest_of) (defScope s_luckiest_of) .none kV16 dc16 pm16 an16 cd16 ct16), sl16⟩) (c16 : PySem.W.codeIn K cd16 "luckiest_of" = true) (k16 : PySem.W.keepIn K (.ref f16) = true)
    {f17 : Addr} {od17 an17 : Option Addr} {sl17 : Array (Option Value)} {oc17 kV17 dc17 pm17 cd17 ct17 : Value}
    (a17 : PySem.W.nsIn K mainGlobals "sure_takings" = some (some (.ref f17))) (l17 : K.lookup f17 = some ⟨oc17, od17, .func (PySem.W.fnOf "sure_takings" "sure_takings" (defArgs s_sure_takings) (defBody s_sure_takings) (defScope s_sure_takings) .none kV17 dc17 pm17 an17 cd17 ct17), sl17⟩) (c17 : PySem.W.codeIn K cd17 "sure_takings" = true) (k17 : PySem.W.keepIn K (.ref f17) = true)
    {f18 : Addr} {od18 an18 : Option Addr} {sl18 : Array (Option Value)} {oc18 kV18 dc18 pm18 cd18 ct18 : Value}
    (a18 : PySem.W.nsIn K mainGlobals "_law_gcd" = some (some (.ref f18))) (l18 : K.lookup f18 = some ⟨oc18, od18, .func (PySem.W.fnOf "_law_gcd" "_law_gcd" (defArgs s__law_gcd) (defBody s__law_gcd) (defScope s__law_gcd) .none kV18 dc18 pm18 an18 cd18 ct18), sl18⟩) (c18 : PySem.W.codeIn K cd18 "_law_gcd" = true) (k18 : PySem.W.keepIn K (.ref f18) = true)
    {f19 : Addr} {od19 an19 : Option Addr} {sl19 : Array (Option Value)} {oc19 kV19 dc19 pm19 cd19 ct19 : Value}
    (a19 : PySem.W.nsIn K mainGlobals "_law_is" = some (some (.ref f19))) (l19 : K.lookup f19 = some ⟨oc19, od19, .func (PySem.W.fnOf "_law_is" "_law_is" (defArgs s__law_is) (defBody s__law_is) (defScope s__law_is) .none kV19 dc19 pm19 an19 cd19 ct19), sl19⟩) (c19 : PySem.W.codeIn K cd19 "_law_is" = true) (k19 : PySem.W.keepIn K (.ref f19) = true)
    {f20 : Addr} {od20 an20 : Option Addr} {sl20 : Array (Option Value)} {oc20 kV20 dc20 pm20 cd20 ct20 : Value}
    (a20 : PySem.W.nsIn K mainGlobals "least_ahead" = some (some (.ref f20))) (l20 : K.lookup f20 = some ⟨oc20, od20, .func (PySem.W.fnOf "least_ahead" "least_ahead" (defArgs s_least_ahead) (defBody s_least_ahead) (defScope s_least_ahead) .none kV20 dc20 pm20 an20 cd20 ct20), sl20⟩) (c20 : PySem.W.codeIn K cd20 "least_ahead" = true) (k20 : PySem.W.keepIn K (.ref f20) = true)
    {f21 : Addr} {od21 an21 : Option Addr} {sl21 : Array (Option Value)} {oc21 kV21 dc21 pm21 cd21 ct21 : Value}
    (a21 : PySem.W.nsIn K mainGlobals "always_best" = some (some (.ref f21))) (l21 : K.lookup f21 = some ⟨oc21, od21, .func (PySem.W.fnOf "always_best" "always_best" (defArgs s_always_best) (defBody s_always_best) (defScope s_always_best) .none kV21 dc21 pm21 an21 cd21 ct21), sl21⟩) (c21 : PySem.W.codeIn K cd21 "always_best" = true) (k21 : PySem.W.keepIn K (.ref f21) = true)
    {f22 : Addr} {od22 an22 : Option Addr} {sl22 : Array (Option Value)} {oc22 kV22 dc22 pm22 cd22 ct22 : Value}
    (a22 : PySem.W.nsIn K mainGlobals "_law_taken_of" = some (some (.ref f22))) (l22 : K.lookup f22 = some ⟨oc22, od22, .func (PySem.W.fnOf "_law_taken_of" "_law_taken_of" (defArgs s__law_taken_of) (defBody s__law_taken_of) (defScope s__law_taken_of) .none kV22 dc22 pm22 an22 cd22 ct22), sl22⟩) (c22 : PySem.W.codeIn K cd22 "_law_taken_of" = true) (k22 : PySem.W.keepIn K (.ref f22) = true)
    {f23 : Addr} {od23 an23 : Option Addr} {sl23 : Array (Option Value)} {oc23 kV23 dc23 pm23 cd23 ct23 : Value}
    (a23 : PySem.W.nsIn K mainGlobals "_law_same" = some (some (.ref f23))) (l23 : K.lookup f23 = some ⟨oc23, od23, .func (PySem.W.fnOf "_law_same" "_law_same" (defArgs s__law_same) (defBody s__law_same) (defScope s__law_same) .none kV23 dc23 pm23 an23 cd23 ct23), sl23⟩) (c23 : PySem.W.codeIn K cd23 "_law_same" = true) (k23 : PySem.W.keepIn K (.ref f23) = true)
    {f24 : Addr} {od24 an24 : Option Addr} {sl24 : Array (Option Value)} {oc24 kV24 dc24 pm24 cd24 ct24 : Value}
    (a24 : PySem.W.nsIn K mainGlobals "law" = some (some (.ref f24))) (l24 : K.lookup f24 = some ⟨oc24, od24, .func (PySem.W.fnOf "law" "law" (defArgs s_law) (defBody s_law) (defScope s_law) .none kV24 dc24 pm24 an24 cd24 ct24), sl24⟩) (c24 : PySem.W.codeIn K cd24 "law" = true) (k24 : PySem.W.keepIn K (.ref f24) = true)
    (z_abs : PySem.W.nsIn K mainGlobals "abs" = some none)
    (z_all : PySem.W.nsIn K mainGlobals "all" = some none)
    (z_any : PySem.W.nsIn K mainGlobals "any" = some none)
    (z_bool : PySem.W.nsIn K mainGlobals "bool" = some none)
    (z_int : PySem.W.nsIn K mainGlobals "int" = some none)
    (z_isinstance : PySem.W.nsIn K mainGlobals "isinstance" = some none)
    (z_len : PySem.W.nsIn K mainGlobals "len" = some none)
    (z_min : PySem.W.nsIn K mainGlobals "min" = some none)
    (z_range : PySem.W.nsIn K mainGlobals "range" = some none)
    (z_sum : PySem.W.nsIn K mainGlobals "sum" = some none)
    (z_tuple : PySem.W.nsIn K mainGlobals "tuple" = some none)
    {t_MOST : Tok} (g_MOST : PySem.W.nsIn K mainGlobals "MOST" = some (some (.int 1000000000 t_MOST)))
    {t_MOST_WORTHS : Tok} (g_MOST_WORTHS : PySem.W.nsIn K mainGlobals "MOST_WORTHS" = some (some (.int 5 t_MOST_WORTHS)))
    : ∃ fd : FuncData, (∀ (s : Shared) (v : Value), BindsTo s fd ⟨[v], []⟩ [("_law_script", v)]) ∧ ∀ base : Heap, K.In base → base.Ns mainGlobals mg → FnOk l.prog w K mg base CX0 143 fa fd ["_law_script"] (spLaw K) := by
  have e := hfa.symm.trans (PySem.W.mg_of X G a24)
  cases e
  let B : Bs := ⟨K, 0, fun _ => 0⟩
  have F0 := fun_mk (st := s__law_taken) l0 c0 k0
  have b0 : Binds K _ P__law_taken [] := F0.binds (ps := P__law_taken) fun _ _ _ _ _ _ us hl => match us, hl with | [_, _], _ => rfl
  have F1 := fun_mk (st := s__law_spans) l1 c1 k1
  have b1 : Binds K _ P__law_spans [] := F1.binds (ps := P__law_spans) fun _ _ _ _ _ _ us hl => match us, hl with | [_, _], _ => rfl
  have F2 := fun_mk (st := s_is_from) l2 c2 k2
  have b2 : Binds K _ P_is_from [] := F2.binds (ps := P_is_from) fun _ _ _ _ _ _ us hl => match us, hl with | [_, _, _], _ => rfl
  have F3 := fun_mk (st := s_is_span) l3 c3 k3
  have b3 : Binds K _ P_is_span [] := F3.binds (ps := P_is_span) fun _ _ _ _ _ _ us hl => match us, hl with | [_], _ => rfl
  have F4 := fun_mk (st := s_need_spans) l4 c4 k4
  have b4 : Binds K _ P_need_spans [] := F4.binds (ps := P_need_spans) fun _ _ _ _ _ _ us hl => match us, hl with | [_], _ => rfl
  have F5 := fun_mk (st := s_common) l5 c5 k5
  have b5 : Binds K _ P_common [] := F5.binds (ps := P_common) fun _ _ _ _ _ _ us hl => match us, hl with | [_, _], _ => rfl
  have F6 := fun_mk (st := s_made) l6 c6 k6
  have b6 : Binds K _ P_made [] := F6.binds (ps := P_made) fun _ _ _ _ _ _ us hl => match us, hl with | [_, _], _ => rfl
  have F7 := fun_mk (st := s_taken_of) l7 c7 k7
  have b7 : Binds K _ P_taken_of [] := F7.binds (ps := P_taken_of) fun _ _ _ _ _ _ us hl => match us, hl with | [_, _], _ => rfl
  have F8 := fun_mk (st := s_is_less) l8 c8 k8
  have b8 : Binds K _ P_is_less [] := F8.binds (ps := P_is_less) fun _ _ _ _ _ _ us hl => match us, hl with | [_, _], _ => rfl
  have F9 := fun_mk (st := s_worst_of) l9 c9 k9
  have b9 : Binds K _ P_worst_of [] := F9.binds (ps := P_worst_of) fun _ _ _ _ _ _ us hl => match us, hl with | [_, _], _ => rfl
  have F10 := fun_mk (st := s_sure_price) l10 c10 k10
  have b10 : Binds K _ P_sure_price [] := F10.binds (ps := P_sure_price) fun _ _ _ _ _ _ us hl => match us, hl with | [_], _ => rfl
  have F11 := fun_mk (st := s__law_corners) l11 c11 k11
  have b11 : Binds K _ P__law_corners [] := F11.binds (ps := P__law_corners) fun _ _ _ _ _ _ us hl => match us, hl with | [_], _ => rfl
  have F12 := fun_mk (st := s__law_less) l12 c12 k12
  have b12 : Binds K _ P__law_less [] := F12.binds (ps := P__law_less) fun _ _ _ _ _ _ us hl => match us, hl with | [_, _], _ => rfl
  have F13 := fun_mk (st := s__law_ends) l13 c13 k13
  have b13 : Binds K _ P__law_ends [] := F13.binds (ps := P__law_ends) fun _ _ _ _ _ _ us hl => match us, hl with | [_], _ => rfl
  have F14 := fun_mk (st := s_is_price) l14 c14 k14
  have b14 : Binds K _ P_is_price [] := F14.binds (ps := P_is_price) fun _ _ _ _ _ _ us hl => match us, hl with | [_], _ => rfl
  have F15 := fun_mk (st := s_need_both) l15 c15 k15
  have b15 : Binds K _ P_need_both [] := F15.binds (ps := P_need_both) fun _ _ _ _ _ _ us hl => match us, hl with | [_, _], _ => rfl
  have F16 := fun_mk (st := s_luckiest_of) l16 c16 k16
  have b16 : Binds K _ P_luckiest_of [] := F16.binds (ps := P_luckiest_of) fun _ _ _ _ _ _ us hl => match us, hl with | [_, _], _ => rfl
  have F17 := fun_mk (st := s_sure_takings) l17 c17 k17
  have b17 : Binds K _ P_sure_takings [] := F17.binds (ps := P_sure_takings) fun _ _ _ _ _ _ us hl => match us, hl with | [_, _], _ => rfl
  have F18 := fun_mk (st := s__law_gcd) l18 c18 k18
  have b18 : Binds K _ P__law_gcd [] := F18.binds (ps := P__law_gcd) fun _ _ _ _ _ _ us hl => match us, hl with | [_, _], _ => rfl
  have F19 := fun_mk (st := s__law_is) l19 c19 k19
  have b19 : Binds K _ P__law_is [] := F19.binds (ps := P__law_is) fun _ _ _ _ _ _ us hl => match us, hl with | [_, _, _], _ => rfl
  have F20 := fun_mk (st := s_least_ahead) l20 c20 k20
  have b20 : Binds K _ P_least_ahead [] := F20.binds (ps := P_least_ahead) fun _ _ _ _ _ _ us hl => match us, hl with | [_, _, _], _ => rfl
  have F21 := fun_mk (st := s_always_best) l21 c21 k21
  have b21 : Binds K _ P_always_best [] := F21.binds (ps := P_always_best) fun _ _ _ _ _ _ us hl => match us, hl with | [_], _ => rfl
  have F22 := fun_mk (st := s__law_taken_of) l22 c22 k22
  have b22 : Binds K _ P__law_taken_of [] := F22.binds (ps := P__law_taken_of) fun _ _ _ _ _ _ us hl => match us, hl with | [_, _], _ => rfl
  have F23 := fun_mk (st := s__law_same) l23 c23 k23
  have b23 : Binds K _ P__law_same [] := F23.binds (ps := P__law_same) fun _ _ _ _ _ _ us hl => match us, hl with | [_, _, _], _ => rfl
  have F24 := fun_mk (st := s_law) l24 c24 k24
  have b24 : Binds K _ P_law [] := F24.binds (ps := P_law) fun _ _ _ _ _ _ us hl => match us, hl with | [_], _ => rfl
  let T : Tx B mg := { f__law_taken := f0, d__law_taken := _, F__law_taken := F0, m__law_taken := PySem.W.mg_of X G a0, k__law_taken := k0, b__law_taken := b0, f__law_spans := f1, d__law_spans := _, F__law_spans := F1, m__law_spans := PySem.W.mg_of X G a1, k__law_spans := k1, b__law_spans := b1, f_is_from := f2, d_is_from := _, F_is_from := F2, m_is_from := PySem.W.mg_of X G a2, k_is_from := k2, b_is_from := b2, f_is_span := f3, d_is_span := _, F_is_span := F3, m_is_span := PySem.W.mg_of X G a3, k_is_span := k3, b_is_span := b3, f_need_spans := f4, d_need_spans := _, F_need_spans := F4, m_need_spans := PySem.W.mg_of X G a4, k_need_spans := k4, b_need_spans := b4, f_common := f5, d_common := _, F_common := F5, m_common := PySem.W.mg_of X G a5, k_common := k5, b_common := b5, f_made := f6, d_made := _, F_made := F6, m_made := PySem.W.mg_of X G a6, k_made := k6, b_made := b6, f_taken_of := f7, d_taken_of := _, F_taken_of := F7, m_taken_of := PySem.W.mg_of X G a7, k_taken_of := k7, b_taken_of := b7, f_is_less := f8, d_is_less := _, F_is_less := F8, m_is_less := PySem.W.mg_of X G a8, k_is_less := k8, b_is_less := b8, f_worst_of := f9, d_worst_of := _, F_worst_of := F9, m_worst_of := PySem.W.mg_of X G a9, k_worst_of := k9, b_worst_of := b9, f_sure_price := f10, d_sure_price := _, F_sure_price := F10, m_sure_price := PySem.W.mg_of X G a10, k_sure_price := k10, b_sure_price := b10, f__law_corners := f11, d__law_corners := _, F__law_corners := F11, m__law_corners := PySem.W.mg_of X G a11, k__law_corners := k11, b__law_corners := b11, f__law_less := f12, d__law_less := _, F__law_less := F12, m__law_less := PySem.W.mg_of X G a12, k__law_less := k12, b__law_less := b12, f__law_ends := f13, d__law_ends := _, F__law_ends := F13, m__law_ends := PySem.W.mg_of X G a13, k__law_ends := k13, b__law_ends := b13, f_is_price := f14, d_is_price := _, F_is_price := F14, m_is_price := PySem.W.mg_of X G a14, k_is_price := k14, b_is_price := b14, f_need_both := f15, d_need_both := _, F_need_both := F15, m_need_both := PySem.W.mg_of X G a15, k_need_both := k15, b_need_both := b15, f_luckiest_of := f16, d_luckiest_of := _, F_luckiest_of := F16, m_luckiest_of := PySem.W.mg_of X G a16, k_luckiest_of := k16, b_luckiest_of := b16, f_sure_takings := f17, d_sure_takings := _, F_sure_takings := F17, m_sure_takings := PySem.W.mg_of X G a17, k_sure_takings := k17, b_sure_takings := b17, f__law_gcd := f18, d__law_gcd := _, F__law_gcd := F18, m__law_gcd := PySem.W.mg_of X G a18, k__law_gcd := k18, b__law_gcd := b18, f__law_is := f19, d__law_is := _, F__law_is := F19, m__law_is := PySem.W.mg_of X G a19, k__law_is := k19, b__law_is := b19, f_least_ahead := f20, d_least_ahead := _, F_least_ahead := F20, m_least_ahead := PySem.W.mg_of X G a20, k_least_ahead := k20, b_least_ahead := b20, f_always_best := f21, d_always_best := _, F_always_best := F21, m_always_best := PySem.W.mg_of X G a21, k_always_best := k21, b_always_best := b21, f__law_taken_of := f22, d__law_taken_of := _, F__law_taken_of := F22, m__law_taken_of := PySem.W.mg_of X G a22, k__law_taken_of := k22, b__law_taken_of := b22, f__law_same := f23, d__law_same := _, F__law_same := F23, m__law_same := PySem.W.mg_of X G a23, k__law_same := k23, b__law_same := b23, f_law := fa, d_law := _, F_law := F24, m_law := PySem.W.mg_of X G a24, k_law := k24, b_law := b24, n_abs := PySem.W.mg_none_of X G z_abs, n_all := PySem.W.mg_none_of X G z_all, n_any := PySem.W.mg_none_of X G z_any, n_bool := PySem.W.mg_none_of X G z_bool, n_int := PySem.W.mg_none_of X G z_int, n_isinstance := PySem.W.mg_none_of X G z_isinstance, n_len := PySem.W.mg_none_of X G z_len, n_min := PySem.W.mg_none_of X G z_min, n_range := PySem.W.mg_none_of X G z_range, n_sum := PySem.W.mg_none_of X G z_sum, n_tuple := PySem.W.mg_none_of X G z_tuple, t_MOST := t_MOST, m_MOST := PySem.W.mg_of X G g_MOST, t_MOST_WORTHS := t_MOST_WORTHS, m_MOST_WORTHS := PySem.W.mg_of X G g_MOST_WORTHS }
  exact ⟨_, fun s v => .of_eq rfl, fun base _ _ => ok_law (B := B) T hl⟩
end LW
open PySem PySem.W PyProof.Rows
set_option maxHeartbeats 0 in
theorem PySem.Challenge.cw_floorprices_k27_whole_spans_holds : PySem.Challenge.rw_floorprices_k27_whole_spans.Holds := by
  w_on; o_law; k_head; (case hw => w_witness2)
  k_fill
  refine L2.walk_of (l := PySem.Challenge.rw_floorprices_k27_whole_spans) (n := 63) (k := 143) (x := "_law_script") (CX := fun _ => L2.CX0) (sp := fun w => PV.spLaw _) rfl (by decide) rfl ⟨rfl, by decide, by decide⟩ (fun w h Y => PySem.W.kIn_of Y) ?F (fun _ _ a ns hl hO hS => ⟨a, ns, rfl, hS, hO, hl, fun _ => rfl⟩) (fun _ _ _ _ _ h => h)
  case F =>
    intro w mg fa h KX G hmg
    refine' LW.all_mk LW.law_true KX G hmg ?a0 ?l0 ?c0 ?k0 ?a1 ?l1 ?c1 ?k1 ?a2 ?l2 ?c2 ?k2 ?a3 ?l3 ?c3 ?k3 ?a4 ?l4 ?c4 ?k4 ?a5 ?l5 ?c5 ?k5 ?a6 ?l6 ?c6 ?k6 ?a7 ?l7 ?c7 ?k7 ?a8 ?l8 ?c8 ?k8 ?a9 ?l9 ?c9 ?k9 ?a10 ?l10 ?c10 ?k10 ?a11 ?l11 ?c11 ?k11 ?a12 ?l12 ?c12 ?k12 ?a13 ?l13 ?c13 ?k13 ?a14 ?l14 ?c14 ?k14 ?a15 ?l15 ?c15 ?k15 ?a16 ?l16 ?c16 ?k16 ?a17 ?l17 ?c17 ?k17 ?a18 ?l18 ?c18 ?k18 ?a19 ?l19 ?c19 ?k19 ?a20 ?l20 ?c20 ?k20 ?a21 ?l21 ?c21 ?k21 ?a22 ?l22 ?c22 ?k22 ?a23 ?l23 ?c23 ?k23 ?a24 ?l24 ?c24 ?k24 ?z_abs ?z_all ?z_any ?z_bool ?z_int ?z_isinstance ?z_len ?z_min ?z_range ?z_sum ?z_tuple ?g_MOST ?g_MOST_WORTHS
    (case a0 => k_is); (case l0 => k_is); (case c0 => k_is); (case k0 => k_is); (case a1 => k_is); (case l1 => k_is); (case c1 => k_is); (case k1 => k_is); (case a2 => k_is); (case l2 => k_is); (case c2 => k_is); (case k2 => k_is); (case a3 => k_is); (case l3 => k_is); (case c3 => k_is); (case k3 => k_is); (case a4 => k_is); (case l4 => k_is); (case c4 => k_is); (case k4 => k_is); (case a5 => k_is); (case l5 => k_is); (case c5 => k_is); (case k5 => k_is); (case a6 => k_is); (case l6 => k_is); (case c6 => k_is); (case k6 => k_is); (case a7 => k_is); (case l7 => k_is); (case c7 => k_is); (case k7 => k_is); (case a8 => k_is); (case l8 => k_is); (case c8 => k_is); (case k8 => k_is); (case a9 => k_is); (case l9 => k_is); (case c9 => k_is); (case k9 => k_is); (case a10 => k_is); (case l10 => k_is); (case c10 => k_is); (case k10 => k_is); (case a11 => k_is); (case l11 => k_is); (case c11 => k_is); (case k11 => k_is); (case a12 => k_is); (case l12 => k_is); (case c12 => k_is); (case k12 => k_is); (case a13 => k_is); (case l13 => k_is); (case c13 => k_is); (case k13 => k_is); (case a14 => k_is); (case l14 => k_is); (case c14 => k_is); (case k14 => k_is); (case a15 => k_is); (case l15 => k_is); (case c15 => k_is); (case k15 => k_is); (case a16 => k_is); (case l16 => k_is); (case c16 => k_is); (case k16 => k_is); (case a17 => k_is); (case l17 => k_is); (case c17 => k_is); (case k17 => k_is); (case a18 => k_is); (case l18 => k_is); (case c18 => k_is); (case k18 => k_is); (case a19 => k_is); (case l19 => k_is); (case c19 => k_is); (case k19 => k_is); (case a20 => k_is); (case l20 => k_is); (case c20 => k_is); (case k20 => k_is); (case a21 => k_is); (case l21 => k_is); (case c21 => k_is); (case k21 => k_is); (case a22 => k_is); (case l22 => k_is); (case c22 => k_is); (case k22 => k_is); (case a23 => k_is); (case l23 => k_is); (case c23 => k_is); (case k23 => k_is); (case a24 => k_is); (case l24 => k_is); (case c24 => k_is); (case k24 => k_is); (case z_abs => k_is); (case z_all => k_is); (case z_any => k_is); (case z_bool => k_is); (case z_int => k_is); (case z_isinstance => k_is); (case z_len => k_is); (case z_min => k_is); (case z_range => k_is); (case z_sum => k_is); (case z_tuple => k_is); (case g_MOST => k_is); (case g_MOST_WORTHS => k_is)

import PyProof.Rows.All
import Wide.All
import OpenK.AllK
import Wide.FinOn
import PySem.Challenge.RW_floorprices_k05_rules_checked
import HandS.ForMost
import HandS.ForExc
import HandS.Walk
import HandS.Evl
import HandS.TupAny
import HandS.TupMul
import HandS.Style
import HandS.Wide
import HandS.Zip
import HandS.Rev
import HandS.IsInst
import HandS.SortInts
import HandS.SortRule
import HandS.Strs
import KE.KTupSum
import KE.GoesEnum
import KE.GoesMore
import HandS.SetFor
import KE.GoesNew
import HandS.ExcInit
import HandS.TryMany
import HandS.ExcField
import HandS.Star
import HandS.Conv
import HandS.Iter
import HandS.Dict
import HandS.DictComp
set_option Elab.async false
set_option linter.all false
set_option maxRecDepth 100000
set_option maxHeartbeats 4000000
/-! PV: Python data as plain values; readings of the hand layer as functions over them. -/
namespace PV
open PySem L2

inductive D where
  | non
  | bl (b : Bool)
  | int (i : Int)
  | str (x : Str)
  | tup (ds : List D)
  | lst (ds : List D)
  | dic (ks : List Str) (ds : List D)
  | sal (c n : D)
  | row
  | obj (a : Addr)
  | fn (x : Str)
  | dct (ks : List (List Int)) (ds : List D)
instance : Inhabited D := ⟨.non⟩

/-- the state of the draws -/
structure S where
  ns : List Int
  pos : Nat
  mix : Int
  rest : Int

structure Err where
  cls : Str
  val : List D

inductive Out (α : Type) where
  | stuck
  | ok (a : α) (s : S)
  | err (e : Err) (s : S)

abbrev M (α : Type) := S → Out α
def Out.bind {α β : Type} : Out α → (α → S → Out β) → Out β
  | .stuck, _ => .stuck
  | .ok a s, k => k a s
  | .err e s, _ => .err e s
@[simp] theorem bind_ok {α β : Type} {a : α} {s : S} {k : α → S → Out β} : (Out.ok a s).bind k = k a s := rfl
@[simp] theorem bind_err {α β : Type} {e : Err} {s : S} {k : α → S → Out β} : (Out.err e s).bind k = .err e s := rfl
@[simp] theorem bind_stuck {α β : Type} {k : α → S → Out β} : (Out.stuck : Out α).bind k = .stuck := rfl
def Out.post {α : Type} (P : α → S → Prop) (R : Err → S → Prop) : Out α → Prop
  | .stuck => False
  | .ok a s => P a s
  | .err e s => R e s
theorem post_bind {α β : Type} {o : Out α} {k : α → S → Out β} {P : β → S → Prop} {R : Err → S → Prop} (h : (o.bind k).post P R) : o.post (fun a s => (k a s).post P R) R := by
  cases o with
  | stuck => exact h
  | ok a s => exact h
  | err e s => exact h
theorem post_mono {α : Type} {o : Out α} {P P' : α → S → Prop} {R R' : Err → S → Prop} (h : o.post P R) (hp : ∀ a s, P a s → P' a s) (hr : ∀ e s, R e s → R' e s) : o.post P' R' := by
  cases o with
  | stuck => exact h
  | ok a s => exact hp a s h
  | err e s => exact hr e s h

/-- the written part, and the class of sales -/
structure Bs where
  K : PySem.W.Frag
  cs : Addr
  xc : Str → Addr
  lit : Bool := true

def hid (H : Hp) (O : List Addr) : Hp := fun a => if a ∈ O then none else H a
theorem hid_in {H : Hp} {O : List Addr} {a : Addr} (h : a ∈ O) : hid H O a = none := if_pos h
theorem hid_out {H : Hp} {O : List Addr} {a : Addr} (h : a ∉ O) : hid H O a = H a := if_neg h
theorem hid_some {H : Hp} {O : List Addr} {a : Addr} {o : HO} (h : hid H O a = some o) : a ∉ O ∧ H a = some o := by
  by_cases q : a ∈ O
  · rw [hid_in q] at h; cases h
  · rw [hid_out q] at h; exact ⟨q, h⟩
theorem hid_le {H : Hp} {O : List Addr} : Same (hid H O) H := fun a o h => (hid_some h).2
theorem hid_sub {H : Hp} {O O' : List Addr} (h : ∀ a ∈ O, a ∈ O') : Same (hid H O') (hid H O) := fun a o e => by
  have ⟨h1, h2⟩ := hid_some e
  rw [hid_out fun z => h1 (h a z)]; exact h2
theorem hid_upd {H : Hp} {O : List Addr} {p : Addr} {o : HO} (h : p ∈ O) : hid (upd H p o) O = hid H O := by
  funext a
  by_cases q : a ∈ O
  · rw [hid_in q, hid_in q]
  · rw [hid_out q, hid_out q, upd_ne (fun e => q (by rw [e]; exact h))]

/-! ### what stands for what -/
/-- a tuple: tracked, or (where the law lets it) one of the written part -/
def TuA (B : Bs) (H : Hp) (a : Addr) (vs : List V) : Prop := H a = some (.tup vs) ∨ (B.lit = true ∧ SqT B.K H a vs)
theorem TuA.of {B : Bs} {H : Hp} {a : Addr} {vs : List V} (h : H a = some (.tup vs)) : TuA B H a vs := .inl h
theorem TuA.sq {B : Bs} {H : Hp} {a : Addr} {vs : List V} (h : TuA B H a vs) : SqT B.K H a vs := h.elim SqT.of (·.2)
theorem TuA.same {B : Bs} {H H' : Hp} {a : Addr} {vs : List V} (e : Same H H') (h : TuA B H a vs) : TuA B H' a vs := h.elim (fun z => .inl (e _ _ z)) (fun z => .inr ⟨z.1, Evl.ex_t e z.2⟩)
def kI (ks : List Int) : List Key := ks.map Sum.inl
mutual
inductive Rep (B : Bs) (r : Addr) (H : Hp) : V → D → Prop
  | non : Rep B r H .non .non
  | bl (b : Bool) : Rep B r H (.bl b) (.bl b)
  | int (i : Int) : Rep B r H (.int i) (.int i)
  | str (x : Str) : Rep B r H (.str x) (.str x)
  | tup {a : Addr} {vs : List V} {ds : List D} : TuA B H a vs → Reps B r H vs ds → Rep B r H (.ref a) (.tup ds)
  | lst {a : Addr} {vs : List V} {ds : List D} : H a = some (.lst vs) → Reps B r H vs ds → Rep B r H (.ref a) (.lst ds)
  | dic {a : Addr} {kvs : List (Key × V)} {vs : List V} {ks : List Str} {ds : List D} : H a = some (.dK kvs) → kvs = (ks.map Sum.inr).zip vs → ks.length = vs.length → Reps B r H vs ds → Rep B r H (.ref a) (.dic ks ds)
  | sal {a dx : Addr} {vc vn : V} {c n : D} : H a = some (.ins B.cs dx [("crowd", vc), ("stock", vn)]) → Rep B r H vc c → Rep B r H vn n → Rep B r H (.ref a) (.sal c n)
  | row : Rep B r H (.ref r) .row
  | obj (a : Addr) : Rep B r H (.ref a) (.obj a)
  | fn (x : Str) : Rep B r H (.ref (B.xc x)) (.fn x)
  | dct {a : Addr} {kvs : List (List Key × V)} {vs : List V} {ks : List (List Int)} {ds : List D} : H a = some (.dT kvs) → kvs = (ks.map kI).zip vs → ks.length = vs.length → Reps B r H vs ds → Rep B r H (.ref a) (.dct ks ds)
inductive Reps (B : Bs) (r : Addr) (H : Hp) : List V → List D → Prop
  | nil : Reps B r H [] []
  | cons {v : V} {d : D} {vs : List V} {ds : List D} : Rep B r H v d → Reps B r H vs ds → Reps B r H (v :: vs) (d :: ds)
end

theorem same_t {K : PySem.W.Frag} {H H' : Hp} {a : Addr} {xs : List V} (e : Same H H') (h : SqT K H a xs) : SqT K H' a xs := Evl.ex_t e h
mutual
theorem Rep.mono {B : Bs} {r : Addr} {H H' : Hp} (e : Same H H') : ∀ {v : V} {d : D}, Rep B r H v d → Rep B r H' v d
  | _, _, .non => .non
  | _, _, .bl b => .bl b
  | _, _, .int i => .int i
  | _, _, .str x => .str x
  | _, _, .tup h hs => .tup (h.same e) (Reps.mono e hs)
  | _, _, .lst h hs => .lst (e _ _ h) (Reps.mono e hs)
  | _, _, .dic h hk hl hs => .dic (e _ _ h) hk hl (Reps.mono e hs)
  | _, _, .sal h h1 h2 => .sal (e _ _ h) (Rep.mono e h1) (Rep.mono e h2)
  | _, _, .row => .row
  | _, _, .obj a => .obj a
  | _, _, .fn x => .fn x
  | _, _, .dct h hk hl hs => .dct (e _ _ h) hk hl (Reps.mono e hs)
theorem Reps.mono {B : Bs} {r : Addr} {H H' : Hp} (e : Same H H') : ∀ {vs : List V} {ds : List D}, Reps B r H vs ds → Reps B r H' vs ds
  | _, _, .nil => .nil
  | _, _, .cons h hs => .cons (Rep.mono e h) (Reps.mono e hs)
end
section
variable {B : Bs} {r : Addr} {H : Hp}
theorem Reps.length : ∀ {vs : List V} {ds : List D}, Reps B r H vs ds → vs.length = ds.length
  | _, _, .nil => rfl
  | _, _, .cons _ hs => by rw [List.length_cons, List.length_cons, Reps.length hs]
theorem Reps.get : ∀ {vs : List V} {ds : List D}, Reps B r H vs ds → ∀ (i : Nat) (d : D), ds[i]? = some d → ∃ v, vs[i]? = some v ∧ Rep B r H v d
  | _, _, .nil, i, d, h => by simp at h
  | _, _, .cons h hs, 0, d, e => by
    cases (Option.some.inj e : _ = d)
    exact ⟨_, rfl, h⟩
  | _, _, .cons h hs, i + 1, d, e => by
    obtain ⟨v, h1, h2⟩ := Reps.get hs i d (by simpa using e)
    exact ⟨v, by simpa using h1, h2⟩
theorem Reps.get' : ∀ {vs : List V} {ds : List D}, Reps B r H vs ds → ∀ (i : Nat) (v : V), vs[i]? = some v → ∃ d, ds[i]? = some d ∧ Rep B r H v d
  | _, _, .nil, i, d, h => by simp at h
  | _, _, .cons h hs, 0, d, e => by
    cases (Option.some.inj e : _ = d)
    exact ⟨_, rfl, h⟩
  | _, _, .cons h hs, i + 1, d, e => by
    obtain ⟨v, h1, h2⟩ := Reps.get' hs i d (by simpa using e)
    exact ⟨v, by simpa using h1, h2⟩
theorem Reps.append : ∀ {vs ws : List V} {ds es : List D}, Reps B r H vs ds → Reps B r H ws es → Reps B r H (vs ++ ws) (ds ++ es)
  | _, _, _, _, .nil, q => q
  | _, _, _, _, .cons h hs, q => .cons h (Reps.append hs q)
theorem Reps.take : ∀ {vs : List V} {ds : List D} (n : Nat), Reps B r H vs ds → Reps B r H (vs.take n) (ds.take n)
  | _, _, 0, _ => by simpa using Reps.nil
  | _, _, n + 1, .nil => .nil
  | _, _, n + 1, .cons h hs => .cons h (Reps.take n hs)
theorem Reps.drop : ∀ {vs : List V} {ds : List D} (n : Nat), Reps B r H vs ds → Reps B r H (vs.drop n) (ds.drop n)
  | _, _, 0, h => h
  | _, _, n + 1, .nil => .nil
  | _, _, n + 1, .cons h hs => Reps.drop n hs
theorem Reps.reverse : ∀ {vs : List V} {ds : List D}, Reps B r H vs ds → Reps B r H vs.reverse ds.reverse
  | _, _, .nil => .nil
  | _, _, .cons h hs => by
    rw [List.reverse_cons, List.reverse_cons]
    exact (Reps.reverse hs).append (.cons h .nil)
theorem Reps.set : ∀ {vs : List V} {ds : List D} {v : V} {d : D} (n : Nat), Reps B r H vs ds → Rep B r H v d → Reps B r H (vs.set n v) (ds.set n d)
  | _, _, _, _, _, .nil, _ => .nil
  | _, _, _, _, 0, .cons h hs, q => .cons q hs
  | _, _, _, _, n + 1, .cons h hs, q => .cons h (Reps.set n hs q)
theorem Reps.rep {v : V} {d : D} (h : Rep B r H v d) : ∀ n, Reps B r H (List.replicate n v) (List.replicate n d)
  | 0 => .nil
  | n + 1 => .cons h (Reps.rep h n)
theorem Reps.flat {vs : List V} {ds : List D} (h : Reps B r H vs ds) : ∀ n, Reps B r H (List.replicate n vs).flatten (List.replicate n ds).flatten
  | 0 => .nil
  | n + 1 => by
    rw [List.replicate_succ, List.replicate_succ, List.flatten_cons, List.flatten_cons]
    exact h.append (Reps.flat h n)
theorem Reps.ints {ns : List Int} : ∀ {vs : List V}, Reps B r H vs (ns.map D.int) → vs = ns.map V.int := by
  induction ns with
  | nil => intro vs h; cases h; rfl
  | cons n ns ih => intro vs h; cases h with | cons h hs => cases h; rw [ih hs]; rfl
theorem Reps.of_ints : ∀ (ns : List Int), Reps B r H (ns.map V.int) (ns.map D.int)
  | [] => .nil
  | n :: ns => .cons (.int n) (Reps.of_ints ns)
theorem Reps.bls {bs : List Bool} : ∀ {vs : List V}, Reps B r H vs (bs.map D.bl) → vs = bs.map V.bl := by
  induction bs with
  | nil => intro vs h; cases h; rfl
  | cons n ns ih => intro vs h; cases h with | cons h hs => cases h; rw [ih hs]; rfl
end

/-! ### the state of a def -/
abbrev En := List (Option D)
def Scr (K : PySem.W.Frag) (H : Hp) (sa : Addr) (xs : List V) : Prop := (∃ o, H sa = some (.frz o (.lst xs))) ∨ ∀ H', SqL K H' sa xs
theorem Scr.sq {K : PySem.W.Frag} {H : Hp} {sa : Addr} {xs : List V} (h : Scr K H sa xs) : SqL K H sa xs := h.elim (fun ⟨o, e⟩ => .inl (.inr ⟨o, e⟩)) (fun z => z H)
def RowAt (B : Bs) (r sa : Addr) (H : Hp) (s : S) : Prop := H r = some (.lst [.ref sa, .int (s.pos : Int), .int s.mix, .int s.rest]) ∧ Scr B.K H sa (s.ns.map V.int)
/-- all but the row stands as it did -/
def Stp (r : Addr) (H H' : Hp) : Prop := ∀ a o, a ≠ r → H a = some o → H' a = some o
theorem Stp.refl {r : Addr} (H : Hp) : Stp r H H := fun _ _ _ h => h
theorem Stp.trans {r : Addr} {H H1 H2 : Hp} (a : Stp r H H1) (b : Stp r H1 H2) : Stp r H H2 := fun x o n h => b x o n (a x o n h)
theorem Stp.of {r : Addr} {H H' : Hp} (e : Same H H') : Stp r H H' := fun a o _ h => e a o h
theorem Stp.hid {r : Addr} {H H' : Hp} {O : List Addr} (e : Stp r H H') (hr : r ∈ O) : Same (hid H O) (hid H' O) := fun a o h => by
  have ⟨h1, h2⟩ := hid_some h
  rw [hid_out h1]
  exact e a o (fun z => h1 (z ▸ hr)) h2
theorem Stp.new {r : Addr} {H : Hp} {p : Addr} {o : HO} (h : H p = none) : Stp r H (upd H p o) := fun a u _ e => by
  rw [upd_ne (ne_of_none e h)]; exact e
theorem RowAt.same {B : Bs} {r sa : Addr} {H H' : Hp} {s : S} (e : Same H H') (h : RowAt B r sa H s) : RowAt B r sa H' s := ⟨e _ _ h.1, h.2.elim (fun ⟨o, q⟩ => .inl ⟨o, e _ _ q⟩) .inr⟩
theorem RowAt.new {B : Bs} {r sa : Addr} {H : Hp} {s : S} {p : Addr} {o : HO} (h : RowAt B r sa H s) (n : H p = none) : RowAt B r sa (upd H p o) s := h.same fun a u e => by
  rw [upd_ne (ne_of_none e n)]; exact e

structure Gd (B : Bs) (r sa : Addr) (H0 : Hp) (O0 : List Addr) (W : List Nat) (O : List Addr) (σ : St) (δ : En) (s : S) (H : Hp) : Prop where
  len : σ.length = δ.length
  row : RowAt B r sa H s
  r0 : r ∈ O0
  dom : ∀ p ∈ O, H p ≠ none
  dom0 : ∀ p ∈ O0, H0 p ≠ none
  sub : ∀ p ∈ O0, p ∈ O
  frsh : ∀ p ∈ O, p ∈ O0 ∨ H0 p = none
  stp : Stp r H0 H
  val : ∀ i d, i ∉ W → δ[i]? = some (some d) → ∃ v, σ[i]? = some (some v) ∧ Rep B r (hid H O) v d
  own : ∀ i d, i ∈ W → δ[i]? = some (some d) → ∃ p vs ds, d = .lst ds ∧ σ[i]? = some (some (.ref p)) ∧ p ∈ O ∧ p ∉ O0 ∧ H p = some (.lst vs) ∧ Reps B r (hid H O) vs ds
  inj : ∀ i j p d e, i ∈ W → j ∈ W → i ≠ j → δ[i]? = some (some d) → δ[j]? = some (some e) → σ[i]? = some (some (.ref p)) → σ[j]? = some (some (.ref p)) → False
section
variable {B : Bs} {r sa : Addr} {H0 : Hp} {O0 : List Addr} {W : List Nat} {O : List Addr} {σ : St} {δ : En} {s s' : S} {H H' : Hp}
theorem Gd.rO (g : Gd B r sa H0 O0 W O σ δ s H) : r ∈ O := g.sub r g.r0
/-- behind an expression -/
theorem Gd.step (g : Gd B r sa H0 O0 W O σ δ s H) (e : Stp r H H') (hr : RowAt B r sa H' s') : Gd B r sa H0 O0 W O σ δ s' H' := by
  have sm : Same (hid H O) (hid H' O) := e.hid g.rO
  refine ⟨g.len, hr, g.r0, fun p hp => ?_, g.dom0, g.sub, g.frsh, g.stp.trans e, fun i d hi h => ?_, fun i d hi h => ?_, g.inj⟩
  · by_cases q : p = r
    · rw [q, hr.1]; exact fun z => nomatch z
    · cases h1 : H p with
      | none => exact absurd h1 (g.dom p hp)
      | some o => rw [e p o q h1]; exact fun z => nomatch z
  · obtain ⟨v, h1, h2⟩ := g.val i d hi h
    exact ⟨v, h1, h2.mono sm⟩
  · obtain ⟨p, vs, ds, h1, h2, h3, h4, h5, h6⟩ := g.own i d hi h
    exact ⟨p, vs, ds, h1, h2, h3, h4, e p _ (fun z => h4 (z ▸ g.r0)) h5, h6.mono sm⟩
/-- the slots change -/
theorem Gd.set {i : Nat} {v : V} {d : D} (g : Gd B r sa H0 O0 W O σ δ s H) (hi : i ∉ W) (h : Rep B r (hid H O) v d) : Gd B r sa H0 O0 W O (σ.set i (some v)) (δ.set i (some d)) s H := by
  refine ⟨by rw [List.length_set, List.length_set, g.len], g.row, g.r0, g.dom, g.dom0, g.sub, g.frsh, g.stp, fun j e hj q => ?_, fun j e hj q => ?_, fun j k p e e' hj hk ne q1 q2 q3 q4 => ?_⟩
  · by_cases z : i = j
    · subst z
      rw [List.getElem?_set] at q
      split at q
      · split at q
        · have q : d = e := by simpa using q
          subst q
          refine ⟨v, ?_, h⟩
          rw [List.getElem?_set_self (by rw [g.len]; assumption)]
        · cases q
      · rename_i hn; exact absurd rfl hn
    · rw [List.getElem?_set_ne z] at q ⊢
      exact g.val j e hj q
  · have z : i ≠ j := fun z => hi (z ▸ hj)
    rw [List.getElem?_set_ne z] at q ⊢
    exact g.own j e hj q
  · have z : i ≠ j := fun z => hi (z ▸ hj)
    have z' : i ≠ k := fun z => hi (z ▸ hk)
    rw [List.getElem?_set_ne z] at q1 q3
    rw [List.getElem?_set_ne z'] at q2 q4
    exact g.inj j k p e e' hj hk ne q1 q2 q3 q4
end
end PV

namespace PV
open PySem L2

/-- the fields of the errors, the last one told first -/
def xFl (c : Str) : List Str := if c = "BadBuyers" ∨ c = "BadSeen" then ["index"] else if c = "BadNumber" then ["n"] else if c = "InvalidText" then ["word", "line"] else []
def XRep (B : Bs) (r : Addr) (H : Hp) (e : Err) (cl : Value) (d : Option Addr) : Prop :=
  cl = .ref (B.xc e.cls) ∧ (e.val = [] ∨ ∃ dx fs vs, d = some dx ∧ H dx = some (.xd fs) ∧ fs = (xFl e.cls).zip vs ∧ Reps B r H vs e.val)
def EPost (B : Bs) (E : Option XK) (r sa : Addr) (H : Hp) (O : List Addr) (e : Err) (s' : S) : Prop := match E with
  | none => False
  | some E => ∀ cl d H', Stp r H H' → RowAt B r sa H' s' → XRep B r (hid H' O) e cl d → E cl d H'
theorem EPost.mono {B : Bs} {E : Option XK} {r sa : Addr} {H H1 : Hp} {O : List Addr} {e : Err} {s' : S} (st : Stp r H H1) (h : EPost B E r sa H O e s') : EPost B E r sa H1 O e s' := by
  cases E with
  | none => exact h
  | some E => exact fun cl d H' a b c => h cl d H' (st.trans a) b c
def xk : Option XK → XK | none => E0 | some E => E
abbrev OkV (B : Bs) (r sa : Addr) (H : Hp) (O : List Addr) (Q : VK) : D → S → Prop := fun d s' => ∀ v H', Stp r H H' → RowAt B r sa H' s' → Rep B r (hid H' O) v d → Q v H'
abbrev OkT (B : Bs) (r sa : Addr) (H : Hp) (Q : Bool → Hp → Prop) : Bool → S → Prop := fun b s' => ∀ H', Stp r H H' → RowAt B r sa H' s' → Q b H'
abbrev OkA (B : Bs) (r sa : Addr) (H : Hp) (O : List Addr) (Q : List V → Hp → Prop) : List D → S → Prop := fun d s' => ∀ v H', Stp r H H' → RowAt B r sa H' s' → Reps B r (hid H' O) v d → Q v H'
def RdE (B : Bs) (W : List Nat) (E : Option XK) (t : TE) (f : En → M D) : Prop :=
  ∀ {r sa : Addr} {H0 : Hp} {O0 O : List Addr} {σ : St} {δ : En} {s : S} {H : Hp}, Gd B r sa H0 O0 W O σ δ s H → ∀ Q : VK, (f δ s).post (OkV B r sa H O Q) (EPost B E r sa H O) → t σ H Q
def RdT (B : Bs) (W : List Nat) (E : Option XK) (t : TT) (f : En → M Bool) : Prop :=
  ∀ {r sa : Addr} {H0 : Hp} {O0 O : List Addr} {σ : St} {δ : En} {s : S} {H : Hp}, Gd B r sa H0 O0 W O σ δ s H → ∀ Q : Bool → Hp → Prop, (f δ s).post (OkT B r sa H Q) (EPost B E r sa H O) → t σ H Q
def RdA (B : Bs) (W : List Nat) (E : Option XK) (t : TA) (f : En → M (List D)) : Prop :=
  ∀ {r sa : Addr} {H0 : Hp} {O0 O : List Addr} {σ : St} {δ : En} {s : S} {H : Hp}, Gd B r sa H0 O0 W O σ δ s H → ∀ Q : List V → Hp → Prop, (f δ s).post (OkA B r sa H O Q) (EPost B E r sa H O) → t σ H Q

/-- of a value or none -/
def lift {α : Type} (o : Option α) (s : S) : Out α := match o with | some a => .ok a s | none => .stuck
@[simp] theorem lift_some {α : Type} (a : α) (s : S) : lift (some a) s = .ok a s := rfl
@[simp] theorem lift_none {α : Type} (s : S) : lift (none : Option α) s = .stuck := rfl
theorem post_lift {α : Type} {o : Option α} {s : S} {P : α → S → Prop} {R : Err → S → Prop} (h : (lift o s).post P R) : ∃ a, o = some a ∧ P a s := by
  cases o with
  | none => exact h.elim
  | some a => exact ⟨a, rfl, h⟩

def cVar (i : Nat) : En → M D := fun δ s => lift (δ[i]?.join) s
def cC (d : D) : En → M D := fun _ s => .ok d s
def cOp (g : D → D → Option D) (fa fb : En → M D) : En → M D := fun δ s => (fa δ s).bind fun x s1 => (fb δ s1).bind fun y s2 => lift (g x y) s2
def cUn (g : D → Option D) (fa : En → M D) : En → M D := fun δ s => (fa δ s).bind fun x s1 => lift (g x) s1
def cNil : En → M (List D) := fun _ s => .ok [] s
def cCons (fa : En → M D) (fr : En → M (List D)) : En → M (List D) := fun δ s => (fa δ s).bind fun x s1 => (fr δ s1).bind fun xs s2 => .ok (x :: xs) s2
def cB (g : List D → Option D) (fa : En → M (List D)) : En → M D := fun δ s => (fa δ s).bind fun ds s1 => lift (g ds) s1
def asB : D → Option Bool | .bl b => some b | _ => none
def cTst (f : En → M D) : En → M Bool := fun δ s => (f δ s).bind fun d s1 => lift (asB d) s1
def cAnd (fa fb : En → M Bool) : En → M Bool := fun δ s => (fa δ s).bind fun b s1 => if b then fb δ s1 else .ok false s1
def cOr (fa fb : En → M Bool) : En → M Bool := fun δ s => (fa δ s).bind fun b s1 => if b then .ok true s1 else fb δ s1
def cNot (fa : En → M Bool) : En → M Bool := fun δ s => (fa δ s).bind fun b s1 => .ok (!b) s1
def cAndV (fa fb : En → M D) : En → M D := fun δ s => (fa δ s).bind fun d s1 => (lift (asB d) s1).bind fun b s2 => if b then fb δ s2 else .ok (.bl false) s2
def cOrV (fa fb : En → M D) : En → M D := fun δ s => (fa δ s).bind fun d s1 => (lift (asB d) s1).bind fun b s2 => if b then .ok (.bl true) s2 else fb δ s2
def cNotV (fa : En → M D) : En → M D := fun δ s => (fa δ s).bind fun d s1 => (lift (asB d) s1).bind fun b s2 => .ok (.bl (!b)) s2
def cIf (c : En → M Bool) (fa fb : En → M D) : En → M D := fun δ s => (c δ s).bind fun b s1 => if b then fa δ s1 else fb δ s1
def cTup (fa : En → M (List D)) : En → M D := fun δ s => (fa δ s).bind fun ds s1 => if ds.length ≤ 100000 then .ok (.tup ds) s1 else .stuck
def cLst (fa : En → M (List D)) : En → M D := fun δ s => (fa δ s).bind fun ds s1 => if ds.length ≤ 100000 then .ok (.lst ds) s1 else .stuck
def scal : D → Bool | .non => true | .bl _ => true | .int _ => true | .str _ => true | _ => false
def calmO {α : Type} (p : α → Bool) : Out α → Out α | .ok a s => if p a then .ok a s else .stuck | _ => .stuck
theorem post_calm {α : Type} {p : α → Bool} {o : Out α} {P : α → S → Prop} {R R' : Err → S → Prop} (h : (calmO p o).post P R) : o.post (fun a s => p a = true ∧ P a s) R' := by
  cases o with
  | stuck => exact h
  | err e s => exact h.elim
  | ok a s =>
    have h : (if p a then Out.ok a s else Out.stuck).post P R := h
    cases q : p a with
    | true => rw [q] at h; exact ⟨q, h⟩
    | false => rw [q] at h; exact h.elim
def cScal (f : En → M D) : En → M D := fun δ s => calmO scal (f δ s)
def cPk (f : En → M Bool) : En → M Bool := fun δ s => calmO (fun _ => true) (f δ s)
def cChain (g g' : D → D → Option D) (fa fb fc : En → M D) : En → M D := fun δ s => (fa δ s).bind fun x s1 => (fb δ s1).bind fun y s2 => (lift (g x y) s2).bind fun z s3 => (lift (asB z) s3).bind fun b s4 => if b then (fc δ s4).bind fun w s5 => lift (g' y w) s5 else .ok (.bl false) s4

/-- operations by values -/
def OpS (B : Bs) (r2 : R2) (g : D → D → Option D) : Prop := ∀ (r : Addr) (O : List Addr) (H : Hp) (x y : V) (dx dy d : D) (Q : VK), (∀ p ∈ O, H p ≠ none) → Rep B r (hid H O) x dx → Rep B r (hid H O) y dy → g dx dy = some d →
  (∀ v H', Same H H' → Rep B r (hid H' O) v d → Q v H') → r2 x y H Q
def UnS (B : Bs) (r1 : V → Hp → VK → Prop) (g : D → Option D) : Prop := ∀ (r : Addr) (O : List Addr) (H : Hp) (x : V) (dx d : D) (Q : VK), (∀ p ∈ O, H p ≠ none) → Rep B r (hid H O) x dx → g dx = some d →
  (∀ v H', Same H H' → Rep B r (hid H' O) v d → Q v H') → r1 x H Q
def CaS (B : Bs) (rc : List V → Hp → VK → Prop) (g : List D → Option D) : Prop := ∀ (r : Addr) (O : List Addr) (H : Hp) (xs : List V) (ds : List D) (d : D) (Q : VK), (∀ p ∈ O, H p ≠ none) → Reps B r (hid H O) xs ds → g ds = some d →
  (∀ v H', Same H H' → Rep B r (hid H' O) v d → Q v H') → rc xs H Q

section
variable {B : Bs} {W : List Nat} {E : Option XK} {ta tb tc te : TE} {tA tB' : TT} {tr : TA} {fa fb fc : En → M D} {ba bb : En → M Bool} {fr : En → M (List D)} {r2 r2' : R2} {g g' : D → D → Option D}

theorem rd_var {i : Nat} (hi : decide (i ∉ W) = true := by rfl) : RdE B W E (tVar i) (cVar i) := by
  intro r sa H0 O0 O σ δ s H gd Q h
  obtain ⟨d, e, h⟩ := post_lift h
  obtain ⟨v, h1, h2⟩ := gd.val i d (of_decide_eq_true hi) (by
    cases q : δ[i]? with
    | none => rw [q] at e; cases e
    | some o => rw [q] at e; cases o with
      | none => cases e
      | some d' => cases (Option.some.inj e : d' = d); rfl)
  exact ⟨v, h1, h v H (Stp.refl H) gd.row h2⟩
theorem rd_c {v : V} {d : D} (hv : ∀ r H, Rep B r H v d) : RdE B W E (tC v) (cC d) := by
  intro r sa H0 O0 O σ δ s H gd Q h
  exact h v H (Stp.refl H) gd.row (hv r _)
theorem rd_int {i : Int} : RdE B W E (tC (.int i)) (cC (.int i)) := rd_c fun _ _ => .int i
theorem rd_bl {b : Bool} : RdE B W E (tC (.bl b)) (cC (.bl b)) := rd_c fun _ _ => .bl b
theorem rd_non : RdE B W E (tC .non) (cC .non) := rd_c fun _ _ => .non
theorem rd_str {x : Str} : RdE B W E (tC (.str x)) (cC (.str x)) := rd_c fun _ _ => .str x

theorem rd_op (ho : OpS B r2 g) (ha : RdE B W E ta fa) (hb : RdE B W E tb fb) : RdE B W E (tOp r2 ta tb) (cOp g fa fb) := by
  intro r sa H0 O0 O σ δ s H gd Q h
  refine ha gd _ (post_mono (post_bind h) (fun x s1 hx v H1 st ra rp => ?_) (fun _ _ z => z))
  refine hb (gd.step st ra) _ (post_mono (post_bind hx) (fun y s2 hy w H2 st2 ra2 rp2 => ?_) (fun _ _ z => z.mono st))
  obtain ⟨d, e, hd⟩ := post_lift hy
  have gd2 := (gd.step st ra).step st2 ra2
  refine ho r O H2 v w x y d Q gd2.dom (rp.mono (st2.hid gd.rO)) rp2 e fun u H3 sm rp3 => hd u H3 ((st.trans st2).trans (Stp.of sm)) (ra2.same sm) rp3
theorem rd_un {r1 : V → Hp → VK → Prop} {g : D → Option D} (ho : UnS B r1 g) (ha : RdE B W E ta fa) : RdE B W E (tUn r1 ta) (cUn g fa) := by
  intro r sa H0 O0 O σ δ s H gd Q h
  refine ha gd _ (post_mono (post_bind h) (fun x s1 hx v H1 st ra rp => ?_) (fun _ _ z => z))
  obtain ⟨d, e, hd⟩ := post_lift hx
  refine ho r O H1 v x d Q (gd.step st ra).dom rp e fun u H3 sm rp3 => hd u H3 (st.trans (Stp.of sm)) (ra.same sm) rp3
theorem rd_nil : RdA B W E tNil cNil := by
  intro r sa H0 O0 O σ δ s H gd Q h
  exact h [] H (Stp.refl H) gd.row .nil
theorem rd_cons (ha : RdE B W E ta fa) (hb : RdA B W E tr fr) : RdA B W E (tCons ta tr) (cCons fa fr) := by
  intro r sa H0 O0 O σ δ s H gd Q h
  refine ha gd _ (post_mono (post_bind h) (fun x s1 hx v H1 st ra rp => ?_) (fun _ _ z => z))
  refine hb (gd.step st ra) _ (post_mono (post_bind hx) (fun y s2 hy w H2 st2 ra2 rp2 => ?_) (fun _ _ z => z.mono st))
  exact hy _ _ (st.trans st2) ra2 (.cons (rp.mono (st2.hid gd.rO)) rp2)
theorem rd_b {rc : List V → Hp → VK → Prop} {g : List D → Option D} (ho : CaS B rc g) (ha : RdA B W E tr fr) : RdE B W E (tCB rc tr) (cB g fr) := by
  intro r sa H0 O0 O σ δ s H gd Q h
  refine ha gd _ (post_mono (post_bind h) (fun x s1 hx v H1 st ra rp => ?_) (fun _ _ z => z))
  obtain ⟨d, e, hd⟩ := post_lift hx
  refine ho r O H1 v x d Q (gd.step st ra).dom rp e fun u H3 sm rp3 => hd u H3 (st.trans (Stp.of sm)) (ra.same sm) rp3
theorem rep_bl {r : Addr} {H : Hp} {v : V} {d : D} {b : Bool} (h : Rep B r H v d) (e : asB d = some b) : v = .bl b ∧ d = .bl b := by
  cases d <;> simp [asB] at e
  subst e
  cases h; exact ⟨rfl, rfl⟩
theorem rt_b (ha : RdE B W E ta fa) : RdT B W E (tB ta) (cTst fa) := by
  intro r sa H0 O0 O σ δ s H gd Q h
  refine ha gd _ (post_mono (post_bind h) (fun x s1 hx v H1 st ra rp => ?_) (fun _ _ z => z))
  obtain ⟨b, e, hd⟩ := post_lift hx
  exact ⟨b, (rep_bl rp e).1, hd H1 st ra⟩
theorem rt_and (ha : RdT B W E tA ba) (hb : RdT B W E tB' bb) : RdT B W E (tAnd tA tB') (cAnd ba bb) := by
  intro r sa H0 O0 O σ δ s H gd Q h
  refine ha gd _ (post_mono (post_bind h) (fun b s1 hx H1 st ra => ?_) (fun _ _ z => z))
  cases b with
  | true => exact hb (gd.step st ra) Q (post_mono hx (fun c s2 q H2 st2 ra2 => q H2 (st.trans st2) ra2) (fun _ _ z => z.mono st))
  | false => exact hx H1 st ra
theorem rt_or (ha : RdT B W E tA ba) (hb : RdT B W E tB' bb) : RdT B W E (tOr tA tB') (cOr ba bb) := by
  intro r sa H0 O0 O σ δ s H gd Q h
  refine ha gd _ (post_mono (post_bind h) (fun b s1 hx H1 st ra => ?_) (fun _ _ z => z))
  cases b with
  | false => exact hb (gd.step st ra) Q (post_mono hx (fun c s2 q H2 st2 ra2 => q H2 (st.trans st2) ra2) (fun _ _ z => z.mono st))
  | true => exact hx H1 st ra
theorem rt_not (ha : RdT B W E tA ba) : RdT B W E (tNot tA) (cNot ba) := by
  intro r sa H0 O0 O σ δ s H gd Q h
  refine ha gd _ (post_mono (post_bind h) (fun b s1 hx H1 st ra => ?_) (fun _ _ z => z))
  exact hx H1 st ra
theorem rd_andV (ha : RdE B W E ta fa) (hb : RdE B W E tb fb) : RdE B W E (tAndV ta tb) (cAndV fa fb) := by
  intro r sa H0 O0 O σ δ s H gd Q h
  refine ha gd _ (post_mono (post_bind h) (fun x s1 hx v H1 st ra rp => ?_) (fun _ _ z => z))
  obtain ⟨b, e, hd⟩ := post_lift (post_bind hx)
  refine ⟨b, (rep_bl rp e).1, ?_⟩
  cases b with
  | true => exact hb (gd.step st ra) Q (post_mono hd (fun c s2 q w H2 st2 ra2 => q w H2 (st.trans st2) ra2) (fun _ _ z => z.mono st))
  | false => exact hd _ H1 st ra (.bl false)
theorem rd_orV (ha : RdE B W E ta fa) (hb : RdE B W E tb fb) : RdE B W E (tOrV ta tb) (cOrV fa fb) := by
  intro r sa H0 O0 O σ δ s H gd Q h
  refine ha gd _ (post_mono (post_bind h) (fun x s1 hx v H1 st ra rp => ?_) (fun _ _ z => z))
  obtain ⟨b, e, hd⟩ := post_lift (post_bind hx)
  refine ⟨b, (rep_bl rp e).1, ?_⟩
  cases b with
  | false => exact hb (gd.step st ra) Q (post_mono hd (fun c s2 q w H2 st2 ra2 => q w H2 (st.trans st2) ra2) (fun _ _ z => z.mono st))
  | true => exact hd _ H1 st ra (.bl true)
theorem rd_notV (ha : RdE B W E ta fa) : RdE B W E (tNotV ta) (cNotV fa) := by
  intro r sa H0 O0 O σ δ s H gd Q h
  refine ha gd _ (post_mono (post_bind h) (fun x s1 hx v H1 st ra rp => ?_) (fun _ _ z => z))
  obtain ⟨b, e, hd⟩ := post_lift (post_bind hx)
  exact ⟨b, (rep_bl rp e).1, hd _ H1 st ra (.bl _)⟩
theorem rd_if (hc : RdT B W E tA ba) (ha : RdE B W E ta fa) (hb : RdE B W E tb fb) : RdE B W E (tIf tA ta tb) (cIf ba fa fb) := by
  intro r sa H0 O0 O σ δ s H gd Q h
  refine hc gd _ (post_mono (post_bind h) (fun b s1 hx H1 st ra => ?_) (fun _ _ z => z))
  cases b with
  | true => exact ha (gd.step st ra) Q (post_mono hx (fun c s2 q w H2 st2 ra2 => q w H2 (st.trans st2) ra2) (fun _ _ z => z.mono st))
  | false => exact hb (gd.step st ra) Q (post_mono hx (fun c s2 q w H2 st2 ra2 => q w H2 (st.trans st2) ra2) (fun _ _ z => z.mono st))
/-- a new object is seen -/
theorem same_new {H : Hp} {p : Addr} {o : HO} (h : H p = none) : Same H (upd H p o) := fun b x e => by
  rw [upd_ne (ne_of_none e h)]; exact e
theorem hid_new {H : Hp} {O : List Addr} {p : Addr} {o : HO} (h : H p = none) (hd : ∀ q ∈ O, H q ≠ none) : Same (hid H O) (hid (upd H p o) O) ∧ hid (upd H p o) O p = some o := by
  have hp : p ∉ O := fun z => hd p z h
  refine ⟨fun a u e => ?_, by rw [hid_out hp, upd_same]⟩
  have ⟨h1, h2⟩ := hid_some e
  rw [hid_out h1, upd_ne (ne_of_none h2 h)]; exact h2
theorem hid_same {H H' : Hp} {O : List Addr} (e : Same H H') : Same (hid H O) (hid H' O) := fun a o q => by
  have ⟨h1, h2⟩ := hid_some q
  rw [hid_out h1]; exact e a o h2
theorem rd_tup (ha : RdA B W E tr fr) : RdE B W E (tTup tr) (cTup fr) := by
  intro r sa H0 O0 O σ δ s H gd Q h
  refine ha gd _ (post_mono (post_bind h) (fun x s1 hx v H1 st ra rp => ?_) (fun _ _ z => z))
  split at hx
  · rename_i hl
    refine ⟨Evl.sz_of (by rw [rp.length]; exact hl), fun p hp => ?_⟩
    have ⟨a1, a2⟩ := hid_new (O := O) (o := .tup v) hp (gd.step st ra).dom
    exact hx _ _ (st.trans (Stp.new hp)) (ra.new hp) (.tup (TuA.of a2) (rp.mono a1))
  · exact hx.elim
theorem rd_lst (ha : RdA B W E tr fr) : RdE B W E (tLst tr) (cLst fr) := by
  intro r sa H0 O0 O σ δ s H gd Q h
  refine ha gd _ (post_mono (post_bind h) (fun x s1 hx v H1 st ra rp => ?_) (fun _ _ z => z))
  split at hx
  · rename_i hl
    refine ⟨Evl.sz_of (by rw [rp.length]; exact hl), fun p hp => ?_⟩
    have ⟨a1, a2⟩ := hid_new (O := O) (o := .lst v) hp (gd.step st ra).dom
    exact hx _ _ (st.trans (Stp.new hp)) (ra.new hp) (.lst a2 (rp.mono a1))
  · exact hx.elim
theorem rd_chain (ho : OpS B r2 g) (ho' : OpS B r2' g') (ha : RdE B W E ta fa) (hb : RdE B W E tb fb) (hc : RdE B W E tc fc) : RdE B W E (tChain r2 r2' ta tb tc) (cChain g g' fa fb fc) := by
  intro r sa H0 O0 O σ δ s H gd Q h
  refine ha gd _ (post_mono (post_bind h) (fun x s1 hx v H1 st ra rp => ?_) (fun _ _ z => z))
  refine hb (gd.step st ra) _ (post_mono (post_bind hx) (fun y s2 hy w H2 st2 ra2 rp2 => ?_) (fun _ _ z => z.mono st))
  obtain ⟨d, e, hd⟩ := post_lift (post_bind hy)
  have gd2 := (gd.step st ra).step st2 ra2
  refine ho r O H2 v w x y d _ gd2.dom (rp.mono (st2.hid gd.rO)) rp2 e fun u H3 sm rp3 => ?_
  obtain ⟨b, e2, hd⟩ := post_lift (post_bind hd)
  refine ⟨b, (rep_bl rp3 e2).1, ?_⟩
  have st3 : Stp r H H3 := (st.trans st2).trans (Stp.of sm)
  have gd3 := gd.step st3 (ra2.same sm)
  cases b with
  | false => exact hd _ H3 st3 gd3.row (.bl false)
  | true =>
    refine hc gd3 _ (post_mono (post_bind hd) (fun z s4 hz q H4 st4 ra4 rp4 => ?_) (fun _ _ z => z.mono st3))
    obtain ⟨d', e', hd'⟩ := post_lift hz
    have gd4 := gd3.step st4 ra4
    refine ho' r O H4 w q y z d' Q gd4.dom (rp2.mono ((hid_same sm).trans (st4.hid gd.rO))) rp4 e' fun u H5 sm5 rp5 => hd' u H5 (st3.trans (st4.trans (Stp.of sm5))) (ra4.same sm5) rp5
/-- a slot that is owned is looked at: what comes out is a scalar -/
theorem Gd.peek {r sa : Addr} {H0 : Hp} {O0 O : List Addr} {σ : St} {δ : En} {s : S} {H : Hp} {i : Nat} (gd : Gd B r sa H0 O0 W O σ δ s H) : ∃ O', Gd B r sa H0 O0 (W.filter (· != i)) O' σ δ s H ∧ (∀ a ∈ O', a ∈ O) := by
  by_cases hi : i ∈ W
  · cases e : δ[i]?.join with
    | none =>
      refine ⟨O, ⟨gd.len, gd.row, gd.r0, gd.dom, gd.dom0, gd.sub, gd.frsh, gd.stp, fun j d hj q => ?_, fun j d hj q => gd.own j d (List.mem_filter.mp hj).1 q, fun j k p d e' hj hk => gd.inj j k p d e' (List.mem_filter.mp hj).1 (List.mem_filter.mp hk).1⟩, fun _ h => h⟩
      by_cases hjW : j ∈ W
      · have : j = i := by
          by_cases z : j = i
          · exact z
          · exact absurd (List.mem_filter.mpr ⟨hjW, by simp [z]⟩) hj
        subst this
        rw [q] at e; cases e
      · exact gd.val j d hjW q
    | some d0 =>
      have e0 : δ[i]? = some (some d0) := by
        cases q : δ[i]? with
        | none => rw [q] at e; cases e
        | some o => rw [q] at e; cases o with
          | none => cases e
          | some d' => cases (Option.some.inj e : d' = d0); rfl
      obtain ⟨p, vs, ds, h1, h2, h3, h4, h5, h6⟩ := gd.own i d0 hi e0
      have hsub : ∀ a ∈ O.filter (· != p), a ∈ O := fun a h => (List.mem_filter.mp h).1
      have sm : Same (hid H O) (hid H (O.filter (· != p))) := hid_sub hsub
      have pn : p ∉ O.filter (· != p) := fun z => by have := (List.mem_filter.mp z).2; simp at this
      refine ⟨O.filter (· != p), ⟨gd.len, gd.row, gd.r0, fun q hq => gd.dom q (hsub q hq), gd.dom0, fun q hq => List.mem_filter.mpr ⟨gd.sub q hq, ?_⟩, fun q hq => gd.frsh q (hsub q hq), gd.stp, fun j d hj q => ?_, fun j d hj q => ?_, fun j k p d e' hj hk => gd.inj j k p d e' (List.mem_filter.mp hj).1 (List.mem_filter.mp hk).1⟩, hsub⟩
      · have : q ≠ p := fun z => h4 (z ▸ hq)
        simp [this]
      · by_cases hjW : j ∈ W
        · have : j = i := by
            by_cases z : j = i
            · exact z
            · exact absurd (List.mem_filter.mpr ⟨hjW, by simp [z]⟩) hj
          subst this
          rw [e0] at q
          cases q
          subst h1
          exact ⟨_, h2, .lst (by rw [hid_out pn]; exact h5) (h6.mono sm)⟩
        · obtain ⟨v, q1, q2⟩ := gd.val j d hjW q
          exact ⟨v, q1, q2.mono sm⟩
      · obtain ⟨p', vs', ds', q1, q2, q3, q4, q5, q6⟩ := gd.own j d (List.mem_filter.mp hj).1 q
        have hne : p' ≠ p := fun z => by
          have nj : i ≠ j := fun z => by have := (List.mem_filter.mp hj).2; simp [z] at this
          exact gd.inj i j p d0 d hi (List.mem_filter.mp hj).1 nj e0 q h2 (z ▸ q2)
        exact ⟨p', vs', ds', q1, q2, List.mem_filter.mpr ⟨q3, by simp [hne]⟩, q4, q5, q6.mono sm⟩
  · refine ⟨O, ?_, fun _ h => h⟩
    have e : W.filter (· != i) = W := by
      refine List.filter_eq_self.mpr fun a ha => ?_
      have : a ≠ i := fun z => hi (z ▸ ha)
      simp [this]
    rw [e]; exact gd
theorem XRep.mono {r : Addr} {H H' : Hp} {e : Err} {cl : Value} {d : Option Addr} (sm : Same H H') (h : XRep B r H e cl d) : XRep B r H' e cl d := by
  refine ⟨h.1, ?_⟩
  rcases h.2 with h | ⟨dx, fs, vs, h1, h2, h3, h4⟩
  · exact .inl h
  · exact .inr ⟨dx, fs, vs, h1, sm _ _ h2, h3, h4.mono sm⟩
theorem rep_scal {r : Addr} {H H' : Hp} {v : V} {d : D} (h : Rep B r H v d) (hs : scal d = true) : Rep B r H' v d := by
  cases h <;> first | (cases hs; done) | (constructor; done)
theorem rd_peek {i : Nat} {W' : List Nat} (hW : W.filter (· != i) = W') (h : RdE B W' E te fa) : RdE B W E te (cScal fa) := by
  intro r sa H0 O0 O σ δ s H gd Q hp
  obtain ⟨O', gd', sub⟩ := gd.peek (i := i)
  rw [hW] at gd'
  exact h gd' _ (post_mono (post_calm (R' := EPost B E r sa H O') hp) (fun x s1 hx v H1 st ra rp => hx.2 v H1 st ra (rep_scal rp hx.1)) (fun _ _ z => z))
theorem rt_peek {i : Nat} {W' : List Nat} (hW : W.filter (· != i) = W') (h : RdT B W' E tA ba) : RdT B W E tA (cPk ba) := by
  intro r sa H0 O0 O σ δ s H gd Q hp
  obtain ⟨O', gd', sub⟩ := gd.peek (i := i)
  rw [hW] at gd'
  exact h gd' _ (post_mono (post_calm (R' := EPost B E r sa H O') hp) (fun x s1 hx H1 st ra => hx.2 H1 st ra) (fun _ _ z => z))
end
end PV

namespace PV
open PySem L2
section
variable {B : Bs} {r : Addr} {H : Hp} {v : V}
theorem Rep.inv_int {i : Int} (h : Rep B r H v (.int i)) : v = .int i := by cases h; rfl
theorem Rep.inv_bl {b : Bool} (h : Rep B r H v (.bl b)) : v = .bl b := by cases h; rfl
theorem Rep.inv_str {x : Str} (h : Rep B r H v (.str x)) : v = .str x := by cases h; rfl
theorem Rep.inv_non (h : Rep B r H v .non) : v = .non := by cases h; rfl
theorem Rep.inv_tup {ds : List D} (h : Rep B r H v (.tup ds)) : ∃ a vs, v = .ref a ∧ SqT B.K H a vs ∧ Reps B r H vs ds := by cases h with | tup h hs => exact ⟨_, _, rfl, h.sq, hs⟩
theorem Rep.inv_tupA {ds : List D} (h : Rep B r H v (.tup ds)) : ∃ a vs, v = .ref a ∧ TuA B H a vs ∧ Reps B r H vs ds := by cases h with | tup h hs => exact ⟨_, _, rfl, h, hs⟩
theorem Rep.inv_lst {ds : List D} (h : Rep B r H v (.lst ds)) : ∃ a vs, v = .ref a ∧ H a = some (.lst vs) ∧ Reps B r H vs ds := by cases h with | lst h hs => exact ⟨_, _, rfl, h, hs⟩
theorem sqT_le {K : PySem.W.Frag} {H : Hp} {O : List Addr} {a : Addr} {xs : List V} (h : SqT K (hid H O) a xs) : SqT K H a xs := same_t hid_le h
theorem new_tup {H : Hp} {O : List Addr} {p : Addr} {vs : List V} {ds : List D} (hp : H p = none) (hd : ∀ q ∈ O, H q ≠ none) (h : Reps B r (hid H O) vs ds) : Rep B r (hid (upd H p (.tup vs)) O) (.ref p) (.tup ds) := by
  have ⟨a1, a2⟩ := hid_new (O := O) (o := .tup vs) hp hd
  exact .tup (TuA.of a2) (h.mono a1)
theorem new_lst {H : Hp} {O : List Addr} {p : Addr} {vs : List V} {ds : List D} (hp : H p = none) (hd : ∀ q ∈ O, H q ≠ none) (h : Reps B r (hid H O) vs ds) : Rep B r (hid (upd H p (.lst vs)) O) (.ref p) (.lst ds) := by
  have ⟨a1, a2⟩ := hid_new (O := O) (o := .lst vs) hp hd
  exact .lst a2 (h.mono a1)
end

/-! ### arithmetic -/
def gAdd : D → D → Option D
  | .int i, .int j => some (.int (i + j))
  | .lst xs, .lst ys => if xs.length + ys.length ≤ 100000 then some (.lst (xs ++ ys)) else none
  | .tup xs, .tup ys => if xs.length + ys.length ≤ 100000 then some (.tup (xs ++ ys)) else none
  | .str x, .str y => if x.length + y.length ≤ 100000 then some (.str (x ++ y)) else none
  | _, _ => none
def rAddS' : R2 := fun x y H Q => ∃ i j, x = .str i ∧ y = .str j ∧ i.length + j.length ≤ sizeLine ∧ Q (.str (i ++ j)) H
def rAddU (K : PySem.W.Frag) : R2 := fun x y H Q => rI0 (fun i j => .int (i + j)) x y H Q ∨ (rCat x y H Q ∨ (rCatA K x y H Q ∨ rAddS' x y H Q))
theorem op_addU {X : Cx} : OpR X (binaryOp .Add) (rAddU X.K) := OpR.or op_add (OpR.or op_cat (OpR.or op_catA op_add_str))
theorem os_add {B : Bs} : OpS B (rAddU B.K) gAdd := by
  intro r O H x y dx dy d Q hd rx ry e q
  unfold gAdd at e
  split at e
  · cases e; cases rx; cases ry
    exact .inl ⟨_, _, rfl, rfl, q _ H (Same.refl H) (.int _)⟩
  · split at e
    · rename_i hl
      cases e
      obtain ⟨a, vs, rfl, ha, hs⟩ := rx.inv_lst
      obtain ⟨b, ws, rfl, hb, ht⟩ := ry.inv_lst
      refine .inr (.inl ⟨a, b, vs, ws, rfl, rfl, hid_le _ _ ha, hid_le _ _ hb, Evl.sz_of (by rw [hs.length, ht.length]; exact hl), fun p hp => ?_⟩)
      exact q _ _ (same_new hp) (new_lst hp hd (hs.append ht))
    · cases e
  · split at e
    · rename_i hl
      cases e
      obtain ⟨a, vs, rfl, ha, hs⟩ := rx.inv_tup
      obtain ⟨b, ws, rfl, hb, ht⟩ := ry.inv_tup
      refine .inr (.inr (.inl ⟨a, b, vs, ws, rfl, rfl, sqT_le ha, sqT_le hb, Evl.sz_of (by rw [hs.length, ht.length]; exact hl), fun e => ?_, fun _ e => ?_, fun _ _ p hp => ?_⟩))
      · subst e
        cases hs
        exact q _ H (Same.refl H) ry
      · subst e
        cases ht
        rw [List.append_nil] at q
        exact q _ H (Same.refl H) rx
      · exact q _ _ (same_new hp) (new_tup hp hd (hs.append ht))
    · cases e
  · split at e
    · rename_i hl
      cases e; cases rx; cases ry
      exact .inr (.inr (.inr ⟨_, _, rfl, rfl, Evl.sz_of hl, q _ H (Same.refl H) (.str _)⟩))
    · cases e
  · cases e
def gI (f : Int → Int → D) : D → D → Option D
  | .int i, .int j => some (f i j)
  | _, _ => none
def gIc (c : Int → Int → Bool) (f : Int → Int → D) : D → D → Option D
  | .int i, .int j => if c i j then some (f i j) else none
  | _, _ => none
theorem os_i0 {B : Bs} {g : Int → Int → V} {f : Int → Int → D} (h : ∀ i j r H, Rep B r H (g i j) (f i j)) : OpS B (rI0 g) (gI f) := by
  intro r O H x y dx dy d Q hd rx ry e q
  unfold gI at e
  split at e
  · cases e; cases rx; cases ry
    exact ⟨_, _, rfl, rfl, q _ H (Same.refl H) (h _ _ _ _)⟩
  · cases e
theorem os_ic {B : Bs} {C : Int → Int → Prop} {c : Int → Int → Bool} {g : Int → Int → V} {f : Int → Int → D} (hc : ∀ i j, c i j = true → C i j) (h : ∀ i j r H, Rep B r H (g i j) (f i j)) : OpS B (rI C g) (gIc c f) := by
  intro r O H x y dx dy d Q hd rx ry e q
  unfold gIc at e
  split at e
  · split at e
    · rename_i z
      cases e; cases rx; cases ry
      exact ⟨_, _, rfl, rfl, hc _ _ z, q _ H (Same.refl H) (h _ _ _ _)⟩
    · cases e
  · cases e
def gDif := gI fun i j => .int (i - j)
theorem os_dif {B : Bs} : OpS B (rI0 fun i j => .int (i - j)) gDif := os_i0 fun _ _ _ _ => .int _
def okMul (i j : Int) : Bool := decide (i.natAbs.log2 + j.natAbs.log2 < 1000000)
def okDiv (i j : Int) : Bool := decide (0 < j ∧ j.natAbs.log2 < 9000)
def okMod (i j : Int) : Bool := decide (0 < j)
def okPow (i j : Int) : Bool := decide (0 ≤ j ∧ j ≤ 1000000 ∧ i.natAbs < 2 ^ 64)
def gFdiv := gIc okDiv fun i j => .int (i / j)
theorem os_fdiv {B : Bs} : OpS B (rI CDivW fun i j => .int (i / j)) gFdiv := os_ic (fun i j h => show 0 < j ∧ j.natAbs.log2 < 9000 from of_decide_eq_true h) fun _ _ _ _ => .int _
def gMod := gIc okMod fun i j => .int (i % j)
theorem os_mod {B : Bs} : OpS B (rI (fun _ j => 0 < j) fun i j => .int (i % j)) gMod := os_ic (fun _ _ h => of_decide_eq_true h) fun _ _ _ _ => .int _
def gPow := gIc okPow fun i j => .int (i ^ j.toNat)
theorem os_pow {B : Bs} : OpS B (rI CPow fun i j => .int (i ^ j.toNat)) gPow := os_ic (fun i j h => show 0 ≤ j ∧ j ≤ 1000000 ∧ i.natAbs < 2 ^ 64 from of_decide_eq_true h) fun _ _ _ _ => .int _
def gLt := gI fun i j => .bl (decide (i < j))
theorem os_lt {B : Bs} : OpS B (rI0 fun i j => .bl (decide (i < j))) gLt := os_i0 fun _ _ _ _ => .bl _
def gLe := gI fun i j => .bl (decide (i ≤ j))
theorem os_le {B : Bs} : OpS B (rI0 fun i j => .bl (decide (i ≤ j))) gLe := os_i0 fun _ _ _ _ => .bl _
def gGt := gI fun i j => .bl (decide (j < i))
theorem os_gt {B : Bs} : OpS B (rI0 fun i j => .bl (decide (j < i))) gGt := os_i0 fun _ _ _ _ => .bl _
def gGe := gI fun i j => .bl (decide (j ≤ i))
theorem os_ge {B : Bs} : OpS B (rI0 fun i j => .bl (decide (j ≤ i))) gGe := os_i0 fun _ _ _ _ => .bl _
/-- * : two ints, a list and an int, a tuple and an int above 1 -/
def gMul : D → D → Option D
  | .int i, .int j => if okMul i j then some (.int (i * j)) else none
  | .lst xs, .int k => if k ≤ 100000 ∧ -100000 ≤ k ∧ xs.length * k.toNat ≤ 100000 then some (.lst (List.replicate k.toNat xs).flatten) else none
  | .tup xs, .int k => if xs ≠ [] ∧ 1 ≤ k ∧ k ≤ 1000 ∧ xs.length ≤ 1000 then some (.tup (List.replicate k.toNat xs).flatten) else none
  | _, _ => none
instance {α : Type} (xs : List α) : Decidable (xs ≠ []) := match xs with | [] => isFalse (fun h => h rfl) | _ :: _ => isTrue (by simp)
section
open PySem.Spec PyProof.Rows
theorem tuple_mul1 (l : Addr) (items : Array Value) (n : Nat) (sl : Array (Option Value)) (dd : Option Addr) (u : Tok) :
    Meets (Builtin.«tuple.__mul__» ⟨[.ref l, .int 1 u], []⟩) (fun _ R s => s.heap.get? l = some { cls := .type "tuple", dict := dd, data := .seq items n, slots := sl } ∧ R (.ok (.ret (Value.ref l))) s) :=
  .of_wp fun prog w A R s h => by
    obtain ⟨hp, g, d, tk, os⟩ := s
    obtain ⟨hl, h⟩ := h
    have f1 := AutoSeq1.idx_int
    wp_walk using wpAny_loadPart' hl
    exact ⟨_, rfl, h⟩
def rRepT1 (K : PySem.W.Frag) : R2 := fun x y H Q => ∃ l xs, x = .ref l ∧ y = .int 1 ∧ SqT K H l xs ∧ Q (.ref l) H
theorem op_repT1 {X : Cx} : OpR X (binaryOp .Mult) (rRepT1 X.K) := by
  intro pins s σ H x y v u Q I rx ry h
  obtain ⟨l, xs, rfl, rfl, hT, q⟩ := h
  cases rx
  obtain ⟨t, rfl⟩ := ry
  obtain ⟨its, r, ⟨⟨cls, dd, data, sl⟩, ho, hc, n, hd⟩, hs⟩ := I.tuple hT
  simp only at hc hd
  subst hc hd
  exact wpAny_binaryOp_repeat_ref (T := "tuple") (U := "int") (by decide) ⟨_, ho, rfl⟩ (fun s' => typeIs_int s' 1 t) noFill_tuple_mul F.fills_int_mul F.slot_int_rmul repeat_tuple F.slot_int_index.lookup
    (call_meets F.slot_int_rmul (typeIs_int s 1 t) F.entry_int_rmul (F.args_int_rmul_2 _ _) (int_rmul_tuple 1 t l its.toArray n dd sl)
      ⟨ho, rfl, ⟨_, ho, rfl⟩, call_meets F.slot_tuple_mul ⟨_, ho, rfl⟩ F.entry_tuple_mul (F.args_tuple_mul_2 _ _) (tuple_mul1 l its.toArray n sl dd t) ⟨ho, ⟨.ref l, H, I, rfl, q⟩⟩⟩)
end
def rMulU (K : PySem.W.Frag) : R2 := fun x y H Q => rI CMulW (fun i j => .int (i * j)) x y H Q ∨ (rRep x y H Q ∨ (rRepT K x y H Q ∨ rRepT1 K x y H Q))
theorem op_mulU {X : Cx} : OpR X (binaryOp .Mult) (rMulU X.K) := OpR.or op_mulW (OpR.or op_rep (OpR.or op_repT op_repT1))
theorem os_mul {B : Bs} : OpS B (rMulU B.K) gMul := by
  intro r O H x y dx dy d Q hd rx ry e q
  unfold gMul at e
  split at e
  · split at e
    · rename_i z
      cases e; cases rx; cases ry
      exact .inl ⟨_, _, rfl, rfl, (show _ + _ < _ from of_decide_eq_true z), q _ H (Same.refl H) (.int _)⟩
    · cases e
  · split at e
    · rename_i hl
      cases e; cases ry
      obtain ⟨a, vs, rfl, ha, hs⟩ := rx.inv_lst
      refine .inr (.inl ⟨a, _, vs, rfl, rfl, hid_le _ _ ha, by omega, by omega, Evl.sz_of (by rw [hs.length]; exact hl.2.2), fun p hp => ?_⟩)
      exact q _ _ (same_new hp) (new_lst hp hd (hs.flat _))
    · cases e
  · split at e
    · rename_i hl
      cases e; cases ry
      obtain ⟨a, vs, rfl, hA, hs⟩ := rx.inv_tupA
      have ha := hA.sq
      rename_i k
      by_cases h1 : k = 1
      · subst h1
        refine .inr (.inr (.inr ⟨a, vs, rfl, rfl, sqT_le ha, q _ H (Same.refl H) ?_⟩))
        rw [show (List.replicate (1 : Int).toNat _).flatten = _ from List.append_nil _]
        exact .tup hA hs
      · refine .inr (.inr (.inl ⟨a, _, vs, rfl, rfl, sqT_le ha, ?_, by have := hl.2.1; omega, hl.2.2.1, by rw [hs.length]; exact hl.2.2.2, fun p hp => ?_⟩))
        · intro z; subst z; cases hs; exact hl.1 rfl
        · exact q _ _ (same_new hp) (new_tup hp hd (hs.flat _))
    · cases e
  · cases e

/-! ### is None, ==, in -/
def isNonB : D → Bool | .non => true | _ => false
def gIsN : D → D → Option D := fun x y => if isNonB y then some (.bl (isNonB x)) else none
def gNotN : D → D → Option D := fun x y => if isNonB y then some (.bl (!isNonB x)) else none
theorem rep_isNon {B : Bs} {r : Addr} {H : Hp} {v : V} {d : D} (h : Rep B r H v d) : decide (v = .non) = isNonB d := by cases h <;> rfl
theorem os_isN {B : Bs} : OpS B (fun x y H Q => y = .non ∧ Q (.bl (decide (x = .non))) H) gIsN := by
  intro r O H x y dx dy d Q hd rx ry e q
  unfold gIsN at e
  split at e
  · rename_i h
    cases e
    have : dy = .non := by cases dy <;> first | rfl | (cases h)
    subst this; cases ry
    exact ⟨rfl, q _ H (Same.refl H) (by rw [rep_isNon rx]; exact .bl _)⟩
  · cases e
theorem os_notN {B : Bs} : OpS B (fun x y H Q => y = .non ∧ Q (.bl (!decide (x = .non))) H) gNotN := by
  intro r O H x y dx dy d Q hd rx ry e q
  unfold gNotN at e
  split at e
  · rename_i h
    cases e
    have : dy = .non := by cases dy <;> first | rfl | (cases h)
    subst this; cases ry
    exact ⟨rfl, q _ H (Same.refl H) (by rw [rep_isNon rx]; exact .bl _)⟩
  · cases e
mutual
/-- plain data of depth at most n -/
def toPy : D → Option PyData
  | .non => some .none
  | .bl b => some (.bool b)
  | .int i => some (.int i)
  | .str x => some (.str x)
  | .tup ds => (toPys ds).map .tuple
  | .lst ds => (toPys ds).map .list
  | _ => none
def toPys : List D → Option (List PyData)
  | [] => some []
  | d :: ds => match toPy d, toPys ds with | some p, some ps => some (p :: ps) | _, _ => none
end
mutual
theorem rep_dp {B : Bs} {r : Addr} {H : Hp} : ∀ {v : V} {d : D} {p : PyData}, Rep B r H v d → toPy d = some p → Dp B.K H v p
  | _, _, _, .non, e => by cases (Option.some.inj e : PyData.none = _); exact .non
  | _, _, _, .bl b, e => by cases (Option.some.inj e : PyData.bool b = _); exact .bl b
  | _, _, _, .int b, e => by cases (Option.some.inj e : PyData.int b = _); exact .int b
  | _, _, _, .str b, e => by cases (Option.some.inj e : PyData.str b = _); exact .str b
  | _, _, _, .tup h hs, e => by
    unfold toPy at e
    obtain ⟨ps, h1, h2⟩ := Option.map_eq_some_iff.mp e
    subst h2
    exact .tup h.sq (reps_dp hs h1)
  | _, _, _, .lst h hs, e => by
    unfold toPy at e
    obtain ⟨ps, h1, h2⟩ := Option.map_eq_some_iff.mp e
    subst h2
    exact .lst (SqL.of h) (reps_dp hs h1)
  | _, _, _, .dic _ _ _ _, e => by cases e
  | _, _, _, .sal _ _ _, e => by cases e
  | _, _, _, .row, e => by cases e
  | _, _, _, .obj _, e => by cases e
  | _, _, _, .fn _, e => by cases e
  | _, _, _, .dct _ _ _ _, e => by cases e
theorem reps_dp {B : Bs} {r : Addr} {H : Hp} : ∀ {vs : List V} {ds : List D} {ps : List PyData}, Reps B r H vs ds → toPys ds = some ps → DpAll B.K H vs ps
  | _, _, _, .nil, e => by cases (Option.some.inj e : [] = _); exact .nil
  | _, _, _, .cons h hs, e => by
    unfold toPys at e
    split at e
    · rename_i p ps h1 h2
      cases e
      exact .cons (rep_dp h h1) (reps_dp hs h2)
    · cases e
end
def pyOk (d : D) : Option PyData := match toPy d with | some p => if SeqAt.shaped p then some p else none | none => none
theorem pyOk_some {d : D} {p : PyData} (h : pyOk d = some p) : toPy d = some p ∧ SeqAt.shaped p = true := by
  unfold pyOk at h
  split at h
  · split at h
    · cases h; exact ⟨by assumption, by assumption⟩
    · cases h
  · cases h
def eqD (x y : D) : Option Bool := match pyOk x, pyOk y with | some p, some q => some (PyData.eqv p q) | _, _ => none
def gEq : D → D → Option D := fun x y => (eqD x y).map .bl
def gNe : D → D → Option D := fun x y => (eqD x y).map fun b => .bl (!b)
theorem eqD_some {x y : D} {b : Bool} (h : eqD x y = some b) : ∃ p q, toPy x = some p ∧ toPy y = some q ∧ SeqAt.shaped p = true ∧ SeqAt.shaped q = true ∧ b = PyData.eqv p q := by
  unfold eqD at h
  split at h
  · rename_i p q h1 h2
    cases h
    exact ⟨p, q, (pyOk_some h1).1, (pyOk_some h2).1, (pyOk_some h1).2, (pyOk_some h2).2, rfl⟩
  · cases h
theorem os_eq {B : Bs} : OpS B (rEqD B.K) gEq := by
  intro r O H x y dx dy d Q hd rx ry e q
  obtain ⟨b, h1, h2⟩ := Option.map_eq_some_iff.mp e
  subst h2
  obtain ⟨p, p', e1, e2, s1, s2, rfl⟩ := eqD_some h1
  exact ⟨p, p', rep_dp (rx.mono hid_le) e1, rep_dp (ry.mono hid_le) e2, s1, s2, q _ H (Same.refl H) (.bl _)⟩
theorem os_ne {B : Bs} : OpS B (rNeD B.K) gNe := by
  intro r O H x y dx dy d Q hd rx ry e q
  obtain ⟨b, h1, h2⟩ := Option.map_eq_some_iff.mp e
  subst h2
  obtain ⟨p, p', e1, e2, s1, s2, rfl⟩ := eqD_some h1
  exact ⟨p, p', rep_dp (rx.mono hid_le) e1, rep_dp (ry.mono hid_le) e2, s1, s2, q _ H (Same.refl H) (.bl _)⟩
/-- == of scalars -/
def eqS : D → D → Bool
  | .non, .non => true
  | .bl a, .bl b => a == b
  | .bl a, .int b => (if a then 1 else 0) == b
  | .int a, .bl b => a == (if b then 1 else 0)
  | .int a, .int b => a == b
  | .str a, .str b => a == b
  | _, _ => false
def seqD : D → Option (List D) | .lst ds => some ds | .tup ds => some ds | _ => none
def inD (neg : Bool) (x y : D) : Option D := match seqD y with
  | some ds => if scal x && ds.all scal then some (.bl (if neg then !ds.any (eqS · x) else ds.any (eqS · x))) else none
  | none => none
def gIn := inD false
def gNotIn := inD true
theorem rep_flat {B : Bs} {r : Addr} {H : Hp} {v : V} {d : D} (h : Rep B r H v d) : scal d = flatV v := by cases h <;> rfl
theorem rep_eqV {B : Bs} {r : Addr} {H : Hp} {v w : V} {d e : D} (h : Rep B r H v d) (h' : Rep B r H w e) : eqV v w = eqS d e := by cases h <;> cases h' <;> rfl
theorem reps_all {B : Bs} {r : Addr} {H : Hp} : ∀ {vs : List V} {ds : List D}, Reps B r H vs ds → ds.all scal = vs.all flatV
  | _, _, .nil => rfl
  | _, _, .cons h hs => by rw [List.all_cons, List.all_cons, rep_flat h, reps_all hs]
theorem reps_in {B : Bs} {r : Addr} {H : Hp} {x : V} {dx : D} (hx : Rep B r H x dx) : ∀ {vs : List V} {ds : List D}, Reps B r H vs ds → inV x vs = ds.any (eqS · dx)
  | _, _, .nil => rfl
  | _, _, .cons h hs => by
    unfold inV
    rw [List.any_cons, List.any_cons, rep_eqV h hx]
    have := reps_in hx hs
    unfold inV at this
    rw [this]
theorem seq_inv {B : Bs} {r : Addr} {H : Hp} {v : V} {d : D} {ds : List D} (h : Rep B r H v d) (e : seqD d = some ds) : ∃ a vs, v = .ref a ∧ (SqL B.K H a vs ∨ SqT B.K H a vs) ∧ Reps B r H vs ds := by
  cases d <;> simp [seqD] at e
  · subst e; obtain ⟨a, vs, h1, h2, h3⟩ := h.inv_tup; exact ⟨a, vs, h1, .inr h2, h3⟩
  · subst e; obtain ⟨a, vs, h1, h2, h3⟩ := h.inv_lst; exact ⟨a, vs, h1, .inl (SqL.of h2), h3⟩
theorem sqLT_le {K : PySem.W.Frag} {H : Hp} {O : List Addr} {a : Addr} {xs : List V} (h : SqL K (hid H O) a xs ∨ SqT K (hid H O) a xs) : SqL K H a xs ∨ SqT K H a xs := h.elim (fun z => .inl (Evl.ex_l hid_le z)) (fun z => .inr (sqT_le z))
theorem os_inG {B : Bs} {neg : Bool} : OpS B (rIn B.K neg) (inD neg) := by
  intro r O H x y dx dy d Q hd rx ry e q
  unfold inD at e
  split at e
  · rename_i ds hs
    obtain ⟨a, vs, rfl, hq, hr⟩ := seq_inv ry hs
    split at e
    · rename_i hz
      cases e
      rw [Bool.and_eq_true] at hz
      refine ⟨a, vs, rfl, sqLT_le hq, by rw [← rep_flat rx]; exact hz.1, by rw [← reps_all hr]; exact hz.2, ?_⟩
      rw [reps_in rx hr]
      exact q _ H (Same.refl H) (.bl _)
    · cases e
  · cases e
theorem os_in {B : Bs} : OpS B (rIn B.K false) gIn := os_inG
theorem os_notIn {B : Bs} : OpS B (rIn B.K true) gNotIn := os_inG

/-! ### unary -/
def gNeg : D → Option D | .int i => some (.int (-i)) | _ => none
theorem us_neg {B : Bs} : UnS B (rU fun i => .int (-i)) gNeg := by
  intro r O H x dx d Q hd rx e q
  unfold gNeg at e
  split at e
  · cases e; cases rx; exact ⟨_, rfl, q _ H (Same.refl H) (.int _)⟩
  · cases e

/-! ### subscripts -/
def gIx : D → D → Option D
  | .tup ds, .int i => atI ds i
  | .lst ds, .int i => atI ds i
  | .str z, .int i => if z.length ≤ 100000 then (atI z.cps.toList i).map fun c => .str ⟨#[c]⟩ else none
  | _, _ => none
theorem reps_at {B : Bs} {r : Addr} {H : Hp} {vs : List V} {ds : List D} {i : Int} {d : D} (h : Reps B r H vs ds) (e : atI ds i = some d) : ∃ v, atI vs i = some v ∧ Rep B r H v d := by
  unfold atI at e ⊢
  rw [h.length]
  obtain ⟨j, h1, h2⟩ := Option.bind_eq_some_iff.mp e
  obtain ⟨v, h3, h4⟩ := h.get j d h2
  exact ⟨v, by rw [h1]; exact h3, h4⟩
theorem os_ix {B : Bs} : OpS B (rIx B.K) gIx := by
  intro r O H x y dx dy d Q hd rx ry e q
  unfold gIx at e
  split at e
  · cases ry
    obtain ⟨a, vs, rfl, ha, hs⟩ := rx.inv_tup
    obtain ⟨v, h1, h2⟩ := reps_at hs e
    exact .inr (.inl ⟨a, vs, _, v, rfl, rfl, sqT_le ha, h1, q _ H (Same.refl H) h2⟩)
  · cases ry
    obtain ⟨a, vs, rfl, ha, hs⟩ := rx.inv_lst
    obtain ⟨v, h1, h2⟩ := reps_at hs e
    exact .inl ⟨a, vs, _, v, rfl, rfl, SqL.of (hid_le _ _ ha), h1, q _ H (Same.refl H) h2⟩
  · split at e
    · rename_i hl
      cases rx; cases ry
      obtain ⟨c, h1, h2⟩ := Option.map_eq_some_iff.mp e
      subst h2
      exact .inr (.inr ⟨_, _, c, rfl, rfl, Evl.sz_of hl, h1, q _ H (Same.refl H) (.str _)⟩)
    · cases e
  · cases e

/-! ### slices -/
def partI : Option D → Option (Option Int) | none => some none | some (.int i) => some (some i) | _ => none
abbrev RdO (B : Bs) (W : List Nat) (E : Option XK) (t : TO) (f : En → M (Option Int)) : Prop :=
  ∀ {r sa : Addr} {H0 : Hp} {O0 O : List Addr} {σ : St} {δ : En} {s : S} {H : Hp}, Gd B r sa H0 O0 W O σ δ s H → ∀ Q : Option Int → Hp → Prop, (f δ s).post (fun o s' => ∀ H', Stp r H H' → RowAt B r sa H' s' → Q o H') (EPost B E r sa H O) → t σ H Q
def cNo : En → M (Option Int) := fun _ s => .ok none s
def asI : D → Option Int | .int i => some i | _ => none
def cPart (f : En → M D) : En → M (Option Int) := fun δ s => (f δ s).bind fun d s1 => (lift (asI d) s1).bind fun i s2 => .ok (some i) s2
def cutD {α : Type} (xs : List α) (lo hi : Option Int) : List α := (xs.drop (HT.sIx xs.length 0 lo)).take (HT.sIx xs.length xs.length hi - HT.sIx xs.length 0 lo)
def gSl : D → Option Int → Option Int → Option D
  | .tup ds, lo, hi => some (.tup (cutD ds lo hi))
  | .lst ds, lo, hi => some (.lst (cutD ds lo hi))
  | .str z, lo, hi => if z.length ≤ 100000 then some (.str (cutS z lo hi)) else none
  | _, _, _ => none
def cSl (f : En → M D) (fl fh : En → M (Option Int)) : En → M D := fun δ s => (f δ s).bind fun d s1 => (fl δ s1).bind fun lo s2 => (fh δ s2).bind fun hi s3 => lift (gSl d lo hi) s3
theorem Reps.cut {B : Bs} {r : Addr} {H : Hp} {vs : List V} {ds : List D} {lo hi : Option Int} (h : Reps B r H vs ds) : Reps B r H (cutV vs lo hi) (cutD ds lo hi) := by
  unfold cutV cutD
  rw [h.length]
  exact (h.drop _).take _
def rSlU (K : PySem.W.Frag) : V → Option Int → Option Int → Hp → VK → Prop := fun x lo hi H Q => rSlL K x lo hi H Q ∨ (rSlA K x lo hi H Q ∨ rSlS x lo hi H Q)
theorem sl_U {X : Cx} : SlR X (rSlU X.K) := SlR.or sl_list (SlR.or sl_tupA sl_str)
section
variable {B : Bs} {W : List Nat} {E : Option XK} {te : TE} {fa : En → M D}
theorem ro_no : RdO B W E tNoPart cNo := by
  intro r sa H0 O0 O σ δ s H gd Q h
  exact h H (Stp.refl H) gd.row
theorem ro_part (ha : RdE B W E te fa) : RdO B W E (tPart te) (cPart fa) := by
  intro r sa H0 O0 O σ δ s H gd Q h
  refine ha gd _ (post_mono (post_bind h) (fun x s1 hx v H1 st ra rp => ?_) (fun _ _ z => z))
  obtain ⟨i, e, hd⟩ := post_lift (post_bind hx)
  have : x = .int i := by cases x <;> simp [asI] at e; subst e; rfl
  subst this; cases rp
  exact ⟨i, rfl, hd H1 st ra⟩
theorem rd_sl {tl th : TO} {fl fh : En → M (Option Int)} (ha : RdE B W E te fa) (hl : RdO B W E tl fl) (hh : RdO B W E th fh) : RdE B W E (tSl (rSlU B.K) te tl th) (cSl fa fl fh) := by
  intro r sa H0 O0 O σ δ s H gd Q h
  refine ha gd _ (post_mono (post_bind h) (fun x s1 hx v H1 st ra rp => ?_) (fun _ _ z => z))
  have gd1 := gd.step st ra
  refine hl gd1 _ (post_mono (post_bind hx) (fun lo s2 hx H2 st2 ra2 => ?_) (fun _ _ z => z.mono st))
  have gd2 := gd1.step st2 ra2
  refine hh gd2 _ (post_mono (post_bind hx) (fun hi s3 hx H3 st3 ra3 => ?_) (fun _ _ z => (z.mono st).mono st2))
  have gd3 := gd2.step st3 ra3
  obtain ⟨d, e, hd⟩ := post_lift hx
  have rp3 := rp.mono ((st2.trans st3).hid gd.rO)
  have hst := st.trans (st2.trans st3)
  unfold gSl at e
  split at e
  · cases e
    obtain ⟨a, vs, rfl, hA, hs⟩ := rp3.inv_tupA
    have ha := hA.sq
    refine .inr (.inl ⟨a, vs, rfl, sqT_le ha, fun ⟨z1, z2⟩ => ?_, fun _ p hp => ?_⟩)
    · refine hd _ H3 hst ra3 (.tup hA ?_)
      have e1 : cutV vs lo hi = vs := by
        unfold cutV; rw [z1, z2]; simp
      have := hs.cut (lo := lo) (hi := hi)
      rw [e1] at this
      exact this
    · exact hd _ _ (hst.trans (Stp.new hp)) (ra3.new hp) (new_tup hp gd3.dom hs.cut)
  · cases e
    obtain ⟨a, vs, rfl, ha, hs⟩ := rp3.inv_lst
    exact .inl ⟨a, vs, rfl, SqL.of (hid_le _ _ ha), fun p hp => hd _ _ (hst.trans (Stp.new hp)) (ra3.new hp) (new_lst hp gd3.dom hs.cut)⟩
  · split at e
    · rename_i hz
      cases e; cases rp3
      exact .inr (.inr ⟨_, rfl, Evl.sz_of hz, hd _ H3 hst ra3 (.str _)⟩)
    · cases e
  · cases e
end
end PV

namespace PV
open PySem L2

inductive Fl where
  | next (δ : En)
  | ret (d : D)
  | brk (δ : En)
  | cont (δ : En)
def FlP (B : Bs) (r sa : Addr) (H0 : Hp) (O0 : List Addr) (W : List Nat) (O : List Addr) (H : Hp) (D : Ends) : Fl → S → Prop := fun fl s' => match fl with
  | .next δ' => ∀ O' σ' H', Gd B r sa H0 O0 W O' σ' δ' s' H' → Same (hid H O) (hid H' O') → D.nx σ' H'
  | .ret d => ∀ v H', Stp r H0 H' → RowAt B r sa H' s' → Rep B r (hid H' O0) v d → D.rt v H'
  | .brk δ' => ∀ O' σ' H', Gd B r sa H0 O0 W O' σ' δ' s' H' → Same (hid H O) (hid H' O') → D.bk σ' H'
  | .cont δ' => ∀ O' σ' H', Gd B r sa H0 O0 W O' σ' δ' s' H' → Same (hid H O) (hid H' O') → D.ct σ' H'
def RdS (B : Bs) (W : List Nat) (E : Option XK) (t : TS) (F : En → M Fl) : Prop :=
  ∀ {r sa : Addr} {H0 : Hp} {O0 O : List Addr} {σ : St} {δ : En} {s : S} {H : Hp}, Gd B r sa H0 O0 W O σ δ s H → ∀ D : Ends, (F δ s).post (FlP B r sa H0 O0 W O H D) (EPost B E r sa H0 O0) → t D σ H
theorem FlP.mono {B : Bs} {r sa : Addr} {H0 : Hp} {O0 : List Addr} {W : List Nat} {O O' : List Addr} {H H' : Hp} {D : Ends} (sm : Same (hid H O) (hid H' O')) : ∀ (fl : Fl) (s : S), FlP B r sa H0 O0 W O H D fl s → FlP B r sa H0 O0 W O' H' D fl s
  | .next _, _, h => fun O2 σ2 H2 g q => h O2 σ2 H2 g (sm.trans q)
  | .ret _, _, h => h
  | .brk _, _, h => fun O2 σ2 H2 g q => h O2 σ2 H2 g (sm.trans q)
  | .cont _, _, h => fun O2 σ2 H2 g q => h O2 σ2 H2 g (sm.trans q)
theorem EPost.up {B : Bs} {E : Option XK} {r sa : Addr} {H0 : Hp} {O0 : List Addr} {W : List Nat} {O : List Addr} {σ : St} {δ : En} {s : S} {H : Hp} (gd : Gd B r sa H0 O0 W O σ δ s H) {e : Err} {s' : S} (h : EPost B E r sa H0 O0 e s') : EPost B E r sa H O e s' := by
  cases E with
  | none => exact h
  | some E => exact fun cl d H' a b c => h cl d H' (gd.stp.trans a) b (c.mono (hid_sub gd.sub))

def cNext : En → M Fl := fun δ s => .ok (.next δ) s
def cSeq (F G : En → M Fl) : En → M Fl := fun δ s => (F δ s).bind fun fl s1 => match fl with | .next δ' => G δ' s1 | fl => .ok fl s1
def cRet (f : En → M D) : En → M Fl := fun δ s => (f δ s).bind fun d s1 => .ok (.ret d) s1
def cDo (f : En → M D) : En → M Fl := fun δ s => (f δ s).bind fun _ s1 => .ok (.next δ) s1
def cIte (c : En → M Bool) (F G : En → M Fl) : En → M Fl := fun δ s => (c δ s).bind fun b s1 => if b then F δ s1 else G δ s1
def cSet (i : Nat) (f : En → M D) : En → M Fl := fun δ s => (f δ s).bind fun d s1 => .ok (.next (δ.set i (some d))) s1
def cAsg (f : En → M D) (tg : D → En → Option En) : En → M Fl := fun δ s => (f δ s).bind fun d s1 => (lift (tg d δ) s1).bind fun δ' s2 => .ok (.next δ') s2
def cAug (i : Nat) (g : Int → Int → Int) (f : En → M D) : En → M Fl := fun δ s => (lift (δ[i]?.join.bind asI) s).bind fun x s0 => (f δ s0).bind fun d s1 => (lift (asI d) s1).bind fun y s2 => .ok (.next (δ.set i (some (.int (g x y))))) s2
def cStuck : En → M Fl := fun _ _ => .stuck
def forL (tg : D → En → Option En) (F : En → M Fl) : List D → En → M Fl
  | [], δ, s => .ok (.next δ) s
  | d :: ds, δ, s => (lift (tg d δ) s).bind fun δ1 s1 => (F δ1 s1).bind fun fl s2 => match fl with
    | .next δ2 => forL tg F ds δ2 s2
    | .cont δ2 => forL tg F ds δ2 s2
    | .brk δ2 => .ok (.next δ2) s2
    | .ret d => .ok (.ret d) s2
def cFor (src : En → M (List D)) (tg : D → En → Option En) (F : En → M Fl) : En → M Fl := fun δ s => (src δ s).bind fun ds s1 => forL tg F ds δ s1
def whileN (c : En → M Bool) (F : En → M Fl) : Nat → En → M Fl
  | 0, _, _ => .stuck
  | n + 1, δ, s => (c δ s).bind fun b s1 => if b then (F δ s1).bind fun fl s2 => match fl with
    | .next δ2 => whileN c F n δ2 s2
    | .cont δ2 => whileN c F n δ2 s2
    | .brk δ2 => .ok (.next δ2) s2
    | .ret d => .ok (.ret d) s2 else .ok (.next δ) s1
def cWhile (fuel : En → Nat) (c : En → M Bool) (F : En → M Fl) : En → M Fl := fun δ s => whileN c F (fuel δ) δ s
def tgName (i : Nat) : D → En → Option En := fun d δ => some (δ.set i (some d))
def tgNil : List D → En → Option En | [], δ => some δ | _ :: _, _ => none
def tgCons (t : D → En → Option En) (u : List D → En → Option En) : List D → En → Option En | [], _ => none | d :: ds, δ => (t d δ).bind fun δ' => u ds δ'
def tgTup (n : Nat) (t : List D → En → Option En) : D → En → Option En := fun d δ => match d with | .tup ds => if ds.length = n then t ds δ else none | .lst ds => if ds.length = n then t ds δ else none | _ => none
/-- a tuple or a list of that length -/
def gTL (K : PySem.W.Frag) (n : Nat) (t : TGs) : TG := fun v σ H Q => gTup K n t v σ H Q ∨ gLst K n t v σ H Q
theorem pg_tl {X : Cx} {pos : Pos} {es : List Expr} {k : Nat} {t : TGs} {n : Nat} (hc : X.calm = true) (h : PGs X es t) (hn : (assignEach es X.env).length = n := by rfl) (hst : (assignEach es X.env).findIdx? (·.1) = none := by rfl) : PG X (.Tuple es k pos) (gTL X.K n t) :=
  ⟨fun pins s σ H v u Q I r hw => hw.elim (fun z => (pg_tup hc h hn hst).run pins s σ H v u Q I r z) (fun z => (pg_lst hc h hn hst).run pins s σ H v u Q I r z)⟩

/-- a target: the slots ts alone are written -/
def RdG (B : Bs) (W : List Nat) (ts : List Nat) (g : TG) (tg : D → En → Option En) : Prop :=
  ∀ {r sa : Addr} {H0 : Hp} {O0 O : List Addr} {σ : St} {δ δ' : En} {s : S} {H : Hp} {v : V} {d : D}, Gd B r sa H0 O0 W O σ δ s H → Rep B r (hid H O) v d → tg d δ = some δ' →
    ∀ Q : St → Hp → Prop, (∀ σ', Gd B r sa H0 O0 W O σ' δ' s H → (∀ i, i ∉ ts → σ'[i]? = σ[i]?) → σ'.length = σ.length → Q σ' H) → g v σ H Q
def RdGs (B : Bs) (W : List Nat) (ts : List Nat) (g : TGs) (tg : List D → En → Option En) : Prop :=
  ∀ {r sa : Addr} {H0 : Hp} {O0 O : List Addr} {σ : St} {δ δ' : En} {s : S} {H : Hp} {v : List V} {d : List D}, Gd B r sa H0 O0 W O σ δ s H → Reps B r (hid H O) v d → tg d δ = some δ' →
    ∀ Q : St → Hp → Prop, (∀ σ', Gd B r sa H0 O0 W O σ' δ' s H → (∀ i, i ∉ ts → σ'[i]? = σ[i]?) → σ'.length = σ.length → Q σ' H) → g v σ H Q
section
variable {B : Bs} {W : List Nat} {E : Option XK}
theorem rg_name {i : Nat} (hi : decide (i ∉ W) = true := by rfl) : RdG B W [i] (gName i) (tgName i) := by
  intro r sa H0 O0 O σ δ δ' s H v d gd rp e Q q
  cases e
  exact q _ (gd.set (of_decide_eq_true hi) rp) (fun j hj => List.getElem?_set_ne (fun z => hj (by simp [z]))) (List.length_set ..)
theorem rg_nil : RdGs B W [] gNil tgNil := by
  intro r sa H0 O0 O σ δ δ' s H v d gd rp e Q q
  cases rp with
  | nil => cases e; exact ⟨rfl, q σ gd (fun _ _ => rfl) rfl⟩
  | cons _ _ => cases e
theorem rg_cons {ts us : List Nat} {g : TG} {gs : TGs} {tg : D → En → Option En} {tgs : List D → En → Option En} (h : RdG B W ts g tg) (hs : RdGs B W us gs tgs) : RdGs B W (ts ++ us) (gCons g gs) (tgCons tg tgs) := by
  intro r sa H0 O0 O σ δ δ' s H v d gd rp e Q q
  cases rp with
  | nil => cases e
  | cons rp rps =>
    obtain ⟨δ1, e1, e2⟩ := Option.bind_eq_some_iff.mp e
    refine ⟨_, _, rfl, h gd rp e1 _ fun σ1 gd1 h1 l1 => hs gd1 rps e2 _ fun σ2 gd2 h2 l2 => q σ2 gd2 (fun j hj => ?_) (l2.trans l1)⟩
    rw [h2 j fun z => hj (List.mem_append_right _ z), h1 j fun z => hj (List.mem_append_left _ z)]
theorem rg_tup {n : Nat} {ts : List Nat} {gs : TGs} {tgs : List D → En → Option En} (hs : RdGs B W ts gs tgs) : RdG B W ts (gTL B.K n gs) (tgTup n tgs) := by
  intro r sa H0 O0 O σ δ δ' s H v d gd rp e Q q
  unfold tgTup at e
  split at e
  · split at e
    · rename_i hl
      obtain ⟨a, vs, rfl, ha, hr⟩ := rp.inv_tup
      exact .inl ⟨a, vs, rfl, sqT_le ha, by rw [hr.length]; exact hl, hs gd hr e Q q⟩
    · cases e
  · split at e
    · rename_i hl
      obtain ⟨a, vs, rfl, ha, hr⟩ := rp.inv_lst
      exact .inr ⟨a, vs, rfl, SqL.of (hid_le _ _ ha), by rw [hr.length]; exact hl, hs gd hr e Q q⟩
    · cases e
  · cases e

variable {t u : TS} {F G : En → M Fl} {te : TE} {fa : En → M D} {tc : TT} {fc : En → M Bool}
theorem rs_next : RdS B W E tNext cNext := by
  intro r sa H0 O0 O σ δ s H gd D h
  exact h O σ H gd (Same.refl _)
theorem rs_stuck {t : TS} : RdS B W E t cStuck := by
  intro r sa H0 O0 O σ δ s H gd D h
  exact h.elim
theorem rs_seq (h1 : RdS B W E t F) (h2 : RdS B W E u G) : RdS B W E (tSeq t u) (cSeq F G) := by
  intro r sa H0 O0 O σ δ s H gd D h
  refine h1 gd _ (post_mono (post_bind h) (fun fl s1 hx => ?_) (fun _ _ z => z))
  cases fl with
  | next δ' => exact fun O' σ' H' gd' sm => h2 gd' D (post_mono hx (fun fl s2 q => q.mono sm) (fun _ _ z => z))
  | ret d => exact hx
  | brk δ' => exact hx
  | cont δ' => exact hx
theorem rs_if (hc : RdT B W E tc fc) (h1 : RdS B W E t F) (h2 : RdS B W E u G) : RdS B W E (tIfS tc t u) (cIte fc F G) := by
  intro r sa H0 O0 O σ δ s H gd D h
  refine hc gd _ (post_mono (post_bind h) (fun b s1 hx H1 st ra => ?_) (fun _ _ z => z.up gd))
  have sm := st.hid gd.rO
  cases b with
  | true => exact h1 (gd.step st ra) D (post_mono hx (fun fl s2 q => q.mono sm) (fun _ _ z => z))
  | false => exact h2 (gd.step st ra) D (post_mono hx (fun fl s2 q => q.mono sm) (fun _ _ z => z))
/-- at a return all that is owned is let go -/
theorem Gd.free {r sa : Addr} {H0 : Hp} {O0 O : List Addr} {σ : St} {δ : En} {s : S} {H : Hp} (gd : Gd B r sa H0 O0 W O σ δ s H) : Gd B r sa H0 O0 [] O0 σ δ s H := by
  have sm : Same (hid H O) (hid H O0) := hid_sub gd.sub
  refine ⟨gd.len, gd.row, gd.r0, fun p hp => gd.dom p (gd.sub p hp), gd.dom0, fun _ h => h, fun _ h => .inl h, gd.stp, fun i d _ q => ?_, fun i d hi => (by cases hi), fun i _ _ _ _ hi => (by cases hi)⟩
  by_cases hi : i ∈ W
  · obtain ⟨p, vs, ds, rfl, h2, h3, h4, h5, h6⟩ := gd.own i d hi q
    exact ⟨_, h2, .lst (by rw [hid_out h4]; exact h5) (h6.mono sm)⟩
  · obtain ⟨v, h1, h2⟩ := gd.val i d hi q
    exact ⟨v, h1, h2.mono sm⟩
theorem rs_ret (ha : RdE B [] E te fa) : RdS B W E (tRet te) (cRet fa) := by
  intro r sa H0 O0 O σ δ s H gd D h
  have g0 := gd.free
  exact ha g0 _ (post_mono (post_bind h) (fun x s1 hx v H1 st ra rp => hx v H1 (gd.stp.trans st) ra rp) (fun _ _ z => z.up g0))
theorem rs_retN : RdS B W E tRetN (cRet (cC .non)) := by
  intro r sa H0 O0 O σ δ s H gd D h
  exact h .non H gd.stp gd.row .non
theorem rs_do (ha : RdE B W E te fa) : RdS B W E (tDrop te) (cDo fa) := by
  intro r sa H0 O0 O σ δ s H gd D h
  exact ha gd _ (post_mono (post_bind h) (fun x s1 hx v H1 st ra rp => hx O σ H1 (gd.step st ra) (st.hid gd.rO)) (fun _ _ z => z.up gd))
theorem rs_set {i : Nat} (ha : RdE B W E te fa) (hi : decide (i ∉ W) = true := by rfl) : RdS B W E (tAsg te (gName i)) (cSet i fa) := by
  intro r sa H0 O0 O σ δ s H gd D h
  exact ha gd _ (post_mono (post_bind h) (fun x s1 hx v H1 st ra rp => hx O _ H1 ((gd.step st ra).set (of_decide_eq_true hi) rp) (st.hid gd.rO)) (fun _ _ z => z.up gd))
theorem rs_asg {ts : List Nat} {g : TG} {tg : D → En → Option En} (ha : RdE B W E te fa) (hg : RdG B W ts g tg) : RdS B W E (tAsg te g) (cAsg fa tg) := by
  intro r sa H0 O0 O σ δ s H gd D h
  refine ha gd _ (post_mono (post_bind h) (fun x s1 hx v H1 st ra rp => ?_) (fun _ _ z => z.up gd))
  obtain ⟨δ', e, hd⟩ := post_lift (post_bind hx)
  exact hg (gd.step st ra) rp e _ fun σ' gd' _ _ => hd O σ' H1 gd' (st.hid gd.rO)
theorem join_some {δ : En} {i : Nat} {d : D} (e : δ[i]?.join = some d) : δ[i]? = some (some d) := by
  cases q : δ[i]? with
  | none => rw [q] at e; cases e
  | some o => rw [q] at e; cases o with
    | none => cases e
    | some d' => cases (Option.some.inj e : d' = d); rfl
theorem asI_some {d : D} {i : Int} (e : asI d = some i) : d = .int i := by cases d <;> simp [asI] at e; subst e; rfl
theorem rs_aug {i : Nat} {g : Int → Int → Int} (ha : RdE B W E te fa) (hi : decide (i ∉ W) = true := by rfl) : RdS B W E (tAug i te (ipI g)) (cAug i g fa) := by
  intro r sa H0 O0 O σ δ s H gd D h
  obtain ⟨x, e, h⟩ := post_lift (post_bind h)
  obtain ⟨dx, e1, e2⟩ := Option.bind_eq_some_iff.mp e
  cases asI_some e2
  obtain ⟨v, h1, h2⟩ := gd.val i _ (of_decide_eq_true hi) (join_some e1)
  cases h2
  refine ⟨_, h1, ha gd _ (post_mono (post_bind h) (fun y s1 hx v H1 st ra rp => ?_) (fun _ _ z => z.up gd))⟩
  obtain ⟨y', e3, hd⟩ := post_lift (post_bind hx)
  cases asI_some e3
  cases rp
  exact ⟨_, _, rfl, rfl, hd O _ H1 ((gd.step st ra).set (of_decide_eq_true hi) (.int _)) (st.hid gd.rO)⟩

/-! ### what is walked -/
def Wk (B : Bs) (r : Addr) (O : List Addr) (H1 : Hp) (J : It) (ds : List D) : Prop := ∀ O' H2, Same (hid H1 O) (hid H2 O') → (∀ p ∈ O', H2 p ≠ none) →
  (∀ i, i < ds.length → J.go i H2) ∧ J.stop ds.length H2 ∧ ∀ i x H3 d, ds[i]? = some d → J.yld i H2 x H3 → Same H2 H3 ∧ Rep B r (hid H3 O') x d
def RdI (B : Bs) (W : List Nat) (E : Option XK) (wi : TI) (f : En → M (List D)) : Prop :=
  ∀ {r sa : Addr} {H0 : Hp} {O0 O : List Addr} {σ : St} {δ : En} {s : S} {H : Hp}, Gd B r sa H0 O0 W O σ δ s H → ∀ R : It → Hp → Prop,
    (f δ s).post (fun ds s' => ∀ J H', Stp r H H' → RowAt B r sa H' s' → Wk B r O H' J ds → R J H') (EPost B E r sa H O) → wi σ H R
def asLst : D → Option (List D) | .lst ds => some ds | _ => none
def asTup : D → Option (List D) | .tup ds => some ds | _ => none
def cItL (f : En → M D) : En → M (List D) := fun δ s => (f δ s).bind fun d s1 => lift (asLst d) s1
def cItT (f : En → M D) : En → M (List D) := fun δ s => (f δ s).bind fun d s1 => lift (asTup d) s1
def cItU (f : En → M D) : En → M (List D) := fun δ s => (f δ s).bind fun d s1 => lift (seqD d) s1
def upto (lo : Int) (n : Nat) : List D := (List.range n).map fun (i : Nat) => D.int (lo + (i : Int))
def gR1 : List D → Option (List D) | [.int j] => if -(2 ^ 62) ≤ j ∧ j < 2 ^ 62 then some (upto 0 j.toNat) else none | _ => none
def gR2 : List D → Option (List D) | [.int i, .int j] => if -(2 ^ 62) ≤ i ∧ i < 2 ^ 62 ∧ -(2 ^ 62) ≤ j ∧ j < 2 ^ 62 then some (upto i (j - i).toNat) else none | _ => none
def cItA (g : List D → Option (List D)) (f : En → M (List D)) : En → M (List D) := fun δ s => (f δ s).bind fun ds s1 => lift (g ds) s1
theorem asLst_some {d : D} {ds : List D} (e : asLst d = some ds) : d = .lst ds := by cases d <;> simp [asLst] at e; subst e; rfl
theorem asTup_some {d : D} {ds : List D} (e : asTup d = some ds) : d = .tup ds := by cases d <;> simp [asTup] at e; subst e; rfl
theorem wk_list {r a : Addr} {O : List Addr} {H1 : Hp} {vs : List V} {ds : List D} (h : hid H1 O a = some (.lst vs)) (hr : Reps B r (hid H1 O) vs ds) : Wk B r O H1 (Itl B.K a) ds := by
  intro O' H2 sm hd
  have e : H2 a = some (.lst vs) := hid_le _ _ (sm _ _ h)
  have hl := hr.length
  refine ⟨fun i hi => ⟨vs, vs[i]'(by omega), SqL.of e, by simp [show i < vs.length by omega]⟩, ⟨vs, SqL.of e, by omega⟩, fun i x H3 d hi hy => ?_⟩
  obtain ⟨rfl, q⟩ := hy
  obtain ⟨v, h1, h2⟩ := hr.get i d hi
  have := (q vs (SqL.of e)).symm.trans h1
  cases this
  exact ⟨Same.refl _, h2.mono sm⟩
theorem wk_tup {r a : Addr} {O : List Addr} {H1 : Hp} {vs : List V} {ds : List D} (h : SqT B.K (hid H1 O) a vs) (hr : Reps B r (hid H1 O) vs ds) : Wk B r O H1 (Itt B.K a) ds := by
  intro O' H2 sm hd
  have e : SqT B.K H2 a vs := sqT_le (same_t sm h)
  have hl := hr.length
  refine ⟨fun i hi => ⟨vs, vs[i]'(by omega), e, by simp [show i < vs.length by omega]⟩, ⟨vs, e, by omega⟩, fun i x H3 d hi hy => ?_⟩
  obtain ⟨rfl, q⟩ := hy
  obtain ⟨v, h1, h2⟩ := hr.get i d hi
  have := (q vs e).symm.trans h1
  cases this
  exact ⟨Same.refl _, h2.mono sm⟩
theorem upto_get {lo : Int} {n i : Nat} {d : D} (h : (upto lo n)[i]? = some d) : i < n ∧ d = .int (lo + (i : Int)) := by
  unfold upto at h
  rw [List.getElem?_map] at h
  obtain ⟨j, h1, h2⟩ := Option.map_eq_some_iff.mp h
  obtain ⟨h3, h4⟩ := List.getElem?_eq_some_iff.mp h1
  rw [List.length_range] at h3
  rw [List.getElem_range] at h4
  subst h4
  exact ⟨h3, h2.symm⟩
@[simp] theorem upto_len {lo : Int} {n : Nat} : (upto lo n).length = n := by unfold upto; simp
theorem wk_range {r : Addr} {O : List Addr} {H1 : Hp} {lo : Int} {n : Nat} : Wk B r O H1 (Itr lo n) (upto lo n) := by
  intro O' H2 sm hd
  refine ⟨fun i hi => by rw [upto_len] at hi; exact hi, by rw [upto_len]; exact Nat.le_refl n, fun i x H3 d hi hy => ?_⟩
  obtain ⟨rfl, rfl⟩ := hy
  obtain ⟨_, rfl⟩ := upto_get hi
  exact ⟨Same.refl _, .int _⟩
theorem ri_list {tl : TE} {f : En → M D} (ha : RdE B W E tl f) : RdI B W E (iList B.K tl) (cItL f) := by
  intro r sa H0 O0 O σ δ s H gd R h
  refine ha gd _ (post_mono (post_bind h) (fun x s1 hx v H1 st ra rp => ?_) (fun _ _ z => z))
  obtain ⟨ds, e, hd⟩ := post_lift hx
  cases asLst_some e
  obtain ⟨a, vs, rfl, h1, h2⟩ := rp.inv_lst
  exact ⟨a, rfl, ⟨vs, SqL.of (hid_le _ _ h1)⟩, hd _ H1 st ra (wk_list h1 h2)⟩
theorem ri_tup {tl : TE} {f : En → M D} (ha : RdE B W E tl f) : RdI B W E (iTup B.K tl) (cItT f) := by
  intro r sa H0 O0 O σ δ s H gd R h
  refine ha gd _ (post_mono (post_bind h) (fun x s1 hx v H1 st ra rp => ?_) (fun _ _ z => z))
  obtain ⟨ds, e, hd⟩ := post_lift hx
  cases asTup_some e
  obtain ⟨a, vs, rfl, h1, h2⟩ := rp.inv_tup
  exact ⟨a, rfl, ⟨vs, sqT_le h1⟩, hd _ H1 st ra (wk_tup h1 h2)⟩
theorem ri_r1 {ta : TA} {f : En → M (List D)} (ha : RdA B W E ta f) : RdI B W E (iRng1 ta) (cItA gR1 f) := by
  intro r sa H0 O0 O σ δ s H gd R h
  refine ha gd _ (post_mono (post_bind h) (fun x s1 hx v H1 st ra rp => ?_) (fun _ _ z => z))
  obtain ⟨ds, e, hd⟩ := post_lift hx
  unfold gR1 at e
  split at e
  · split at e
    · rename_i hj
      cases e
      cases rp with | cons r1 r2 => cases r1; cases r2; exact ⟨_, rfl, hj.1, hj.2, hd _ H1 st ra wk_range⟩
    · cases e
  · cases e
theorem ri_r2 {ta : TA} {f : En → M (List D)} (ha : RdA B W E ta f) : RdI B W E (iRng2 ta) (cItA gR2 f) := by
  intro r sa H0 O0 O σ δ s H gd R h
  refine ha gd _ (post_mono (post_bind h) (fun x s1 hx v H1 st ra rp => ?_) (fun _ _ z => z))
  obtain ⟨ds, e, hd⟩ := post_lift hx
  unfold gR2 at e
  split at e
  · split at e
    · rename_i hj
      cases e
      cases rp with | cons r1 r2 => cases r1; cases r2 with | cons r1 r2 => cases r1; cases r2; exact ⟨_, _, rfl, hj, hd _ H1 st ra wk_range⟩
    · cases e
  · cases e

/-! ### loops -/
theorem rs_for {wi : TI} {src : En → M (List D)} {ts : List Nat} {g : TG} {tg : D → En → Option En} (hi : RdI B W E wi src) (hg : RdG B W ts g tg) (hb : RdS B W E t F) : RdS B W E (tFor wi g t) (cFor src tg F) := by
  intro r sa H0 O0 O σ δ s H gd D h
  refine hi gd _ (post_mono (post_bind h) (fun ds s1 hx J H1 st ra wk => ?_) (fun _ _ z => z.up gd))
  have gd1 := gd.step st ra
  refine ⟨fun i m σ2 H2 => m = ds.length - i ∧ i ≤ ds.length ∧ ∃ O2 δ2 s2, Gd B r sa H0 O0 W O2 σ2 δ2 s2 H2 ∧ Same (hid H1 O) (hid H2 O2) ∧ (forL tg F (ds.drop i) δ2 s2).post (FlP B r sa H0 O0 W O H D) (EPost B E r sa H0 O0),
    ⟨ds.length, by omega, by omega, O, δ, s1, gd1, Same.refl _, by rw [List.drop_zero]; exact hx⟩, ?_⟩
  rintro i m σ2 H2 ⟨rfl, hle, O2, δ2, s2, gd2, sm, hp⟩
  obtain ⟨w1, w2, w3⟩ := wk O2 H2 sm gd2.dom
  by_cases hlt : i < ds.length
  · refine .inr ⟨w1 i hlt, fun σ' H' => ∃ O3 δ3 s3, Gd B r sa H0 O0 W O3 σ' δ3 s3 H' ∧ Same (hid H1 O) (hid H' O3) ∧ (forL tg F (ds.drop (i + 1)) δ3 s3).post (FlP B r sa H0 O0 W O H D) (EPost B E r sa H0 O0),
      fun σ' H' ⟨O3, δ3, s3, a, b, c⟩ => ⟨ds.length - (i + 1), by omega, rfl, by omega, O3, δ3, s3, a, b, c⟩, fun x H' hy => ?_⟩
    obtain ⟨sm3, rp⟩ := w3 i x H' ds[i] (by simp [hlt]) hy
    have gd3 := gd2.step (Stp.of sm3) (gd2.row.same sm3)
    have smh := hid_same (O := O2) sm3
    rw [List.drop_eq_getElem_cons hlt] at hp
    obtain ⟨δ3, e, hp⟩ := post_lift (post_bind hp)
    refine hg gd3 rp e _ fun σ3 gd4 _ _ => hb gd4 _ (post_mono (post_bind hp) (fun fl s4 hq => ?_) (fun _ _ z => z))
    cases fl with
    | next δ4 => exact fun O' σ' H' g' sm' => ⟨O', δ4, s4, g', sm.trans (smh.trans sm'), hq⟩
    | cont δ4 => exact fun O' σ' H' g' sm' => ⟨O', δ4, s4, g', sm.trans (smh.trans sm'), hq⟩
    | brk δ4 => exact fun O' σ' H' g' sm' => hq O' σ' H' g' ((st.hid gd.rO).trans (sm.trans (smh.trans sm')))
    | ret d => exact hq
  · have e : i = ds.length := by omega
    subst e
    rw [List.drop_length] at hp
    exact .inl ⟨w2, hp O2 σ2 H2 gd2 ((st.hid gd.rO).trans sm)⟩
theorem rs_while {fuel : En → Nat} (hc : RdT B W E tc fc) (hb : RdS B W E t F) : RdS B W E (tWhile tc t) (cWhile fuel fc F) := by
  intro r sa H0 O0 O σ δ s H gd D h
  refine ⟨fun m σ2 H2 => ∃ O2 δ2 s2, Gd B r sa H0 O0 W O2 σ2 δ2 s2 H2 ∧ Same (hid H O) (hid H2 O2) ∧ (whileN fc F m δ2 s2).post (FlP B r sa H0 O0 W O H D) (EPost B E r sa H0 O0),
    ⟨fuel δ, O, δ, s, gd, Same.refl _, h⟩, ?_⟩
  rintro m σ2 H2 ⟨O2, δ2, s2, gd2, sm, hp⟩
  cases m with
  | zero => exact hp.elim
  | succ m =>
    refine hc gd2 _ (post_mono (post_bind hp) (fun b s3 hx H3 st ra => ?_) (fun _ _ z => z.up gd2))
    have gd3 := gd2.step st ra
    have sm3 := sm.trans (st.hid gd2.rO)
    cases b with
    | false => exact hx O2 σ2 H3 gd3 sm3
    | true =>
      refine ⟨fun σ' H' => ∃ O3 δ3 s3, Gd B r sa H0 O0 W O3 σ' δ3 s3 H' ∧ Same (hid H O) (hid H' O3) ∧ (whileN fc F m δ3 s3).post (FlP B r sa H0 O0 W O H D) (EPost B E r sa H0 O0),
        fun σ' H' q => ⟨m, Nat.lt_succ_self m, q⟩, hb gd3 _ (post_mono (post_bind hx) (fun fl s4 hq => ?_) (fun _ _ z => z))⟩
      cases fl with
      | next δ4 => exact fun O' σ' H' g' sm' => ⟨O', δ4, s4, g', sm3.trans sm', hq⟩
      | cont δ4 => exact fun O' σ' H' g' sm' => ⟨O', δ4, s4, g', sm3.trans sm', hq⟩
      | brk δ4 => exact fun O' σ' H' g' sm' => hq O' σ' H' g' (sm3.trans sm')
      | ret d => exact hq
end
end PV

namespace PV
open PySem L2
/-! ### owned lists -/
section
variable {B : Bs} {W : List Nat} {E : Option XK}
theorem Gd.setOwn {r sa : Addr} {H0 : Hp} {O0 O : List Addr} {σ : St} {δ : En} {s : S} {H : Hp} {i : Nat} {p : Addr} {vs : List V} {ds : List D} (g : Gd B r sa H0 O0 W O σ δ s H) (hi : i ∈ W) (hp : p ∈ O) (hp0 : p ∉ O0) (h : H p = some (.lst vs)) (hr : Reps B r (hid H O) vs ds)
    (hn : ∀ j d, j ∈ W → j ≠ i → δ[j]? = some (some d) → σ[j]? ≠ some (some (.ref p))) : Gd B r sa H0 O0 W O (σ.set i (some (.ref p))) (δ.set i (some (.lst ds))) s H := by
  refine ⟨by rw [List.length_set, List.length_set, g.len], g.row, g.r0, g.dom, g.dom0, g.sub, g.frsh, g.stp, fun j e hj q => ?_, fun j e hj q => ?_, fun j k p' e e' hj hk ne q1 q2 q3 q4 => ?_⟩
  · have z : i ≠ j := fun z => hj (z ▸ hi)
    rw [List.getElem?_set_ne z] at q ⊢
    exact g.val j e hj q
  · by_cases z : i = j
    · subst z
      have hl : i < δ.length := by
        rcases Nat.lt_or_ge i δ.length with h | h
        · exact h
        · rw [List.getElem?_eq_none (by rw [List.length_set]; exact h)] at q; cases q
      rw [List.getElem?_set_self hl] at q
      cases q
      exact ⟨p, vs, ds, rfl, by rw [List.getElem?_set_self (by rw [g.len]; exact hl)], hp, hp0, h, hr⟩
    · rw [List.getElem?_set_ne z] at q ⊢
      exact g.own j e hj q
  · by_cases z : i = j
    · have z' : i ≠ k := fun w => ne (z ▸ w ▸ rfl)
      subst z
      have hl : i < σ.length := by
        rcases Nat.lt_or_ge i σ.length with h | h
        · exact h
        · rw [List.getElem?_eq_none (by rw [List.length_set]; exact h)] at q3; cases q3
      rw [List.getElem?_set_self hl] at q3
      cases q3
      rw [List.getElem?_set_ne z'] at q2 q4
      exact hn k e' hk (Ne.symm z') q2 q4
    · by_cases z' : i = k
      · subst z'
        have hl : i < σ.length := by
          rcases Nat.lt_or_ge i σ.length with h | h
          · exact h
          · rw [List.getElem?_eq_none (by rw [List.length_set]; exact h)] at q4; cases q4
        rw [List.getElem?_set_self hl] at q4
        cases q4
        rw [List.getElem?_set_ne z] at q1 q3
        exact hn j e hj (Ne.symm z) q1 q3
      · rw [List.getElem?_set_ne z] at q1 q3
        rw [List.getElem?_set_ne z'] at q2 q4
        exact g.inj j k p' e e' hj hk ne q1 q2 q3 q4
/-- what is owned is written -/
theorem Gd.write {r sa : Addr} {H0 : Hp} {O0 O : List Addr} {σ : St} {δ : En} {s : S} {H : Hp} {i : Nat} {p : Addr} {d : D} {vs : List V} {ds : List D} (g : Gd B r sa H0 O0 W O σ δ s H) (hi : i ∈ W) (hd : δ[i]? = some (some d)) (hσ : σ[i]? = some (some (.ref p)))
    (hr : Reps B r (hid H O) vs ds) : Gd B r sa H0 O0 W O σ (δ.set i (some (.lst ds))) s (upd H p (.lst vs)) ∧ hid (upd H p (.lst vs)) O = hid H O := by
  obtain ⟨p', vs', ds', h1, h2, hp, hp0, h, hr'⟩ := g.own i d hi hd
  have e : p' = p := by rw [h2] at hσ; injection (Option.some.inj hσ) with z; injection z
  subst e
  have eh : hid (upd H p' (.lst vs)) O = hid H O := hid_upd hp
  have npr : p' ≠ r := fun z => hp0 (z ▸ g.r0)
  refine ⟨⟨by rw [List.length_set]; exact g.len, ⟨by rw [upd_ne (Ne.symm npr)]; exact g.row.1, g.row.2.elim (fun ⟨o, q⟩ => .inl ⟨o, by rw [upd_ne (ne_of q h (fun z => nomatch z))]; exact q⟩) .inr⟩, g.r0, fun q hq => ?_, g.dom0, g.sub, g.frsh, ?_, fun j e hj q => ?_, fun j e hj q => ?_, fun j k p2 e e' hj hk ne q1 q2 q3 q4 => ?_⟩, eh⟩
  · by_cases z : q = p'
    · rw [z, upd_same]; exact fun z => nomatch z
    · rw [upd_ne z]; exact g.dom q hq
  · intro a o na ha
    have : a ≠ p' := fun z => by
      subst z
      rcases g.frsh a hp with q | q
      · exact hp0 q
      · rw [q] at ha; cases ha
    rw [upd_ne this]; exact g.stp a o na ha
  · rw [eh]
    have z : i ≠ j := fun z => hj (z ▸ hi)
    rw [List.getElem?_set_ne z] at q
    exact g.val j e hj q
  · rw [eh]
    by_cases z : i = j
    · subst z
      have hl : i < δ.length := (List.getElem?_eq_some_iff.mp hd).1
      rw [List.getElem?_set_self hl] at q
      cases q
      exact ⟨p', vs, ds, rfl, hσ, hp, hp0, upd_same, hr⟩
    · rw [List.getElem?_set_ne z] at q
      obtain ⟨p2, vs2, ds2, q1, q2, q3, q4, q5, q6⟩ := g.own j e hj q
      have : p2 ≠ p' := fun w => by
        subst w
        exact g.inj i j p2 d e hi hj z hd q hσ q2
      exact ⟨p2, vs2, ds2, q1, q2, q3, q4, by rw [upd_ne this]; exact q5, q6⟩
  · have q1' : ∃ d1, δ[j]? = some (some d1) := by
      by_cases z : i = j
      · subst z; exact ⟨d, hd⟩
      · rw [List.getElem?_set_ne z] at q1; exact ⟨e, q1⟩
    have q2' : ∃ d1, δ[k]? = some (some d1) := by
      by_cases z : i = k
      · subst z; exact ⟨d, hd⟩
      · rw [List.getElem?_set_ne z] at q2; exact ⟨e', q2⟩
    obtain ⟨d1, z1⟩ := q1'
    obtain ⟨d2, z2⟩ := q2'
    exact g.inj j k p2 d1 d2 hj hk ne z1 z2 q3 q4
/-- a new list is owned -/
theorem Gd.grow {r sa : Addr} {H0 : Hp} {O0 O : List Addr} {σ : St} {δ : En} {s s' : S} {H H' : Hp} {p : Addr} {o : HO} (g : Gd B r sa H0 O0 W O σ δ s H) (st : Stp r H H') (ra : RowAt B r sa H' s') (hn : H p = none) (hp : H' p = some o) :
    Gd B r sa H0 O0 W (p :: O) σ δ s' H' ∧ Same (hid H O) (hid H' (p :: O)) := by
  have g1 := g.step st ra
  have sm : Same (hid H O) (hid H' (p :: O)) := fun a u e => by
    have ⟨h1, h2⟩ := hid_some e
    have na : a ≠ p := ne_of_none h2 hn
    rw [hid_out (by simp [na, h1])]
    exact st a u (fun z => h1 (z ▸ g.rO)) h2
  have n0 : H0 p = none := by
    cases q : H0 p with
    | none => rfl
    | some u =>
      by_cases z : p = r
      · subst z; rw [g.row.1] at hn; cases hn
      · rw [g.stp p u z q] at hn; cases hn
  refine ⟨⟨g.len, ra, g.r0, fun q hq => ?_, g.dom0, fun q hq => List.mem_cons_of_mem _ (g.sub q hq), fun q hq => ?_, g1.stp, fun i d hi q => ?_, fun i d hi q => ?_, g.inj⟩, sm⟩
  · rcases List.mem_cons.mp hq with z | z
    · rw [z, hp]; exact fun z => nomatch z
    · exact g1.dom q z
  · rcases List.mem_cons.mp hq with z | z
    · subst z; exact .inr n0
    · exact g.frsh q z
  · obtain ⟨v, h1, h2⟩ := g.val i d hi q
    exact ⟨v, h1, h2.mono sm⟩
  · obtain ⟨p', vs, ds, h1, h2, h3, h4, h5, h6⟩ := g.own i d hi q
    exact ⟨p', vs, ds, h1, h2, List.mem_cons_of_mem _ h3, h4, st p' _ (fun z => h4 (z ▸ g.r0)) h5, h6.mono sm⟩
theorem Gd.fresh0 {r sa : Addr} {H0 : Hp} {O0 O : List Addr} {σ : St} {δ : En} {s : S} {H : Hp} {p : Addr} (g : Gd B r sa H0 O0 W O σ δ s H) (hn : H p = none) : p ∉ O ∧ p ∉ O0 := ⟨fun z => g.dom p z hn, fun z => g.dom p (g.sub p z) hn⟩
/-- an expression that makes a new list -/
def RdL (B : Bs) (W : List Nat) (E : Option XK) (t : TE) (f : En → M (List D)) : Prop :=
  ∀ {r sa : Addr} {H0 : Hp} {O0 O : List Addr} {σ : St} {δ : En} {s : S} {H : Hp}, Gd B r sa H0 O0 W O σ δ s H → ∀ Q : VK,
    (f δ s).post (fun ds s' => ∀ p vs H', Stp r H H' → RowAt B r sa H' s' → H p = none → H' p = some (.lst vs) → Reps B r (hid H' (p :: O)) vs ds → Q (.ref p) H') (EPost B E r sa H O) → t σ H Q
def cOfL (f : En → M (List D)) : En → M D := fun δ s => (f δ s).bind fun ds s1 => .ok (.lst ds) s1
theorem rd_ofL {te : TE} {f : En → M (List D)} (h : RdL B W E te f) : RdE B W E te (cOfL f) := by
  intro r sa H0 O0 O σ δ s H gd Q hp
  refine h gd _ (post_mono (post_bind hp) (fun ds s1 hx p vs H' st ra hn hv hr => ?_) (fun _ _ z => z))
  have hpO := (gd.fresh0 hn).1
  exact hx _ _ st ra (.lst (by rw [hid_out hpO]; exact hv) (hr.mono (hid_sub fun a z => List.mem_cons_of_mem _ z)))
def cLstL (fa : En → M (List D)) : En → M (List D) := fun δ s => (fa δ s).bind fun ds s1 => if ds.length ≤ 100000 then .ok ds s1 else .stuck
theorem rl_lst {ta : TA} {fa : En → M (List D)} (ha : RdA B W E ta fa) : RdL B W E (tLst ta) (cLstL fa) := by
  intro r sa H0 O0 O σ δ s H gd Q h
  refine ha gd _ (post_mono (post_bind h) (fun x s1 hx v H1 st ra rp => ?_) (fun _ _ z => z))
  split at hx
  · rename_i hl
    refine ⟨Evl.sz_of (by rw [rp.length]; exact hl), fun p hp => ?_⟩
    have n0 : H p = none := by
      cases q : H p with
      | none => rfl
      | some u =>
        by_cases z : p = r
        · subst z; rw [ra.1] at hp; cases hp
        · rw [st p u z q] at hp; cases hp
    refine hx p v _ (st.trans (Stp.new hp)) (ra.new hp) n0 upd_same (rp.mono fun a u e => ?_)
    have ⟨h1, h2⟩ := hid_some e
    have na : a ≠ p := ne_of_none h2 hp
    rw [hid_out (by simp [na, h1]), upd_ne na]; exact h2
  · exact hx.elim
def cSetL (i : Nat) (f : En → M (List D)) : En → M Fl := fun δ s => (f δ s).bind fun ds s1 => .ok (.next (δ.set i (some (.lst ds)))) s1
theorem rs_own {i : Nat} {te : TE} {f : En → M (List D)} (h : RdL B W E te f) (hi : decide (i ∈ W) = true := by rfl) : RdS B W E (tAsg te (gName i)) (cSetL i f) := by
  intro r sa H0 O0 O σ δ s H gd D hp
  refine h gd _ (post_mono (post_bind hp) (fun ds s1 hx p vs H' st ra hn hv hr => ?_) (fun _ _ z => z.up gd))
  obtain ⟨g1, sm⟩ := gd.grow st ra hn hv
  have ⟨n1, n2⟩ := gd.fresh0 hn
  refine hx _ _ _ (g1.setOwn (of_decide_eq_true hi) List.mem_cons_self n2 hv hr fun j d hj _ q z => ?_) sm
  obtain ⟨p', _, _, _, h2, h3, _⟩ := gd.own j d hj q
  rw [z] at h2; injection (Option.some.inj h2) with w; injection w with w
  exact n1 (w ▸ h3)
/-- x.append(e) -/
def ownL (δ : En) (i : Nat) : Option (List D) := δ[i]?.join.bind asLst
def cApp (i : Nat) (f : En → M D) : En → M Fl := fun δ s => (lift (ownL δ i) s).bind fun ds s0 => (f δ s0).bind fun d s1 => if ds.length < 100000 then .ok (.next (δ.set i (some (.lst (ds ++ [d]))))) s1 else .stuck
theorem ownL_some {δ : En} {i : Nat} {ds : List D} (h : ownL δ i = some ds) : δ[i]? = some (some (.lst ds)) := by
  obtain ⟨d, e1, e2⟩ := Option.bind_eq_some_iff.mp h
  cases asLst_some e2
  exact join_some e1
theorem rs_app {i : Nat} {te : TE} {f : En → M D} (h : RdE B W E te f) (hi : decide (i ∈ W) = true := by rfl) : RdS B W E (tDrop (tBM B.K "list" rAppend (tVar i) (tCons te tNil))) (cApp i f) := by
  intro r sa H0 O0 O σ δ s H gd D hp
  obtain ⟨ds, e0, hp⟩ := post_lift (post_bind hp)
  have e1 := ownL_some e0
  obtain ⟨p, vs, ds', h1, h2, h3, h4, h5, h6⟩ := gd.own i _ (of_decide_eq_true hi) e1
  cases h1
  refine ⟨_, h2, .inl ⟨rfl, _, SqL.of h5⟩, h gd _ (post_mono (post_bind hp) (fun d s1 hx v H1 st ra rp => ?_) (fun _ _ z => z.up gd))⟩
  split at hx
  · rename_i hl
    have g1 := gd.step st ra
    have h5' := st p _ (fun z => h4 (z ▸ gd.r0)) h5
    have sm := st.hid gd.rO
    refine ⟨p, vs, v, rfl, rfl, h5', Evl.sz_lt (by rw [h6.length]; exact hl), ?_⟩
    obtain ⟨g2, eh⟩ := g1.write (of_decide_eq_true hi) e1 h2 ((h6.mono sm).append (.cons rp .nil))
    exact hx O σ _ g2 (by rw [eh]; exact sm)
  · exact hx.elim
/-- x.extend(e) of a list -/
def cExt (i : Nat) (f : En → M D) : En → M Fl := fun δ s => (lift (ownL δ i) s).bind fun ds s0 => (f δ s0).bind fun d s1 => (lift (asLst d) s1).bind fun es s2 => if ds.length + es.length ≤ 100000 then .ok (.next (δ.set i (some (.lst (ds ++ es))))) s2 else .stuck
theorem rs_ext {i : Nat} {te : TE} {f : En → M D} (h : RdE B W E te f) (hi : decide (i ∈ W) = true := by rfl) : RdS B W E (tDrop (tBM B.K "list" rExtend (tVar i) (tCons te tNil))) (cExt i f) := by
  intro r sa H0 O0 O σ δ s H gd D hp
  obtain ⟨ds, e0, hp⟩ := post_lift (post_bind hp)
  have e1 := ownL_some e0
  obtain ⟨p, vs, ds', h1, h2, h3, h4, h5, h6⟩ := gd.own i _ (of_decide_eq_true hi) e1
  cases h1
  refine ⟨_, h2, .inl ⟨rfl, _, SqL.of h5⟩, h gd _ (post_mono (post_bind hp) (fun d s1 hx v H1 st ra rp => ?_) (fun _ _ z => z.up gd))⟩
  obtain ⟨es, e2, hy⟩ := post_lift (post_bind hx)
  cases asLst_some e2
  obtain ⟨b, ws, rfl, hb, hw⟩ := rp.inv_lst
  split at hy
  · rename_i hl
    have g1 := gd.step st ra
    have h5' := st p _ (fun z => h4 (z ▸ gd.r0)) h5
    have sm := st.hid gd.rO
    refine ⟨p, b, vs, ws, rfl, rfl, h5', hid_le _ _ hb, Evl.sz_of (by rw [h6.length, hw.length]; exact hl), ?_⟩
    obtain ⟨g2, eh⟩ := g1.write (of_decide_eq_true hi) e1 h2 ((h6.mono sm).append hw)
    exact hy O σ _ g2 (by rw [eh]; exact sm)
  · exact hy.elim
/-- x.pop(), its value dropped -/
def cPop (i : Nat) : En → M Fl := fun δ s => (lift (ownL δ i) s).bind fun ds s0 => if ds ≠ [] then .ok (.next (δ.set i (some (.lst ds.dropLast)))) s0 else .stuck
theorem Reps.dropLast {r : Addr} {H : Hp} {vs : List V} {ds : List D} (h : Reps B r H vs ds) : Reps B r H vs.dropLast ds.dropLast := by
  rw [List.dropLast_eq_take, List.dropLast_eq_take, h.length]; exact h.take _
theorem rs_pop {i : Nat} (hi : decide (i ∈ W) = true := by rfl) : RdS B W E (tDrop (tBM0 B.K "list" rPop (tVar i))) (cPop i) := by
  intro r sa H0 O0 O σ δ s H gd D hp
  obtain ⟨ds, e0, hp⟩ := post_lift (post_bind hp)
  have e1 := ownL_some e0
  obtain ⟨p, vs, ds', h1, h2, h3, h4, h5, h6⟩ := gd.own i _ (of_decide_eq_true hi) e1
  cases h1
  split at hp
  · rename_i hl
    have hv : 0 < vs.length := by rw [h6.length]; cases ds with | nil => exact absurd rfl hl | cons _ _ => simp
    refine ⟨_, h2, .inl ⟨rfl, _, SqL.of h5⟩, p, vs, vs[vs.length - 1]'(by omega), rfl, rfl, h5, by simp [show vs.length - 1 < vs.length by omega], ?_⟩
    obtain ⟨g2, eh⟩ := gd.write (of_decide_eq_true hi) e1 h2 h6.dropLast
    exact hp O σ _ g2 (by rw [eh]; exact Same.refl _)
  · exact hp.elim
/-- x[i] = e -/
def cPut (i : Nat) (fi f : En → M D) : En → M Fl := fun δ s => (lift (ownL δ i) s).bind fun ds s0 => (f δ s0).bind fun d s1 => (fi δ s1).bind fun k s2 => (lift (asI k) s2).bind fun j s3 => (lift (ixN ds.length j) s3).bind fun m s4 => .ok (.next (δ.set i (some (.lst (ds.set m d))))) s4
theorem rs_put {i : Nat} {te ti : TE} {f fi : En → M D} (h : RdE B W E te f) (h' : RdE B W E ti fi) (hi : decide (i ∈ W) = true := by rfl) : RdS B W E (tAsg te (gSub (tVar i) ti rSetL)) (cPut i fi f) := by
  intro r sa H0 O0 O σ δ s H gd D hp
  obtain ⟨ds, e0, hp⟩ := post_lift (post_bind hp)
  have e1 := ownL_some e0
  obtain ⟨p, vs, ds', h1, h2, h3, h4, h5, h6⟩ := gd.own i _ (of_decide_eq_true hi) e1
  cases h1
  refine h gd _ (post_mono (post_bind hp) (fun d s1 hx v H1 st ra rp => ?_) (fun _ _ z => z.up gd))
  have g1 := gd.step st ra
  refine ⟨_, h2, h' g1 _ (post_mono (post_bind hx) (fun k s2 hx w H2 st2 ra2 rp2 => ?_) (fun _ _ z => z.up g1))⟩
  obtain ⟨j, e2, hy⟩ := post_lift (post_bind hx)
  cases asI_some e2
  cases rp2
  obtain ⟨m, e3, hz⟩ := post_lift (post_bind hy)
  have g2 := g1.step st2 ra2
  have h5' := (st.trans st2) p _ (fun z => h4 (z ▸ gd.r0)) h5
  have sm := (st.trans st2).hid gd.rO
  refine ⟨p, vs, _, m, rfl, rfl, h5', by rw [h6.length]; exact e3, ?_⟩
  obtain ⟨g3, eh⟩ := g2.write (of_decide_eq_true hi) e1 h2 ((h6.mono sm).set m (rp.mono (st2.hid gd.rO)))
  exact hz O σ _ g3 (by rw [eh]; exact sm)

/-! ### a, b = e, f -/
inductive Cell where
  | v (d : D)
  | n (ds : List D)
def CellR (B : Bs) (r : Addr) (H0 : Hp) (O0 O O' : List Addr) (H' : Hp) : V → Cell → Prop
  | v, .v d => Rep B r (hid H' O') v d
  | v, .n ds => ∃ p vs, v = .ref p ∧ p ∈ O' ∧ p ∉ O ∧ p ∉ O0 ∧ H' p = some (.lst vs) ∧ Reps B r (hid H' O') vs ds
/-- values, from the left: each a value or a new list -/
def RdP (B : Bs) (W : List Nat) (E : Option XK) (t : TE) (f : En → M Cell) : Prop :=
  ∀ {r sa : Addr} {H0 : Hp} {O0 O : List Addr} {σ : St} {δ : En} {s : S} {H : Hp}, Gd B r sa H0 O0 W O σ δ s H → ∀ Q : VK,
    (f δ s).post (fun c s' => ∀ v O' H', Gd B r sa H0 O0 W O' σ δ s' H' → Same (hid H O) (hid H' O') → (∀ a ∈ O, a ∈ O') → CellR B r H0 O0 O O' H' v c → (∀ a vs, a ∈ O → a ≠ r → H a = some (.lst vs) → H' a = some (.lst vs)) → Q v H') (EPost B E r sa H0 O0) → t σ H Q
def cV (f : En → M D) : En → M Cell := fun δ s => (f δ s).bind fun d s1 => .ok (.v d) s1
def cN (f : En → M (List D)) : En → M Cell := fun δ s => (f δ s).bind fun d s1 => .ok (.n d) s1
theorem rp_v {te : TE} {f : En → M D} (h : RdE B W E te f) : RdP B W E te (cV f) := by
  intro r sa H0 O0 O σ δ s H gd Q hp
  exact h gd _ (post_mono (post_bind hp) (fun x s1 hx v H1 st ra rp => hx v O H1 (gd.step st ra) (st.hid gd.rO) (fun _ z => z) rp fun a vs _ na ha => st a _ na ha) (fun _ _ z => z.up gd))
theorem rp_n {te : TE} {f : En → M (List D)} (h : RdL B W E te f) : RdP B W E te (cN f) := by
  intro r sa H0 O0 O σ δ s H gd Q hp
  refine h gd _ (post_mono (post_bind hp) (fun x s1 hx p vs H1 st ra hn hv hr => ?_) (fun _ _ z => z.up gd))
  obtain ⟨g1, sm⟩ := gd.grow st ra hn hv
  have ⟨n1, n2⟩ := gd.fresh0 hn
  exact hx _ _ _ g1 sm (fun a z => List.mem_cons_of_mem _ z) ⟨p, vs, rfl, List.mem_cons_self, n1, n2, hv, hr⟩ fun a vs _ na ha => st a _ na ha
def putC (W : List Nat) (i : Nat) (c : Cell) (δ : En) : Option En := match c with
  | .v d => if i ∈ W then none else some (δ.set i (some d))
  | .n ds => if i ∈ W then some (δ.set i (some (.lst ds))) else none
theorem putC_v {W : List Nat} {i : Nat} {d : D} {δ : En} : putC W i (.v d) δ = if i ∈ W then none else some (δ.set i (some d)) := rfl
theorem putC_n {W : List Nat} {i : Nat} {ds : List D} {δ : En} : putC W i (.n ds) δ = if i ∈ W then some (δ.set i (some (.lst ds))) else none := rfl
theorem Gd.putC {r sa : Addr} {H0 : Hp} {O0 O O' : List Addr} {σ : St} {δ δ' : En} {s : S} {H : Hp} {i : Nat} {v : V} {c : Cell} (g : Gd B r sa H0 O0 W O' σ δ s H) (hc : CellR B r H0 O0 O O' H v c)
    (hn : ∀ p, v = .ref p → p ∉ O → ∀ j d, j ∈ W → j ≠ i → δ[j]? = some (some d) → σ[j]? ≠ some (some (.ref p))) (e : putC W i c δ = some δ') : Gd B r sa H0 O0 W O' (σ.set i (some v)) δ' s H := by
  cases c with
  | v d =>
    rw [putC_v] at e
    split at e
    · cases e
    · rename_i h; cases e; exact g.set h hc
  | n ds =>
    rw [putC_n] at e
    split at e
    · rename_i h; cases e
      obtain ⟨p, vs, rfl, h1, h2, h3, h4, h5⟩ := hc
      exact g.setOwn h h1 h3 h4 h5 (hn p rfl h2)
    · cases e
def setAll : St → List Nat → List V → St
  | σ, i :: is, v :: vs => setAll (σ.set i (some v)) is vs
  | σ, _, _ => σ
/-- values from the left, then all the slots -/
def RdPs (B : Bs) (W : List Nat) (E : Option XK) (ta : TA) (is : List Nat) (F : En → En → M En) : Prop :=
  ∀ {r sa : Addr} {H0 : Hp} {O0 O : List Addr} {σ σa : St} {δ δa : En} {s : S} {H : Hp}, Gd B r sa H0 O0 W O σ δ s H → Gd B r sa H0 O0 W O σa δa s H → ∀ Q : List V → Hp → Prop,
    (F δ δa s).post (fun δ' s' => ∀ vs O' H', Gd B r sa H0 O0 W O' (setAll σa is vs) δ' s' H' → Same (hid H O) (hid H' O') → vs.length = is.length → Q vs H') (EPost B E r sa H0 O0) → ta σ H Q
def pNil : En → En → M En := fun _ δa s => .ok δa s
def pCons (W : List Nat) (i : Nat) (f : En → M Cell) (F : En → En → M En) : En → En → M En := fun δ δa s => (f δ s).bind fun c s1 => (lift (putC W i c δa) s1).bind fun δb s2 => F δ δb s2
theorem rps_nil : RdPs B W E tNil [] pNil := by
  intro r sa H0 O0 O σ σa δ δa s H gd ga Q h
  exact h [] O H ga (Same.refl _) rfl
/-- behind a cell: the other slots stand too -/
theorem Gd.cell {r sa : Addr} {H0 : Hp} {O0 O O' : List Addr} {σ σa : St} {δ δa : En} {s s' : S} {H H' : Hp} (g : Gd B r sa H0 O0 W O σa δa s H) (g' : Gd B r sa H0 O0 W O' σ δ s' H') (sm : Same (hid H O) (hid H' O')) (sb : ∀ a ∈ O, a ∈ O') (kp : ∀ a vs, a ∈ O → a ≠ r → H a = some (.lst vs) → H' a = some (.lst vs)) :
    Gd B r sa H0 O0 W O' σa δa s' H' := by
  refine ⟨g.len, g'.row, g.r0, g'.dom, g.dom0, g'.sub, g'.frsh, g'.stp, fun j e hj q => ?_, fun j e hj q => ?_, g.inj⟩
  · obtain ⟨v, h1, h2⟩ := g.val j e hj q
    exact ⟨v, h1, h2.mono sm⟩
  · obtain ⟨p, vs, ds, h1, h2, h3, h4, h5, h6⟩ := g.own j e hj q
    exact ⟨p, vs, ds, h1, h2, sb p h3, h4, kp p vs h3 (fun z => h4 (z ▸ g.r0)) h5, h6.mono sm⟩
theorem rps_cons {te : TE} {tr : TA} {i : Nat} {is : List Nat} {f : En → M Cell} {F : En → En → M En} (h1 : RdP B W E te f) (h2 : RdPs B W E tr is F) : RdPs B W E (tCons te tr) (i :: is) (pCons W i f F) := by
  intro r sa H0 O0 O σ σa δ δa s H gd ga Q hp
  refine h1 gd _ (post_mono (post_bind hp) (fun c s1 hx v O1 H1 g1 sm1 sb1 c1 k1 => ?_) (fun _ _ z => z))
  obtain ⟨δb, e, hy⟩ := post_lift (post_bind hx)
  have ga1 := ga.cell g1 sm1 sb1 k1
  have ga2 := ga1.putC (i := i) c1 (fun p _ hnp k d hk _ q z => by
    obtain ⟨p', _, _, _, q2, q3, _⟩ := ga.own k d hk q
    rw [z] at q2; injection (Option.some.inj q2) with w; injection w with w
    exact hnp (w ▸ q3)) e
  refine h2 g1 ga2 _ (post_mono hy (fun δ' s2 hz vs O' H' g' sm' hl => ?_) (fun _ _ z => z))
  exact hz (v :: vs) O' H' g' (sm1.trans sm') (by rw [List.length_cons, List.length_cons, hl])
def cPar (F : En → En → M En) : En → M Fl := fun δ s => (F δ δ s).bind fun δ' s1 => .ok (.next δ') s1
theorem rs_par {i j : Nat} {ta : TA} {F : En → En → M En} (h : RdPs B W E ta [i, j] F) : RdS B W E (tPar i j ta) (cPar F) := by
  intro r sa H0 O0 O σ δ s H gd D hp
  refine h gd gd _ (post_mono (post_bind hp) (fun δ' s1 hx vs O' H' g' sm' hl => ?_) (fun _ _ z => z))
  match vs, hl with
  | [v, w], _ => exact ⟨v, w, rfl, hx O' _ H' g' sm'⟩
theorem rs_par3 {i j l : Nat} {ta : TA} {F : En → En → M En} (h : RdPs B W E ta [i, j, l] F) : RdS B W E (tPar3 i j l ta) (cPar F) := by
  intro r sa H0 O0 O σ δ s H gd D hp
  refine h gd gd _ (post_mono (post_bind hp) (fun δ' s1 hx vs O' H' g' sm' hl => ?_) (fun _ _ z => z))
  match vs, hl with
  | [u, v, w], _ => exact ⟨u, v, w, rfl, hx O' _ H' g' sm'⟩
def gNames : List Nat → TGs
  | [] => gNil
  | i :: is => gCons (gName i) (gNames is)
theorem gNames_all : ∀ (is : List Nat) (vs : List V) (σ : St) (H : Hp) (Q : St → Hp → Prop), vs.length = is.length → Q (setAll σ is vs) H → gNames is vs σ H Q
  | [], [], σ, H, Q, _, q => ⟨rfl, q⟩
  | i :: is, v :: vs, σ, H, Q, hl, q => ⟨v, vs, rfl, gNames_all is vs (σ.set i (some v)) H Q (by simpa using hl) q⟩
theorem rs_parT {is : List Nat} {ta : TA} {F : En → En → M En} (h : RdPs B W E ta is F) (hz : is.length ≤ 100000 := by decide) : RdS B W E (tAsg (tTup ta) (gTup B.K is.length (gNames is))) (cPar F) := by
  intro r sa H0 O0 O σ δ s H gd D hp
  refine h gd gd _ (post_mono (post_bind hp) (fun δ' s1 hx vs O' H' g' sm' hl => ⟨Evl.sz_of (by omega), fun p hn => ?_⟩) (fun _ _ z => z))
  refine ⟨p, vs, rfl, SqT.of upd_same, hl, gNames_all is vs σ _ _ hl (hx O' _ _ (g'.step (Stp.new hn) (g'.row.new hn)) (sm'.trans (hid_new hn g'.dom).1))⟩
end
end PV

namespace PV
open PySem L2
/-! ### comprehensions -/
def wipeD (δ : En) : List Nat → En
  | [] => δ
  | v :: vs => (wipeD δ vs).set v none
theorem wipeD_len (δ : En) : ∀ vs, (wipeD δ vs).length = δ.length
  | [] => rfl
  | v :: vs => by unfold wipeD; rw [List.length_set, wipeD_len δ vs]
theorem wipeD_some {δ : En} {i : Nat} {d : D} : ∀ {vs : List Nat}, (wipeD δ vs)[i]? = some (some d) → δ[i]? = some (some d) ∧ i ∉ vs
  | [], h => ⟨h, by simp⟩
  | v :: vs, h => by
    unfold wipeD at h
    by_cases e : v = i
    · subst e
      rw [List.getElem?_set] at h
      split at h
      · split at h <;> cases h
      · rename_i z; exact absurd rfl z
    · rw [List.getElem?_set_ne e] at h
      have ⟨h1, h2⟩ := wipeD_some h
      exact ⟨h1, by simp [h2, Ne.symm e]⟩
theorem wipe_get {σ : St} {i : Nat} : ∀ {vs : List Nat}, i ∉ vs → (wipe σ vs)[i]? = σ[i]?
  | [], _ => rfl
  | v :: vs, h => by
    unfold wipe
    have ⟨h1, h2⟩ : i ≠ v ∧ i ∉ vs := by simpa using h
    rw [List.getElem?_set_ne (Ne.symm h1), wipe_get h2]
theorem wipe_at {σ : St} {i : Nat} : ∀ {vs : List Nat}, i ∈ vs → i < σ.length → (wipe σ vs)[i]? = some none
  | [], h, _ => by cases h
  | v :: vs, h, hl => by
    unfold wipe
    by_cases e : v = i
    · subst e; rw [List.getElem?_set_self (by rw [wipe_length]; exact hl)]
    · rw [List.getElem?_set_ne e]
      exact wipe_at (by simpa [Ne.symm e] using h) hl
theorem wipe_ext {σ σ' : St} {vs : List Nat} (hl : σ'.length = σ.length) (h : ∀ i, i ∉ vs → σ'[i]? = σ[i]?) : wipe σ' vs = wipe σ vs := by
  refine List.ext_getElem? fun i => ?_
  by_cases hi : i ∈ vs
  · rcases Nat.lt_or_ge i σ.length with q | q
    · rw [wipe_at hi q, wipe_at hi (by omega)]
    · rw [List.getElem?_eq_none (by rw [wipe_length]; omega), List.getElem?_eq_none (by rw [wipe_length]; omega)]
  · rw [wipe_get hi, wipe_get hi, h i hi]
section
variable {B : Bs} {W : List Nat} {E : Option XK}
theorem Gd.wipe {r sa : Addr} {H0 : Hp} {O0 O : List Addr} {σ : St} {δ : En} {s : S} {H : Hp} (g : Gd B r sa H0 O0 W O σ δ s H) (vs : List Nat) : Gd B r sa H0 O0 W O (L2.wipe σ vs) (wipeD δ vs) s H := by
  refine ⟨by rw [wipe_length, wipeD_len, g.len], g.row, g.r0, g.dom, g.dom0, g.sub, g.frsh, g.stp, fun j e hj q => ?_, fun j e hj q => ?_, fun j k p e e' hj hk ne q1 q2 q3 q4 => ?_⟩
  · have ⟨h1, h2⟩ := wipeD_some q
    rw [wipe_get h2]; exact g.val j e hj h1
  · have ⟨h1, h2⟩ := wipeD_some q
    rw [wipe_get h2]; exact g.own j e hj h1
  · have ⟨h1, h2⟩ := wipeD_some q1
    have ⟨h3, h4⟩ := wipeD_some q2
    rw [wipe_get h2] at q3
    rw [wipe_get h4] at q4
    exact g.inj j k p e e' hj hk ne h1 h3 q3 q4
def compL (tg : D → En → Option En) (c : En → M Bool) (f : En → M D) (δ : En) : List D → M (List D)
  | [], s => .ok [] s
  | d :: ds, s => (lift (tg d δ) s).bind fun δ1 s1 => (c δ1 s1).bind fun b s2 => if b then (f δ1 s2).bind fun y s3 => (compL tg c f δ ds s3).bind fun ys s4 => .ok (y :: ys) s4 else compL tg c f δ ds s2
def cComp (vs : List Nat) (src : En → M (List D)) (tg : D → En → Option En) (c : En → M Bool) (f : En → M D) : En → M (List D) := fun δ s => (src δ s).bind fun ds s1 => if ds.length ≤ 100000 then compL tg c f (wipeD δ vs) ds s1 else .stuck
def cYes : En → M Bool := fun _ s => .ok true s
theorem rt_yes : RdT B W E tYes cYes := by
  intro r sa H0 O0 O σ δ s H gd Q h
  exact h H (Stp.refl H) gd.row
theorem post_bind' {α β : Type} {o : Out α} {k : α → S → Out β} {P : β → S → Prop} {R : Err → S → Prop} (h : o.post (fun a s => (k a s).post P R) R) : (o.bind k).post P R := by
  cases o <;> exact h
theorem rl_comp {wi : TI} {src : En → M (List D)} {ts vs : List Nat} {g : TG} {tg : D → En → Option En} {tt : TT} {c : En → M Bool} {te : TE} {f : En → M D} (hi : RdI B W none wi src) (hg : RdG B W ts g tg) (ht : RdT B W none tt c) (he : RdE B W none te f) (hs : (ts.all fun i => decide (i ∈ vs)) = true := by rfl) :
    RdL B W none (tLc wi g tt te vs) (cComp vs src tg c f) := by
  intro r sa H0 O0 O σ δ s H gd Q h
  refine hi gd _ (post_mono (post_bind h) (fun ds s1 hx J H1 st ra wk Dl hD => ?_) (fun _ _ z => z))
  have gd1 := gd.step st ra
  have nD : H Dl = none := by
    cases q : H Dl with
    | none => rfl
    | some u =>
      by_cases z : Dl = r
      · subst z; rw [ra.1] at hD; cases hD
      · rw [st Dl u z q] at hD; cases hD
  have ⟨nO, n0⟩ := gd1.fresh0 hD
  have nr : Dl ≠ r := fun z => nO (z ▸ gd.rO)
  obtain ⟨gd2, sm2⟩ := gd1.grow (p := Dl) (o := .lst []) (Stp.new hD) (ra.new hD) hD upd_same
  split at hx
  · rename_i hlen
    refine ⟨fun i m H2 => m = ds.length - i ∧ i ≤ ds.length ∧ ∃ acc ws s2, acc.length ≤ i ∧ Gd B r sa H0 O0 W (Dl :: O) σ δ s2 H2 ∧ H2 Dl = some (.lst ws) ∧ Reps B r (hid H2 (Dl :: O)) ws acc ∧ Stp r H1 H2 ∧ Same (hid H1 O) (hid H2 (Dl :: O)) ∧
        (compL tg c f (wipeD δ vs) (ds.drop i) s2).post (fun ys s' => ∀ p vs H', Stp r H H' → RowAt B r sa H' s' → H p = none → H' p = some (.lst vs) → Reps B r (hid H' (p :: O)) vs (acc ++ ys) → Q (.ref p) H') (fun _ _ => False),
      ⟨ds.length, by omega, by omega, [], [], s1, Nat.le_refl _, gd2, upd_same, .nil, Stp.new hD, sm2, by rw [List.drop_zero]; exact hx⟩, ?_⟩
    rintro i m H2 ⟨rfl, hle, acc, ws, s2, hal, g2, hD2, rws, st2, sm, hp⟩
    obtain ⟨w1, w2, w3⟩ := wk (Dl :: O) H2 sm g2.dom
    by_cases hlt : i < ds.length
    · refine .inr ⟨w1 i hlt, fun H' => ∃ acc ws s2, acc.length ≤ i + 1 ∧ Gd B r sa H0 O0 W (Dl :: O) σ δ s2 H' ∧ H' Dl = some (.lst ws) ∧ Reps B r (hid H' (Dl :: O)) ws acc ∧ Stp r H1 H' ∧ Same (hid H1 O) (hid H' (Dl :: O)) ∧
        (compL tg c f (wipeD δ vs) (ds.drop (i + 1)) s2).post (fun ys s' => ∀ p vs H', Stp r H H' → RowAt B r sa H' s' → H p = none → H' p = some (.lst vs) → Reps B r (hid H' (p :: O)) vs (acc ++ ys) → Q (.ref p) H') (fun _ _ => False),
        fun H' ⟨acc, ws, s2, a, b⟩ => ⟨ds.length - (i + 1), by omega, rfl, by omega, acc, ws, s2, a, b⟩, fun x H' hy => ?_⟩
      obtain ⟨sm3, rp⟩ := w3 i x H' ds[i] (by simp [hlt]) hy
      have g3 := g2.step (Stp.of sm3) (g2.row.same sm3)
      have smh := hid_same (O := Dl :: O) sm3
      rw [List.drop_eq_getElem_cons hlt] at hp
      obtain ⟨δ3, e, hp⟩ := post_lift (post_bind hp)
      refine hg (g3.wipe vs) rp e _ fun σ3 g4 ag lg => ?_
      refine ⟨by rw [wipe_ext lg fun j hj => ag j fun z => hj (of_decide_eq_true (List.all_eq_true.mp hs j z)), wipe_ext (wipe_length σ vs) fun j hj => wipe_get hj], ?_⟩
      refine ht g4 _ (post_mono (post_bind hp) (fun b s3 hq H3 st3 ra3 => ?_) (fun _ _ z => z))
      have g5 := g4.step st3 ra3
      have st13 : Stp r H2 H3 := (Stp.of sm3).trans st3
      have smf := smh.trans (st3.hid g2.rO)
      cases b with
      | false =>
        show ∃ acc ws s2, _
        exact ⟨acc, ws, s3, by omega, g2.step st13 ra3, st13 Dl _ nr hD2, rws.mono smf, st2.trans st13, sm.trans smf, hq⟩
      | true =>
        show te σ3 H3 _
        refine he g5 _ (post_mono (post_bind hq) (fun y s4 hq y' H4 st4 ra4 rp4 => ?_) (fun _ _ z => z))
        have st14 : Stp r H2 H4 := st13.trans st4
        have sm4 := smf.trans (st4.hid g2.rO)
        have g6 := g2.step st14 ra4
        have hD4 := st14 Dl _ nr hD2
        refine ⟨ws, hD4, Evl.sz_lt (by rw [rws.length]; omega), acc ++ [y], ws ++ [y'], s4, by simp; omega, ?_, upd_same, ?_, ?_, ?_, ?_⟩
        · have eh : hid (upd H4 Dl (.lst (ws ++ [y']))) (Dl :: O) = hid H4 (Dl :: O) := hid_upd List.mem_cons_self
          refine ⟨g6.len, ⟨by rw [upd_ne (Ne.symm nr)]; exact g6.row.1, g6.row.2.elim (fun ⟨o, q⟩ => .inl ⟨o, by rw [upd_ne (ne_of q hD4 (fun z => nomatch z))]; exact q⟩) .inr⟩, g6.r0, fun q hq => ?_, g6.dom0, g6.sub, g6.frsh, fun a o na ha => ?_, fun j d hj q => ?_, fun j d hj q => ?_, g6.inj⟩
          · by_cases z : q = Dl
            · rw [z, upd_same]; exact fun z => nomatch z
            · rw [upd_ne z]; exact g6.dom q hq
          · have : a ≠ Dl := fun z => by
              subst z
              have := gd.stp a o na ha
              rw [nD] at this; cases this
            rw [upd_ne this]; exact g6.stp a o na ha
          · rw [eh]; exact g6.val j d hj q
          · rw [eh]
            obtain ⟨p', vs', ds', q1, q2, q3, q4, q5, q6⟩ := g6.own j d hj q
            obtain ⟨p2, _, _, _, q2', q3', _⟩ := gd.own j d hj q
            have ep : p2 = p' := by rw [q2] at q2'; injection (Option.some.inj q2') with w; injection w with w; exact w.symm
            have : p' ≠ Dl := fun z => nO (z ▸ ep ▸ q3')
            exact ⟨p', vs', ds', q1, q2, q3, q4, by rw [upd_ne this]; exact q5, q6⟩
        · rw [hid_upd List.mem_cons_self]
          exact (rws.mono sm4).append (.cons rp4 .nil)
        · intro a o na ha
          have : a ≠ Dl := ne_of_none ha hD
          rw [upd_ne this]; exact (st2.trans st14) a o na ha
        · rw [hid_upd List.mem_cons_self]; exact sm.trans sm4
        · refine post_mono (post_bind hq) (fun ys s5 hz p vs H' a b c d e => hz p vs H' a b c d ?_) (fun _ _ z => z)
          rw [List.append_assoc] at e; exact e
    · have e : i = ds.length := by omega
      subst e
      rw [List.drop_length] at hp
      refine .inl ⟨w2, hp Dl ws H2 (st.trans st2) g2.row nD hD2 (by rw [List.append_nil]; exact rws)⟩
  · exact hx.elim
def cLc (vs : List Nat) (src : En → M (List D)) (tg : D → En → Option En) (c : En → M Bool) (f : En → M D) : En → M D := cOfL (cComp vs src tg c f)
theorem rd_comp {wi : TI} {src : En → M (List D)} {ts vs : List Nat} {g : TG} {tg : D → En → Option En} {tt : TT} {c : En → M Bool} {te : TE} {f : En → M D} (hi : RdI B W none wi src) (hg : RdG B W ts g tg) (ht : RdT B W none tt c) (he : RdE B W none te f) (hs : (ts.all fun i => decide (i ∈ vs)) = true := by rfl) :
    RdE B W none (tLc wi g tt te vs) (cLc vs src tg c f) := rd_ofL (rl_comp hi hg ht he hs)

/-! ### defs -/
def startD (n : Nat) (ds : List D) : En := ds.map some ++ List.replicate (n - ds.length) none
def endD : Fl → S → Out D
  | .ret d, s => .ok d s
  | .next _, s => .ok .non s
  | _, _ => .stuck
def runD (np n : Nat) (body : En → M Fl) : List D → M D := fun ds s => if ds.length = np then (body (startD n ds) s).bind endD else .stuck
def spD (B : Bs) (np : Nat) (F : List D → M D) : Sp := fun vs H Q _ => vs.length = np ∧ ∃ (r sa : Addr) (O : List Addr) (ds : List D) (s : S), RowAt B r sa H s ∧ r ∈ O ∧ (∀ p ∈ O, H p ≠ none) ∧ Reps B r (hid H O) vs ds ∧ (F ds s).post (OkV B r sa H O Q) (fun _ _ => False)
def cCall (np : Nat) (F : List D → M D) (fr : En → M (List D)) : En → M D := fun δ s => (fr δ s).bind fun ds s1 => if ds.length = np then F ds s1 else .stuck
theorem rd_call {np : Nat} {F : List D → M D} {tr : TA} {fr : En → M (List D)} (ha : RdA B W none tr fr) : RdE B W none (tCall (spD B np F) [] E0 tr) (cCall np F fr) := by
  intro r sa H0 O0 O σ δ s H gd Q h
  refine ha gd _ (post_mono (post_bind h) (fun x s1 hx v H1 st ra rp => ?_) (fun _ _ z => z))
  split at hx
  · rename_i hl
    rw [List.append_nil]
    exact ⟨by rw [rp.length]; exact hl, r, sa, O, x, s1, ra, gd.rO, (gd.step st ra).dom, rp, post_mono hx (fun d s2 q w H2 st2 ra2 rp2 => q w H2 (st.trans st2) ra2 rp2) (fun _ _ z => z)⟩
  · exact hx.elim
theorem start_get {N : List Str} {vs : List V} {i : Nat} : (L2.start N vs)[i]? = if i < vs.length then vs[i]?.map some else if i < vs.length + (N.length - vs.length) then some none else none := by
  unfold L2.start
  split
  · rename_i h
    rw [List.getElem?_append_left (by rw [List.length_map]; exact h), List.getElem?_map]
  · rename_i h
    rw [List.getElem?_append_right (by rw [List.length_map]; omega), List.length_map, List.getElem?_replicate]
    split
    · rw [if_pos (by omega)]
    · rw [if_neg (by omega)]
theorem startD_some {n : Nat} {ds : List D} {i : Nat} {d : D} (h : (startD n ds)[i]? = some (some d)) : ds[i]? = some d := by
  unfold startD at h
  rcases Nat.lt_or_ge i ds.length with q | q
  · rw [List.getElem?_append_left (by rw [List.length_map]; exact q), List.getElem?_map] at h
    obtain ⟨d', h1, h2⟩ := Option.map_eq_some_iff.mp h
    cases h2; exact h1
  · rw [List.getElem?_append_right (by rw [List.length_map]; exact q), List.getElem?_replicate] at h
    split at h <;> cases h
theorem fn_ok {P : Program} {w : World} {mg : Str → Option Value} {base : Heap} {x qual : Str} {st : Stmt} {f : Addr} {fd : FuncData} {N ps : List Str} {k : Nat} {body : En → M Fl} (F : Fun B.K x qual st f fd) (Sc : FnScope N ps (defScope st)) (hW : (W.all fun i => decide (ps.length ≤ i)) = true)
    (hb : ∀ (cdv : Value) (A : Around) (outer : List Env) (s : Shared) (H : Hp) (E : XK), Room k (A.deeper (PyProof.Rows.envOfC qual (defScope st) s.heap.objs.size f cdv)) →
      ∃ t, PSs (cxOf CX0 P w B.K mg base N qual (defScope st) f cdv A outer s H E).nox (defBody st) t ∧ RdS B W none t body) : FnOk P w B.K mg base CX0 (k + 1) f fd ps (spD B ps.length (runD ps.length N.length body)) := by
  refine F.ok Sc (fun vs H Q E h => h.1) (fun cdv A outer s H vs Q E hr h => ?_)
  obtain ⟨t, hP, hR⟩ := hb cdv A outer s H E hr
  obtain ⟨hl, r, sa, O, ds, s0, ra, hrO, hdom, rp, hp⟩ := h
  refine ⟨t, hP, ?_⟩
  have hds : ds.length = ps.length := by rw [← rp.length]; exact hl
  have hp : ((body (startD N.length ds) s0).bind endD).post (OkV B r sa H O Q) (fun _ _ => False) := by
    have e : runD ps.length N.length body ds s0 = (body (startD N.length ds) s0).bind endD := by unfold runD; rw [if_pos hds]
    rw [← e]; exact hp
  have gd : Gd B r sa H O W O (L2.start N vs) (startD N.length ds) s0 H := by
    refine ⟨?_, ra, hrO, hdom, hdom, fun _ h => h, fun _ h => .inl h, Stp.refl H, fun i d hi q => ?_, fun i d hi q => ?_, fun i j p d e hi hj ne q => ?_⟩
    · unfold L2.start startD; simp [rp.length]
    · obtain ⟨v, h1, h2⟩ := rp.get i d (startD_some q)
      refine ⟨v, ?_, h2⟩
      rw [start_get, if_pos (List.getElem?_eq_some_iff.mp h1).1, h1]; rfl
    · have h1 := startD_some q
      have h2 := (List.getElem?_eq_some_iff.mp h1).1
      have h3 := of_decide_eq_true (List.all_eq_true.mp hW i hi)
      omega
    · have h1 := startD_some q
      have h2 := (List.getElem?_eq_some_iff.mp h1).1
      have h3 := of_decide_eq_true (List.all_eq_true.mp hW i hi)
      omega
  refine hR gd _ (post_mono (post_bind hp) (fun fl s1 hx => ?_) (fun _ _ z => z))
  cases fl with
  | next δ' => exact fun O' σ' H' g' _ => hx .non H' g'.stp g'.row .non
  | ret d => exact fun v H' st' ra' rp' => hx v H' st' ra' rp'
  | brk δ' => exact hx.elim
  | cont δ' => exact hx.elim
end
end PV

namespace PV
open PySem L2
/-! ### built-ins -/
section
variable {B : Bs}
def gLen : List D → Option D
  | [.lst ds] => some (.int ds.length)
  | [.tup ds] => some (.int ds.length)
  | [.str z] => if z.length ≤ 100000 then some (.int z.length) else none
  | _ => none
theorem Reps.one {r : Addr} {H : Hp} {xs : List V} {d : D} (h : Reps B r H xs [d]) : ∃ v, xs = [v] ∧ Rep B r H v d := by cases h with | cons h hs => cases hs; exact ⟨_, rfl, h⟩
theorem Reps.two {r : Addr} {H : Hp} {xs : List V} {d e : D} (h : Reps B r H xs [d, e]) : ∃ v w, xs = [v, w] ∧ Rep B r H v d ∧ Rep B r H w e := by cases h with | cons h hs => cases hs with | cons h' hs => cases hs; exact ⟨_, _, rfl, h, h'⟩
theorem cs_len : CaS B (fun xs H Q => ∃ x n, xs = [x] ∧ LenV B.K x H n ∧ Q (.int n) H) gLen := by
  intro r O H xs ds d Q hd rp e q
  unfold gLen at e
  split at e
  · cases e
    obtain ⟨v, rfl, rq⟩ := rp.one
    obtain ⟨a, vs, rfl, h1, h2⟩ := rq.inv_lst
    exact ⟨_, _, rfl, .inl ⟨vs, SqL.of (hid_le _ _ h1), rfl⟩, by rw [h2.length]; exact q _ H (Same.refl H) (.int _)⟩
  · cases e
    obtain ⟨v, rfl, rq⟩ := rp.one
    obtain ⟨a, vs, rfl, h1, h2⟩ := rq.inv_tup
    exact ⟨_, _, rfl, .inr ⟨vs, sqT_le h1, rfl⟩, by rw [h2.length]; exact q _ H (Same.refl H) (.int _)⟩
  · split at e
    · rename_i hz
      cases e
      obtain ⟨v, rfl, rq⟩ := rp.one
      cases rq
      exact ⟨_, _, rfl, ⟨Evl.sz_of hz, rfl⟩, q _ H (Same.refl H) (.int _)⟩
    · cases e
  · cases e
def gAbs : List D → Option D | [.int i] => some (.int (if i < 0 then -i else i)) | _ => none
theorem cs_abs : CaS B (fun xs H Q => ∃ i, xs = [.int i] ∧ Q (.int (if i < 0 then -i else i)) H) gAbs := by
  intro r O H xs ds d Q hd rp e q
  unfold gAbs at e
  split at e
  · cases e; obtain ⟨v, rfl, rq⟩ := rp.one; cases rq
    exact ⟨_, rfl, q _ H (Same.refl H) (.int _)⟩
  · cases e
def gInt : List D → Option D | [.int i] => some (.int i) | [.bl b] => some (.int (if b then 1 else 0)) | _ => none
theorem cs_int : CaS B (fun xs H Q => (∃ i, xs = [.int i] ∧ Q (.int i) H) ∨ ∃ k, xs = [.bl k] ∧ Q (.int (if k then 1 else 0)) H) gInt := by
  intro r O H xs ds d Q hd rp e q
  unfold gInt at e
  split at e
  · cases e; obtain ⟨v, rfl, rq⟩ := rp.one; cases rq
    exact .inl ⟨_, rfl, q _ H (Same.refl H) (.int _)⟩
  · cases e; obtain ⟨v, rfl, rq⟩ := rp.one; cases rq
    exact .inr ⟨_, rfl, q _ H (Same.refl H) (.int _)⟩
  · cases e
def gMin2 : List D → Option D | [.int i, .int j] => some (.int (if j < i then j else i)) | _ => none
theorem cs_min2 : CaS B (fun xs H Q => ∃ i j, xs = [.int i, .int j] ∧ Q (.int (if j < i then j else i)) H) gMin2 := by
  intro r O H xs ds d Q hd rp e q
  unfold gMin2 at e
  split at e
  · cases e; obtain ⟨v, w, rfl, r1, r2⟩ := rp.two; cases r1; cases r2
    exact ⟨_, _, rfl, q _ H (Same.refl H) (.int _)⟩
  · cases e
def gMax2 : List D → Option D | [.int i, .int j] => some (.int (if j > i then j else i)) | _ => none
theorem cs_max2 : CaS B (fun xs H Q => ∃ i j, xs = [.int i, .int j] ∧ Q (.int (if j > i then j else i)) H) gMax2 := by
  intro r O H xs ds d Q hd rp e q
  unfold gMax2 at e
  split at e
  · cases e; obtain ⟨v, w, rfl, r1, r2⟩ := rp.two; cases r1; cases r2
    exact ⟨_, _, rfl, q _ H (Same.refl H) (.int _)⟩
  · cases e
def asInts : List D → Option (List Int)
  | [] => some []
  | .int i :: ds => (asInts ds).map (i :: ·)
  | _ :: _ => none
theorem asInts_some : ∀ {ds : List D} {ns : List Int}, asInts ds = some ns → ds = ns.map D.int
  | [], _, e => by cases e; rfl
  | .int i :: ds, ns, e => by
    obtain ⟨ms, h1, h2⟩ := Option.map_eq_some_iff.mp (e : (asInts ds).map (i :: ·) = some ns)
    subst h2; rw [asInts_some h1]; rfl
  | .non :: _, _, e | .bl _ :: _, _, e | .str _ :: _, _, e | .tup _ :: _, _, e | .lst _ :: _, _, e | .dic _ _ :: _, _, e | .sal _ _ :: _, _, e | .row :: _, _, e | .obj _ :: _, _, e | .fn _ :: _, _, e | .dct _ _ :: _, _, e => by cases e
@[simp] theorem asInts_map (ns : List Int) : asInts (ns.map D.int) = some ns := by
  induction ns with
  | nil => rfl
  | cons n ns ih => show (asInts (ns.map D.int)).map (n :: ·) = _; rw [ih]; rfl
def asBls : List D → Option (List Bool)
  | [] => some []
  | .bl i :: ds => (asBls ds).map (i :: ·)
  | _ :: _ => none
theorem asBls_some : ∀ {ds : List D} {ns : List Bool}, asBls ds = some ns → ds = ns.map D.bl
  | [], _, e => by cases e; rfl
  | .bl i :: ds, ns, e => by
    obtain ⟨ms, h1, h2⟩ := Option.map_eq_some_iff.mp (e : (asBls ds).map (i :: ·) = some ns)
    subst h2; rw [asBls_some h1]; rfl
  | .non :: _, _, e | .int _ :: _, _, e | .str _ :: _, _, e | .tup _ :: _, _, e | .lst _ :: _, _, e | .dic _ _ :: _, _, e | .sal _ _ :: _, _, e | .row :: _, _, e | .obj _ :: _, _, e | .fn _ :: _, _, e | .dct _ _ :: _, _, e => by cases e
@[simp] theorem asBls_map (ns : List Bool) : asBls (ns.map D.bl) = some ns := by
  induction ns with
  | nil => rfl
  | cons n ns ih => show (asBls (ns.map D.bl)).map (n :: ·) = _; rw [ih]; rfl
def rSumU (K : PySem.W.Frag) : List V → Hp → VK → Prop := fun vs H Q => ∃ (a : Addr) (ns : List Int), vs = [V.ref a] ∧ (SqL K H a (ns.map V.int) ∨ SqT K H a (ns.map V.int)) ∧ Q (.int ns.sum) H
open PySem.Spec PyProof.Rows PyProof.V in
theorem cr_sumU {X : Cx} (hc : X.calm = true) : CallR X (.builtin "sum") (rSumU X.K) := by
  intro pins s σ H vs us Q I r h
  obtain ⟨a, ns, rfl, hs | hs, q⟩ := h
  · exact cr_sum hc pins s σ H _ us Q I r ⟨a, ns, rfl, hs, q⟩
  · obtain ⟨its, rv, hl, _⟩ := I.tuple hs
    rw [Vals.ref1 r]
    have hi := rv.ints
    obtain ⟨xs, hx⟩ := hi.allInts.items
    have hl : s.heap.IsTuple a its.toArray := hl
    have hn : numsOf its.toArray.toList = ns := by rw [show its.toArray.toList = its from rfl, hi.numsOf]
    rw [hx] at hl hn
    rw [nums_intItems] at hn
    refine PySem.W.ktm_sumG (I.ok.hd hc) hl fun h' tk t' hk => ?_
    rw [preSum_eq, List.take_of_length_le (by simp), hn]
    exact ⟨.int _, H, I.kept hk, ⟨_, rfl⟩, q⟩
def gSum : List D → Option D | [.lst ds] => (asInts ds).map fun ns => .int ns.sum | [.tup ds] => (asInts ds).map fun ns => .int ns.sum | _ => none
theorem cs_sum : CaS B (rSumU B.K) gSum := by
  intro r O H xs ds d Q hd rp e q
  unfold gSum at e
  split at e
  · obtain ⟨ns, h1, h2⟩ := Option.map_eq_some_iff.mp e
    subst h2
    obtain ⟨v, rfl, rq⟩ := rp.one
    obtain ⟨a, vs, rfl, h3, h4⟩ := rq.inv_lst
    rw [asInts_some h1] at h4
    rw [h4.ints] at h3
    exact ⟨a, ns, rfl, .inl (SqL.of (hid_le _ _ h3)), q _ H (Same.refl H) (.int _)⟩
  · obtain ⟨ns, h1, h2⟩ := Option.map_eq_some_iff.mp e
    subst h2
    obtain ⟨v, rfl, rq⟩ := rp.one
    obtain ⟨a, vs, rfl, h3, h4⟩ := rq.inv_tup
    rw [asInts_some h1] at h4
    rw [h4.ints] at h3
    exact ⟨a, ns, rfl, .inr (sqT_le h3), q _ H (Same.refl H) (.int _)⟩
  · cases e
def gAll : List D → Option D | [.lst ds] => (asBls ds).map fun ns => .bl (ns.all id) | _ => none
theorem cs_all : CaS B (rAll B.K) gAll := by
  intro r O H xs ds d Q hd rp e q
  unfold gAll at e
  split at e
  · obtain ⟨ns, h1, h2⟩ := Option.map_eq_some_iff.mp e
    subst h2
    obtain ⟨v, rfl, rq⟩ := rp.one
    obtain ⟨a, vs, rfl, h3, h4⟩ := rq.inv_lst
    rw [asBls_some h1] at h4
    rw [h4.bls] at h3
    exact ⟨a, ns, rfl, SqL.of (hid_le _ _ h3), q _ H (Same.refl H) (.bl _)⟩
  · cases e
def gAny : List D → Option D | [.lst ds] => (asBls ds).map fun ns => .bl (ns.any id) | _ => none
theorem cs_any : CaS B (rAny B.K) gAny := by
  intro r O H xs ds d Q hd rp e q
  unfold gAny at e
  split at e
  · obtain ⟨ns, h1, h2⟩ := Option.map_eq_some_iff.mp e
    subst h2
    obtain ⟨v, rfl, rq⟩ := rp.one
    obtain ⟨a, vs, rfl, h3, h4⟩ := rq.inv_lst
    rw [asBls_some h1] at h4
    rw [h4.bls] at h3
    exact ⟨a, ns, rfl, SqL.of (hid_le _ _ h3), q _ H (Same.refl H) (.bl _)⟩
  · cases e
def maxL : List Int → Int | [] => 0 | n :: ns => ns.foldl max n
theorem foldl_max : ∀ (ns : List Int) (n : Int), ns.foldl max n ∈ n :: ns ∧ ∀ y ∈ n :: ns, y ≤ ns.foldl max n
  | [], n => ⟨by simp, by simp⟩
  | m :: ns, n => by
    have ⟨h1, h2⟩ := foldl_max ns (max n m)
    show ns.foldl max (max n m) ∈ _ ∧ ∀ y ∈ n :: m :: ns, y ≤ ns.foldl max (max n m)
    have h3 := h2 (max n m) (by simp)
    refine ⟨?_, fun y hy => ?_⟩
    · rcases List.mem_cons.mp h1 with e | e
      · rw [e]
        rcases Int.le_total n m with z | z
        · rw [Int.max_eq_right z]; simp
        · rw [Int.max_eq_left z]; simp
      · simp [e]
    · rcases List.mem_cons.mp hy with e | e
      · subst e; omega
      · rcases List.mem_cons.mp e with e | e
        · subst e; omega
        · exact h2 y (by simp [e])
theorem maxL_spec {ns : List Int} (h : ns ≠ []) : maxL ns ∈ ns ∧ ∀ y ∈ ns, y ≤ maxL ns := by
  cases ns with
  | nil => exact absurd rfl h
  | cons n ns => exact foldl_max ns n
def gMaxL : List D → Option D | [.lst ds] => (match asInts ds with | some (n :: ns) => some (.int (maxL (n :: ns))) | _ => none) | _ => none
theorem cs_maxL : CaS B (rMax B.K) gMaxL := by
  intro r O H xs ds d Q hd rp e q
  unfold gMaxL at e
  split at e
  · split at e
    · rename_i n ns h1
      cases e
      obtain ⟨v, rfl, rq⟩ := rp.one
      obtain ⟨a, vs, rfl, h3, h4⟩ := rq.inv_lst
      rw [asInts_some h1] at h4
      rw [h4.ints] at h3
      refine ⟨a, n :: ns, rfl, SqL.of (hid_le _ _ h3), by simp, fun m hm hy => ?_⟩
      have ⟨z1, z2⟩ := maxL_spec (ns := n :: ns) (by simp)
      have : m = maxL (n :: ns) := Int.le_antisymm (z2 m hm) (hy _ z1)
      subst this
      exact q _ H (Same.refl H) (.int _)
    · cases e
  · cases e
def gTuple : List D → Option D | [.lst ds] => some (.tup ds) | [.tup ds] => some (.tup ds) | _ => none
theorem cs_tuple : CaS B (fun xs H Q => ∃ p ys, xs = [.ref p] ∧ ((SqL B.K H p ys ∧ ∀ l, H l = none → Q (.ref l) (upd H l (.tup ys))) ∨ (SqT B.K H p ys ∧ Q (.ref p) H))) gTuple := by
  intro r O H xs ds d Q hd rp e q
  unfold gTuple at e
  split at e
  · cases e
    obtain ⟨v, rfl, rq⟩ := rp.one
    obtain ⟨a, vs, rfl, h3, h4⟩ := rq.inv_lst
    exact ⟨a, vs, rfl, .inl ⟨SqL.of (hid_le _ _ h3), fun p hp => q _ _ (same_new hp) (new_tup hp hd h4)⟩⟩
  · cases e
    obtain ⟨v, rfl, rq⟩ := rp.one
    obtain ⟨a, vs, rfl, h3, h4⟩ := rq.inv_tupA
    exact ⟨a, vs, rfl, .inr ⟨sqT_le h3.sq, q _ H (Same.refl H) (.tup h3 h4)⟩⟩
  · cases e
def gList : List D → Option D | [.lst ds] => some (.lst ds) | [.tup ds] => some (.lst ds) | _ => none
theorem cs_list : CaS B (fun xs H Q => ∃ p ys, xs = [.ref p] ∧ (SqL B.K H p ys ∨ SqT B.K H p ys) ∧ ∀ l, H l = none → Q (.ref l) (upd H l (.lst ys))) gList := by
  intro r O H xs ds d Q hd rp e q
  unfold gList at e
  split at e
  · cases e
    obtain ⟨v, rfl, rq⟩ := rp.one
    obtain ⟨a, vs, rfl, h3, h4⟩ := rq.inv_lst
    exact ⟨a, vs, rfl, .inl (SqL.of (hid_le _ _ h3)), fun p hp => q _ _ (same_new hp) (new_lst hp hd h4)⟩
  · cases e
    obtain ⟨v, rfl, rq⟩ := rp.one
    obtain ⟨a, vs, rfl, h3, h4⟩ := rq.inv_tup
    exact ⟨a, vs, rfl, .inr (sqT_le h3), fun p hp => q _ _ (same_new hp) (new_lst hp hd h4)⟩
  · cases e
/-! ### isinstance with a built-in type -/
def tyD : D → Option String
  | .non => some "NoneType" | .bl _ => some "bool" | .int _ => some "int" | .str _ => some "str" | .tup _ => some "tuple" | .lst _ => some "list" | .dic _ _ => some "dict" | _ => none
def gIsi (T : String) (d : D) : Option D := match tyD d with | some t => (kitB t T).map .bl | none => none
def cIsi (T : String) (f : En → M D) : En → M D := cUn (gIsi T) f
theorem rep_ty {r : Addr} {H : Hp} {v : V} {d : D} {t : String} (h : Rep B r H v d) (e : tyD d = some t) : TyX B.K H v (.type t) := by
  cases h with
  | non => cases e; exact .base .non
  | bl b => cases e; exact .base (.bl b)
  | int b => cases e; exact .base (.int b)
  | str b => cases e; exact .base (.str b)
  | tup h _ =>
    cases e
    rcases h.sq with (h | ⟨o, h⟩) | ⟨o, its, n, h1, h2, _⟩
    · exact .base (.tup h)
    · exact .fTuple h
    · exact .kTuple h1 h2
  | lst h _ => cases e; exact .base (.lst h)
  | dic h _ _ _ => cases e; exact .base (.dK h)
  | sal _ _ _ => cases e
  | row => cases e
  | obj _ => cases e
  | fn _ => cases e
  | dct _ _ _ _ => cases e
theorem rd_isi {W : List Nat} {E : Option XK} {ta : TE} {fa : En → M D} {T : String} (ha : RdE B W E ta fa) : RdE B W E (tCB (rIsi B.K) (tCons ta (tCons (tC (.ty T)) tNil))) (cIsi T fa) := by
  intro r sa H0 O0 O σ δ s H gd Q h
  refine ha gd _ (post_mono (post_bind h) (fun x s1 hx v H1 st ra rp => ?_) (fun _ _ z => z))
  obtain ⟨d, e, hd⟩ := post_lift hx
  unfold gIsi at e
  split at e
  · rename_i t ht
    obtain ⟨b, h1, h2⟩ := Option.map_eq_some_iff.mp e
    subst h2
    exact ⟨v, .ty T, .type t, .type T, b, rfl, .ty T, rep_ty (rp.mono hid_le) ht, kit_ty h1, hd _ H1 st ra (.bl b)⟩
  · cases e
/-! ### xs.index(x) -/
def gIndex : D → List D → Option D
  | .lst ds, [x] => if scal x && ds.all scal then (ds.findIdx? (eqS · x)).map fun (j : Nat) => .int (j : Int) else none
  | _, _ => none
def cMt (g : D → List D → Option D) (f : En → M D) (fr : En → M (List D)) : En → M D := fun δ s => (f δ s).bind fun d s1 => (fr δ s1).bind fun ds s2 => lift (g d ds) s2
theorem rd_index {W : List Nat} {E : Option XK} {ta : TE} {fa : En → M D} {tr : TA} {fr : En → M (List D)} (ha : RdE B W E ta fa) (hr : RdA B W E tr fr) (hl : ∀ δ s d s1, fa δ s = .ok d s1 → ∃ ds, d = .lst ds) :
    RdE B W E (tBM B.K "list" (rIndex B.K) ta tr) (cMt gIndex fa fr) := by
  intro r sa H0 O0 O σ δ s H gd Q h
  have h' := post_bind h
  have hl := hl δ s
  refine ha gd _ (?_ : (fa δ s).post _ _)
  cases q : fa δ s with
  | stuck => rw [q] at h'; exact h'
  | err e s' => rw [q] at h'; exact h'
  | ok x s1 =>
    rw [q] at h'
    obtain ⟨ds, rfl⟩ := hl x s1 q
    intro v H1 st ra rp
    obtain ⟨a, vs, rfl, h3, h4⟩ := rp.inv_lst
    refine ⟨.inl ⟨rfl, vs, SqL.of (hid_le _ _ h3)⟩, hr (gd.step st ra) _ (post_mono (post_bind h') (fun ys s2 hy w H2 st2 ra2 rp2 => ?_) (fun _ _ z => z.mono st))⟩
    obtain ⟨d, e, hd⟩ := post_lift hy
    have sm := st2.hid gd.rO
    unfold gIndex at e
    split at e
    · rename_i es y hz
      cases hz
      split at e
      · rename_i hf
        rw [Bool.and_eq_true] at hf
        obtain ⟨j, h5, h6⟩ := Option.map_eq_some_iff.mp e
        subst h6
        obtain ⟨y', rfl, ry⟩ := rp2.one
        have h4' := h4.mono sm
        obtain ⟨hj, hj1, hj2⟩ := List.findIdx?_eq_some_iff_getElem.mp h5
        obtain ⟨z, z1, z2⟩ := h4'.get j ds[j] (by simp [hj])
        refine ⟨a, vs, y', j, z, rfl, rfl, SqL.of (hid_le _ _ (sm _ _ h3)), by rw [← rep_flat ry]; exact hf.1, by rw [← reps_all h4']; exact hf.2, z1, by rw [rep_eqV z2 ry]; exact hj1, fun m z' hm hz' => ?_, hd _ H2 (st.trans st2) ra2 (.int _)⟩
        obtain ⟨dm, dm1, dm2⟩ := h4'.get' m z' hz'
        rw [rep_eqV dm2 ry]
        have hml : m < ds.length := by omega
        have e3 : ds[m] = dm := by
          have := List.getElem?_eq_getElem hml
          rw [this] at dm1; exact Option.some.inj dm1
        have := hj2 m hm
        rw [e3] at this
        simpa using this
      · cases e
    · cases e
end
end PV

namespace PV
open PySem L2
/-! ### for x in a list or a tuple -/
def iSeq (K : PySem.W.Frag) (tl : TE) : TI := fun σ H R => tl σ H fun x H1 => ∃ a, x = .ref a ∧ (((∃ xs, SqL K H1 a xs) ∧ R (Itl K a) H1) ∨ ((∃ xs, SqT K H1 a xs) ∧ R (Itt K a) H1))
theorem pi_seq {X : Cx} {tg l : Expr} {tl : TE} (hl : PE X l tl) : PI X tg l (iSeq X.K tl) := by
  refine ⟨fun pins s σ H R I h => ?_⟩
  refine thn (hl.run pins s σ H _ I h) fun v s1 ⟨x, H1, I1, r1, q1⟩ => ?_
  obtain ⟨a, e, q1⟩ := q1
  subst e
  cases r1
  rcases q1 with ⟨⟨xs, hq⟩, q⟩ | ⟨⟨xs, hq⟩, q⟩
  · obtain ⟨its, rv, p, hz⟩ := I1.list hq
    refine wpAny_pyIter_list p.isList ?_
    refine ⟨s1.heap.objs.size, [s1.heap.objs.size], _, _, H1, rfl, I1.kept (t' := s1.toks) fun b o e => Heap.get?_push_of_some _ e, turn_list a _, ⟨_, Heap.get?_push_size _ rfl, rfl, rfl⟩, fun b hb => ?_, q⟩
    have e : b = s1.heap.objs.size := by simpa using hb
    subst e
    exact I1.fpOk (Nat.le_refl _) (I1.hok.fresh (Nat.le_refl _))
  · obtain ⟨its, rv, p, hz⟩ := I1.tuple hq
    refine wpAny_pyIter_tuple (show s1.heap.IsTuple a its.toArray from p) ?_
    refine ⟨s1.heap.objs.size, [s1.heap.objs.size], _, _, H1, rfl, I1.kept (t' := s1.toks) fun b o e => Heap.get?_push_of_some _ e, turn_tuple a _, ⟨_, Heap.get?_push_size _ rfl, rfl, rfl⟩, fun b hb => ?_, q⟩
    have e : b = s1.heap.objs.size := by simpa using hb
    subst e
    exact I1.fpOk (Nat.le_refl _) (I1.hok.fresh (Nat.le_refl _))
section
variable {B : Bs} {W : List Nat} {E : Option XK}
theorem ri_seq {tl : TE} {f : En → M D} (ha : RdE B W E tl f) : RdI B W E (iSeq B.K tl) (cItU f) := by
  intro r sa H0 O0 O σ δ s H gd R h
  refine ha gd _ (post_mono (post_bind h) (fun x s1 hx v H1 st ra rp => ?_) (fun _ _ z => z))
  obtain ⟨ds, e, hd⟩ := post_lift hx
  cases x <;> simp [seqD] at e
  · subst e
    obtain ⟨a, vs, rfl, h1, h2⟩ := rp.inv_tup
    exact ⟨a, rfl, .inr ⟨⟨vs, sqT_le h1⟩, hd _ H1 st ra (wk_tup h1 h2)⟩⟩
  · subst e
    obtain ⟨a, vs, rfl, h1, h2⟩ := rp.inv_lst
    exact ⟨a, rfl, .inl ⟨⟨vs, SqL.of (hid_le _ _ h1)⟩, hd _ H1 st ra (wk_list h1 h2)⟩⟩
/-- a value that is a list -/
def cAsL (f : En → M D) : En → M D := fun δ s => (f δ s).bind fun d s1 => (lift (asLst d) s1).bind fun ds s2 => .ok (.lst ds) s2
theorem rd_asL {te : TE} {f : En → M D} (h : RdE B W E te f) : RdE B W E te (cAsL f) := by
  intro r sa H0 O0 O σ δ s H gd Q hp
  refine h gd _ (post_mono (post_bind hp) (fun x s1 hx v H1 st ra rp => ?_) (fun _ _ z => z))
  obtain ⟨ds, e, hd⟩ := post_lift (post_bind hx)
  cases asLst_some e
  exact hd v H1 st ra rp
theorem cAsL_lst {f : En → M D} {δ : En} {s s1 : S} {d : D} (h : cAsL f δ s = .ok d s1) : ∃ ds, d = .lst ds := by
  unfold cAsL at h
  cases e : f δ s with
  | stuck => rw [e] at h; cases h
  | err x y => rw [e] at h; cases h
  | ok x y =>
    rw [e] at h
    cases q : asLst x with
    | none => rw [bind_ok, q] at h; cases h
    | some ds => rw [bind_ok, q] at h; cases h; exact ⟨ds, rfl⟩
theorem rd_index' {ta : TE} {fa : En → M D} {tr : TA} {fr : En → M (List D)} (ha : RdE B W E ta fa) (hr : RdA B W E tr fr) : RdE B W E (tBM B.K "list" (rIndex B.K) ta tr) (cMt gIndex (cAsL fa) fr) :=
  rd_index (rd_asL ha) hr fun _ _ _ _ h => cAsL_lst h
end
end PV

namespace PV
open PySem L2
/-! ### the draws -/
def draw (s : S) (m : Int) : Int × S :=
  if 0 < s.rest then (s.rest % m, { s with rest := s.rest / m })
  else if s.ns.length < s.pos + 1 then
    let mx := (s.mix * 48271 + 11) % 2147483647
    (mx / 7 % m, { s with pos := s.pos + 1, mix := mx })
  else
    let c := s.ns.getD s.pos 0
    (c % m, { s with pos := s.pos + 1, mix := (s.mix * 48271 + c + 11) % 2147483647, rest := if 10 ^ 18 ≤ c then c / m else s.rest })
theorem draw_lt (s : S) {m : Int} (h : 0 < m) : 0 ≤ (draw s m).1 ∧ (draw s m).1 < m := by
  unfold draw
  split
  · exact ⟨Int.emod_nonneg _ (by omega), Int.emod_lt_of_pos _ h⟩
  · split
    · exact ⟨Int.emod_nonneg _ (by omega), Int.emod_lt_of_pos _ h⟩
    · exact ⟨Int.emod_nonneg _ (by omega), Int.emod_lt_of_pos _ h⟩
def drawF : List D → M D := fun ds s => match ds with
  | [.row, .int m] => if 0 < m ∧ m < 1073741824 then .ok (.int (draw s m).1) (draw s m).2 else .stuck
  | _ => .stuck
section
variable (K : PySem.W.Frag)
abbrev tk_ix (k : Int) : TE := tOp (rIxL K) (tVar 0) (tC (.int k))
abbrev tk_int (t : TE) : TE := tCB (fun xs H Q => (∃ i, xs = [.int i] ∧ Q (.int i) H) ∨ ∃ k, xs = [.bl k] ∧ Q (.int (if k then 1 else 0)) H) (tCons t tNil)
abbrev tk_mod (a b : TE) : TE := tOp (rI (fun _ j => 0 < j) fun i j => .int (i % j)) a b
abbrev tk_div (a b : TE) : TE := tOp (rI CDiv fun i j => .int (i / j)) a b
abbrev tk_add (a b : TE) : TE := tOp (rI0 fun i j => .int (i + j)) a b
abbrev tk_sub (a b : TE) : TE := tOp (rI0 fun i j => .int (i - j)) a b
abbrev tk_mul (a b : TE) : TE := tOp (rI CMul fun i j => .int (i * j)) a b
abbrev tk_put (k : Int) (t : TE) : TS := tAsg t (gSub (tVar 0) (tC (.int k)) rSetL)
abbrev tk_len (t : TE) : TE := tCB (fun xs H Q => ∃ p ys, xs = [.ref p] ∧ (SqL K H p ys ∨ SqT K H p ys) ∧ Q (.int ys.length) H) (tCons t tNil)
abbrev tk_pow : TE := tOp (rI CPow fun i j => .int (i ^ j.toNat)) (tC (.int 10)) (tC (.int 18))
def t_taken : TS :=
  tSeq (tIfS (tTest (tOp (rI0 fun i j => .bl (decide (j < i))) (tk_ix K 3) (tC (.int 0))))
    (tSeq (tAsg (tk_mod (tk_int (tk_ix K 3)) (tVar 1)) (gName 2)) (tSeq (tk_put 3 (tk_div (tk_ix K 3) (tVar 1))) (tRet (tVar 2)))) tNext)
  (tSeq (tk_put 1 (tk_add (tk_ix K 1) (tC (.int 1))))
  (tSeq (tIfS (tTest (tOp (rI0 fun i j => .bl (decide (j < i))) (tk_ix K 1) (tk_len K (tk_ix K 0))))
    (tSeq (tk_put 2 (tk_mod (tk_int (tk_add (tk_mul (tk_ix K 2) (tC (.int 48271))) (tC (.int 11)))) (tC (.int 2147483647)))) (tRet (tk_mod (tk_int (tk_div (tk_ix K 2) (tC (.int 7)))) (tVar 1)))) tNext)
  (tSeq (tAsg (tOp (rIxL K) (tk_ix K 0) (tk_sub (tk_ix K 1) (tC (.int 1)))) (gName 3))
  (tSeq (tk_put 2 (tk_mod (tk_int (tk_add (tk_add (tk_mul (tk_ix K 2) (tC (.int 48271))) (tVar 3)) (tC (.int 11)))) (tC (.int 2147483647))))
  (tSeq (tIfS (tTest (tOp (rI0 fun i j => .bl (decide (j ≤ i))) (tVar 3) tk_pow)) (tk_put 3 (tk_div (tVar 3) (tVar 1))) tNext)
  (tRet (tk_mod (tk_int (tVar 3)) (tVar 1))))))))
end
theorem ix4 {K : PySem.W.Frag} {H : Hp} {r : Addr} {a b c d : V} (h : H r = some (.lst [a, b, c, d])) : SqL K H r [a, b, c, d] := SqL.of h
theorem Scr.upd {K : PySem.W.Frag} {H : Hp} {sa r : Addr} {xs vs ws : List V} (h : Scr K H sa xs) (hr : H r = some (.lst vs)) : Scr K (upd H r (.lst ws)) sa xs :=
  h.elim (fun ⟨o, q⟩ => .inl ⟨o, by rw [upd_ne (ne_of q hr (fun z => nomatch z))]; exact q⟩) .inr
theorem Stp.row {r : Addr} {H H' : Hp} {o : HO} (h : Stp r H H') : Stp r H (upd H' r o) := fun a u na e => by rw [upd_ne na]; exact h a u na e
theorem taken_rd {B : Bs} {r sa : Addr} {H : Hp} {s : S} {m : Int} {D : Ends} {σ : St} (hσ : σ = [some (.ref r), some (.int m), none, none]) (h0 : 0 < m) (h1 : m < 1073741824) (ra : RowAt B r sa H s)
    (q : ∀ H', Stp r H H' → RowAt B r sa H' (draw s m).2 → D.rt (.int (draw s m).1) H') : t_taken B.K D σ H := by
  subst hσ
  obtain ⟨hr, hs⟩ := ra
  refine ⟨_, rfl, _, _, _, _, rfl, rfl, ix4 hr, rfl, _, _, rfl, rfl, _, rfl, ite2 (fun c1' => ?_) (fun c1' => ?_)⟩
  · have c1 : 0 < s.rest := of_decide_eq_true c1'
    have ed : draw s m = (s.rest % m, { s with rest := s.rest / m }) := by unfold draw; rw [if_pos c1]
    rw [ed] at q
    refine ⟨_, rfl, _, _, _, _, rfl, rfl, ix4 hr, rfl, .inl ⟨_, rfl, _, rfl, _, _, rfl, rfl, h0, ?_⟩⟩
    refine ⟨_, rfl, _, _, _, _, rfl, rfl, ix4 hr, rfl, _, rfl, _, _, rfl, rfl, ⟨h0, h1⟩, _, rfl, r, _, _, 3, rfl, rfl, hr, rfl, ?_⟩
    exact ⟨_, rfl, q _ (Stp.refl H).row ⟨upd_same, hs.upd hr⟩⟩
  · have c1 : ¬ 0 < s.rest := fun z => c1' (decide_eq_true z)
    refine ⟨_, rfl, _, _, _, _, rfl, rfl, ix4 hr, rfl, _, _, rfl, rfl, _, rfl, r, _, _, 1, rfl, rfl, hr, rfl, ?_⟩
    have hr1 : upd H r (.lst ([V.ref sa, .int (s.pos : Int), .int s.mix, .int s.rest].set 1 (.int ((s.pos : Int) + 1)))) r = some (.lst [.ref sa, .int ((s.pos : Int) + 1), .int s.mix, .int s.rest]) := upd_same
    have hs1 := hs.upd (ws := [V.ref sa, .int (s.pos : Int), .int s.mix, .int s.rest].set 1 (.int ((s.pos : Int) + 1))) hr
    have st1 : Stp r H (upd H r (.lst ([V.ref sa, .int (s.pos : Int), .int s.mix, .int s.rest].set 1 (.int ((s.pos : Int) + 1))))) := (Stp.refl H).row
    revert hr1 hs1 st1
    generalize upd H r (.lst ([V.ref sa, .int (s.pos : Int), .int s.mix, .int s.rest].set 1 (.int ((s.pos : Int) + 1)))) = H1
    intro hr1 hs1 st1
    refine ⟨_, rfl, _, _, _, _, rfl, rfl, ix4 hr1, rfl, _, rfl, _, _, _, _, rfl, rfl, ix4 hr1, rfl, _, _, rfl, .inl hs1.sq, _, _, rfl, rfl, _, rfl, ite2 (fun c2' => ?_) (fun c2' => ?_)⟩
    · have c2 : s.ns.length < s.pos + 1 := by
        have := of_decide_eq_true c2'
        rw [List.length_map] at this
        omega
      have ed : draw s m = ((s.mix * 48271 + 11) % 2147483647 / 7 % m, { s with pos := s.pos + 1, mix := (s.mix * 48271 + 11) % 2147483647 }) := by unfold draw; rw [if_neg c1, if_pos c2]
      rw [ed] at q
      refine ⟨_, rfl, _, _, _, _, rfl, rfl, ix4 hr1, rfl, _, _, rfl, rfl, .inr ⟨by decide, by decide⟩, _, _, rfl, rfl, .inl ⟨_, rfl, _, _, rfl, rfl, (show (0 : Int) < 2147483647 by decide), _, rfl, r, _, _, 2, rfl, rfl, hr1, rfl, ?_⟩⟩
      refine ⟨_, rfl, _, _, _, _, rfl, rfl, ix4 upd_same, rfl, _, _, rfl, rfl, ⟨by decide, by decide⟩, .inl ⟨_, rfl, _, rfl, _, _, rfl, rfl, h0, ?_⟩⟩
      exact q _ st1.row ⟨upd_same, hs1.upd hr1⟩
    · have c2 : ¬ s.ns.length < s.pos + 1 := fun z => c2' (decide_eq_true (by rw [List.length_map]; omega))
      have ed : draw s m = (s.ns.getD s.pos 0 % m, { s with pos := s.pos + 1, mix := (s.mix * 48271 + s.ns.getD s.pos 0 + 11) % 2147483647, rest := if 10 ^ 18 ≤ s.ns.getD s.pos 0 then s.ns.getD s.pos 0 / m else s.rest }) := by unfold draw; rw [if_neg c1, if_neg c2]
      rw [ed] at q
      have hp : s.pos < s.ns.length := by omega
      have hat : atI (s.ns.map V.int) ((s.pos : Int) + 1 - 1) = some (.int (s.ns.getD s.pos 0)) := by
        have : (s.pos : Int) + 1 - 1 = ((s.pos : Nat) : Int) := by omega
        rw [this]
        refine atI_nat ?_
        rw [List.getElem?_map, List.getElem?_eq_getElem hp, List.getD_eq_getElem?_getD, List.getElem?_eq_getElem hp]; rfl
      generalize s.ns.getD s.pos 0 = c at q hat
      refine ⟨_, rfl, _, _, _, _, rfl, rfl, ix4 hr1, rfl, _, rfl, _, _, _, _, rfl, rfl, ix4 hr1, rfl, _, _, rfl, rfl, _, _, _, _, rfl, rfl, hs1.sq, hat, ?_⟩
      refine ⟨_, rfl, _, _, _, _, rfl, rfl, ix4 hr1, rfl, _, _, rfl, rfl, .inr ⟨by decide, by decide⟩, _, rfl, _, _, rfl, rfl, _, _, rfl, rfl, .inl ⟨_, rfl, _, _, rfl, rfl, (show (0 : Int) < 2147483647 by decide), _, rfl, r, _, _, 2, rfl, rfl, hr1, rfl, ?_⟩⟩
      have hr2 : upd H1 r (.lst ([V.ref sa, .int ((s.pos : Int) + 1), .int s.mix, .int s.rest].set 2 (.int ((s.mix * 48271 + c + 11) % 2147483647)))) r = some (.lst [.ref sa, .int ((s.pos : Int) + 1), .int ((s.mix * 48271 + c + 11) % 2147483647), .int s.rest]) := upd_same
      have hs2 := hs1.upd (ws := [V.ref sa, .int ((s.pos : Int) + 1), .int s.mix, .int s.rest].set 2 (.int ((s.mix * 48271 + c + 11) % 2147483647))) hr1
      have st2 : Stp r H (upd H1 r (.lst ([V.ref sa, .int ((s.pos : Int) + 1), .int s.mix, .int s.rest].set 2 (.int ((s.mix * 48271 + c + 11) % 2147483647))))) := st1.row
      revert hr2 hs2 st2
      generalize upd H1 r (.lst ([V.ref sa, .int ((s.pos : Int) + 1), .int s.mix, .int s.rest].set 2 (.int ((s.mix * 48271 + c + 11) % 2147483647)))) = H2
      intro hr2 hs2 st2
      refine ⟨_, rfl, _, _, rfl, rfl, ⟨by decide, by decide, by decide⟩, _, _, rfl, rfl, _, rfl, ite2 (fun c3' => ?_) (fun c3' => ?_)⟩
      · have c3 : (10 : Int) ^ 18 ≤ c := of_decide_eq_true c3'
        rw [if_pos c3] at q
        refine ⟨_, rfl, _, rfl, _, _, rfl, rfl, ⟨h0, h1⟩, _, rfl, r, _, _, 3, rfl, rfl, hr2, rfl, ?_⟩
        refine ⟨_, rfl, .inl ⟨_, rfl, _, rfl, _, _, rfl, rfl, h0, ?_⟩⟩
        exact q _ st2.row ⟨upd_same, hs2.upd hr2⟩
      · have c3 : ¬ (10 : Int) ^ 18 ≤ c := fun z => c3' (decide_eq_true z)
        rw [if_neg c3] at q
        refine ⟨_, rfl, .inl ⟨_, rfl, _, rfl, _, _, rfl, rfl, h0, ?_⟩⟩
        exact q _ st2 ⟨hr2, hs2⟩
theorem taken_ok {B : Bs} {P : Program} {w : World} {mg : Str → Option Value} {base : Heap} {x qual : Str} {st : Stmt} {f : Addr} {fd : FuncData} {N : List Str} {ps : List Str} {k : Nat} (F : Fun B.K x qual st f fd) (Sc : FnScope N ps (defScope st)) (hN : N.length = 4) (hp : ps.length = 2)
    (hb : ∀ (cdv : Value) (A : Around) (outer : List Env) (s : Shared) (H : Hp) (E : XK), Room k (A.deeper (PyProof.Rows.envOfC qual (defScope st) s.heap.objs.size f cdv)) →
      PSs (cxOf CX0 P w B.K mg base N qual (defScope st) f cdv A outer s H E).nox (defBody st) (t_taken B.K)) : FnOk P w B.K mg base CX0 (k + 1) f fd ps (spD B 2 drawF) := by
  refine F.ok Sc (fun vs H Q E h => h.1.trans hp.symm) (fun cdv A outer s H vs Q E hr h => ⟨_, hb cdv A outer s H E hr, ?_⟩)
  obtain ⟨hl, r, sa, O, ds, s0, ra, hrO, hdom, rp, hq⟩ := h
  unfold drawF at hq
  split at hq
  · rename_i m
    obtain ⟨v, w', rfl, r1, r2⟩ := rp.two
    cases r1
    cases r2
    split at hq
    · rename_i hm
      exact taken_rd (by unfold L2.start; rw [hN]; rfl) hm.1 hm.2 ra fun H' st' ra' => hq _ H' st' ra' (.int _)
    · exact hq.elim
  · exact hq.elim
/-! ### the greatest common divisor, by recursion -/
theorem sh_int (i : Int) : SeqAt.shaped (.int i) = true := by simp [SeqAt.shaped, PyData.canLay0, PyData.depth]
theorem eqv_int (i j : Int) : PyData.eqv (.int i) (.int j) = (i == j) := by simp [PyData.eqv]
def egs : Nat → Int → Int → Option Int
  | 0, a, b => if b = 0 then some (if a < 0 then -a else a) else none
  | n + 1, a, b => if b = 0 then some (if a < 0 then -a else a) else if 0 < b then egs n b (a % b) else none
def gcdF (L : Nat) : List D → M D := fun ds s => match ds with
  | [.int a, .int b] => lift ((egs L a b).map D.int) s
  | _ => .stuck
def t_gcd (K : PySem.W.Frag) (tr : TE) : TS := tRet (tIf (tTest (tOp (rEqD K) (tVar 1) (tC (.int 0)))) (tCB (fun xs H Q => ∃ i, xs = [.int i] ∧ Q (.int (if i < 0 then -i else i)) H) (tCons (tVar 0) tNil)) tr)
def t_gcdR (B : Bs) (n : Nat) : TE := tCall (spD B 2 (gcdF n)) [] E0 (tCons (tVar 1) (tCons (tOp (rI (fun _ j => 0 < j) fun i j => .int (i % j)) (tVar 0) (tVar 1)) tNil))
theorem gcd_ok {B : Bs} {P : Program} {w : World} {mg : Str → Option Value} {base : Heap} {x qual : Str} {st : Stmt} {f : Addr} {fd : FuncData} {N ps : List Str} (F : Fun B.K x qual st f fd) (Sc : FnScope N ps (defScope st)) (hN : N.length = 2) (hp : ps.length = 2)
    (hb : ∀ (n : Nat) (t : TE) (cdv : Value) (A : Around) (outer : List Env) (s : Shared) (H : Hp) (E : XK), Room n (A.deeper (PyProof.Rows.envOfC qual (defScope st) s.heap.objs.size f cdv)) →
      (n = 0 ∧ t = (fun _ _ _ => False) ∨ ∃ k, n = k + 1 ∧ FnOk P w B.K mg base CX0 n f fd ps (spD B 2 (gcdF k)) ∧ t = t_gcdR B k) →
      PSs (cxOf CX0 P w B.K mg base N qual (defScope st) f cdv A outer s H E).nox (defBody st) (t_gcd B.K t)) : ∀ L, FnOk P w B.K mg base CX0 (L + 1) f fd ps (spD B 2 (gcdF L)) := by
  intro L
  induction L with
  | zero =>
    refine F.ok Sc (fun vs H Q E h => h.1.trans hp.symm) (fun cdv A outer s H vs Q E hr h => ⟨_, hb 0 _ cdv A outer s H E hr (.inl ⟨rfl, rfl⟩), ?_⟩)
    obtain ⟨hl, r, sa, O, ds, s0, ra, hrO, hdom, rp, hq⟩ := h
    unfold gcdF at hq
    split at hq
    · rename_i a b
      obtain ⟨v, w', rfl, r1, r2⟩ := rp.two
      cases r1; cases r2
      obtain ⟨d, e, hq⟩ := post_lift hq
      obtain ⟨g, e1, e2⟩ := Option.map_eq_some_iff.mp e
      subst e2
      unfold egs at e1
      split at e1
      · rename_i hb0
        subst hb0
        cases e1
        have hs : L2.start N [V.int a, V.int 0] = [some (.int a), some (.int 0)] := by unfold L2.start; rw [hN]; rfl
        rw [hs]
        refine ⟨_, rfl, _, _, .int 0, .int 0, sh_int 0, sh_int 0, true, by rw [eqv_int]; rfl, iteT ?_⟩
        exact ⟨_, rfl, a, rfl, hq _ H (Stp.refl H) ra (.int _)⟩
      · cases e1
    · exact hq.elim
  | succ L ih =>
    refine F.ok Sc (fun vs H Q E h => h.1.trans hp.symm) (fun cdv A outer s H vs Q E hr h => ⟨_, hb (L + 1) _ cdv A outer s H E hr (.inr ⟨L, rfl, ih, rfl⟩), ?_⟩)
    obtain ⟨hl, r, sa, O, ds, s0, ra, hrO, hdom, rp, hq⟩ := h
    unfold gcdF at hq
    split at hq
    · rename_i a b
      obtain ⟨v, w', rfl, r1, r2⟩ := rp.two
      cases r1; cases r2
      obtain ⟨d, e, hq⟩ := post_lift hq
      obtain ⟨g, e1, e2⟩ := Option.map_eq_some_iff.mp e
      subst e2
      have hs : L2.start N [V.int a, V.int b] = [some (.int a), some (.int b)] := by unfold L2.start; rw [hN]; rfl
      rw [hs]
      unfold egs at e1
      split at e1
      · rename_i hb0
        subst hb0
        cases e1
        refine ⟨_, rfl, _, _, .int 0, .int 0, sh_int 0, sh_int 0, true, by rw [eqv_int]; rfl, iteT ?_⟩
        exact ⟨_, rfl, a, rfl, hq _ H (Stp.refl H) ra (.int _)⟩
      · rename_i hb0
        split at e1
        · rename_i hb1
          refine ⟨_, rfl, _, _, .int b, .int 0, sh_int b, sh_int 0, false, by rw [eqv_int, beq_eq_false_iff_ne.mpr hb0], iteF ?_⟩
          · refine ⟨_, rfl, _, rfl, _, rfl, _, _, rfl, rfl, hb1, ?_⟩
            refine ⟨rfl, r, sa, O, [.int b, .int (a % b)], s0, ra, hrO, hdom, .cons (.int _) (.cons (.int _) .nil), ?_⟩
            show (lift ((egs L b (a % b)).map D.int) s0).post _ _
            rw [e1]
            exact hq
        · cases e1
    · exact hq.elim
/-! ### the law's own def -/
def lawEn (n : Nat) : En := none :: some .row :: List.replicate (n - 2) none
def spLaw (K : PySem.W.Frag) : Sp := fun vs H Q _ => ∃ (a : Addr) (ns : List Int), vs = [.ref a] ∧ SqL K H a (ns.map V.int) ∧ Only H ∧ ns.length ≤ 63 ∧ ∀ H', Q (.bl true) H'
theorem law_ok {B : Bs} {W : List Nat} {P : Program} {w : World} {mg : Str → Option Value} {base : Heap} {x qual : Str} {st : Stmt} {f : Addr} {fd : FuncData} {N ps : List Str} {k : Nat} {seed : Int} {body : En → M Fl} (F : Fun B.K x qual st f fd) (Sc : FnScope N ps (defScope st)) (hN : 2 ≤ N.length) (hps : ps.length = 1) (hW : 1 ∉ W)
    (hb : ∀ (cdv : Value) (A : Around) (outer : List Env) (s : Shared) (H : Hp) (E : XK), Room k (A.deeper (PyProof.Rows.envOfC qual (defScope st) s.heap.objs.size f cdv)) →
      ∃ t, PSs (cxOf CX0 P w B.K mg base N qual (defScope st) f cdv A outer s H E).nox (defBody st) (tSeq (tAsg (tLst (tCons (tVar 0) (tCons (tC (.int 0)) (tCons (tC (.int seed)) (tCons (tC (.int 0)) tNil))))) (gName 1)) t) ∧ RdS B W none t body)
    (hl : ∀ ns : List Int, ns.length ≤ 63 → ∃ s', body (lawEn N.length) ⟨ns, 0, seed, 0⟩ = .ok (.ret (.bl true)) s') : FnOk P w B.K mg base CX0 (k + 1) f fd ps (spLaw B.K) := by
  refine F.ok Sc (fun vs H Q E h => ?_) (fun cdv A outer s H vs Q E hr h => ?_)
  · obtain ⟨a, ns, rfl, _⟩ := h; exact hps.symm
  obtain ⟨t, hP, hR⟩ := hb cdv A outer s H E hr
  obtain ⟨a, ns, rfl, hS, hO, hn, q⟩ := h
  refine ⟨_, hP, ?_⟩
  have hst : L2.start N [V.ref a] = some (.ref a) :: none :: List.replicate (N.length - 2) none := by
    unfold L2.start
    obtain ⟨m, hm⟩ : ∃ m, N.length = m + 2 := ⟨N.length - 2, by omega⟩
    rw [hm]
    show some (V.ref a) :: ([] ++ List.replicate (m + 2 - 1) none) = _
    rw [show m + 2 - 1 = m + 1 by omega, show m + 2 - 2 = m by omega, List.replicate_succ]; rfl
  rw [hst]
  refine ⟨_, rfl, by show 4 ≤ sizeLine; decide, fun r hr0 => ?_⟩
  have scr : Scr B.K H a (ns.map V.int) := by
    rcases hS with (h | ⟨o, h⟩) | h
    · rcases hO a with z | ⟨o, xs, z⟩
      · rw [z] at h; cases h
      · rw [z] at h; cases h
    · exact .inl ⟨o, h⟩
    · exact .inr fun H' => .inr h
  have ra : RowAt B r a (upd H r (.lst [.ref a, .int 0, .int seed, .int 0])) ⟨ns, 0, seed, 0⟩ := by
    refine ⟨upd_same, scr.elim (fun ⟨o, e⟩ => .inl ⟨o, ?_⟩) .inr⟩
    rw [upd_ne (ne_of_none e hr0)]; exact e
  have gd : Gd B r a (upd H r (.lst [.ref a, .int 0, .int seed, .int 0])) [r] W [r] (some (.ref a) :: some (.ref r) :: List.replicate (N.length - 2) none) (lawEn N.length) ⟨ns, 0, seed, 0⟩ (upd H r (.lst [.ref a, .int 0, .int seed, .int 0])) := by
    have key : ∀ i d, (lawEn N.length)[i]? = some (some d) → i = 1 ∧ d = .row := fun i d e => by
      unfold lawEn at e
      match i, e with
      | 0, e => cases e
      | 1, e => cases e; exact ⟨rfl, rfl⟩
      | i + 2, e =>
        have e : (List.replicate (N.length - 2) (none : Option D))[i]? = some (some d) := e
        rw [List.getElem?_replicate] at e
        split at e <;> cases e
    refine ⟨by unfold lawEn; simp, ra, by simp, fun p hp => ?_, fun p hp => ?_, fun _ h => h, fun _ h => .inl h, Stp.refl _, fun i d hi e => ?_, fun i d hi e => ?_, fun i j p d e hi hj ne z1 z2 _ _ => ?_⟩
    · have : p = r := by simpa using hp
      rw [this, upd_same]; exact fun z => nomatch z
    · have : p = r := by simpa using hp
      rw [this, upd_same]; exact fun z => nomatch z
    · obtain ⟨rfl, rfl⟩ := key i d e
      exact ⟨_, rfl, .row⟩
    · obtain ⟨rfl, rfl⟩ := key i d e
      exact absurd hi hW
    · have h1 := (key i d z1).1
      have h2 := (key j e z2).1
      exact ne (h1.trans h2.symm)
  obtain ⟨s', e⟩ := hl ns hn
  refine hR gd _ ?_
  rw [e]
  exact fun v H' _ _ rp => by cases rp; exact q H'
def fuelI (i : Nat) : En → Nat := fun δ => match δ[i]?.join with | some (.int n) => n.natAbs + 1 | _ => 0
def fuelL (i : Nat) : En → Nat := fun δ => match δ[i]?.join with | some (.lst n) => n.length + 1 | _ => 0
end PV

namespace PV
open PySem L2
/-! ### reckoning with the plain functions -/
section
variable {δ : En} {s : S}
@[simp] theorem e_var (i : Nat) : cVar i δ s = lift (δ[i]?.join) s := rfl
@[simp] theorem e_c (d : D) : cC d δ s = .ok d s := rfl
@[simp] theorem e_op (g) (fa fb : En → M D) : cOp g fa fb δ s = (fa δ s).bind fun x s1 => (fb δ s1).bind fun y s2 => lift (g x y) s2 := rfl
@[simp] theorem e_un (g) (fa : En → M D) : cUn g fa δ s = (fa δ s).bind fun x s1 => lift (g x) s1 := rfl
@[simp] theorem e_nil : cNil δ s = .ok [] s := rfl
@[simp] theorem e_cons (fa : En → M D) (fr) : cCons fa fr δ s = (fa δ s).bind fun x s1 => (fr δ s1).bind fun xs s2 => .ok (x :: xs) s2 := rfl
@[simp] theorem e_b (g) (fr) : cB g fr δ s = (fr δ s).bind fun ds s1 => lift (g ds) s1 := rfl
@[simp] theorem e_tst (fa : En → M D) : cTst fa δ s = (fa δ s).bind fun d s1 => lift (asB d) s1 := rfl
@[simp] theorem e_and (fa fb : En → M Bool) : cAnd fa fb δ s = (fa δ s).bind fun b s1 => if b then fb δ s1 else .ok false s1 := rfl
@[simp] theorem e_or (fa fb : En → M Bool) : cOr fa fb δ s = (fa δ s).bind fun b s1 => if b then .ok true s1 else fb δ s1 := rfl
@[simp] theorem e_not (fa : En → M Bool) : cNot fa δ s = (fa δ s).bind fun b s1 => .ok (!b) s1 := rfl
@[simp] theorem e_andV (fa fb : En → M D) : cAndV fa fb δ s = (fa δ s).bind fun d s1 => (lift (asB d) s1).bind fun b s2 => if b then fb δ s2 else .ok (.bl false) s2 := rfl
@[simp] theorem e_orV (fa fb : En → M D) : cOrV fa fb δ s = (fa δ s).bind fun d s1 => (lift (asB d) s1).bind fun b s2 => if b then .ok (.bl true) s2 else fb δ s2 := rfl
@[simp] theorem e_notV (fa : En → M D) : cNotV fa δ s = (fa δ s).bind fun d s1 => (lift (asB d) s1).bind fun b s2 => .ok (.bl (!b)) s2 := rfl
@[simp] theorem e_if (c) (fa fb : En → M D) : cIf c fa fb δ s = (c δ s).bind fun b s1 => if b then fa δ s1 else fb δ s1 := rfl
@[simp] theorem e_tup (fa) : cTup fa δ s = (fa δ s).bind fun ds s1 => if ds.length ≤ 100000 then .ok (.tup ds) s1 else .stuck := rfl
@[simp] theorem e_lst (fa) : cLst fa δ s = (fa δ s).bind fun ds s1 => if ds.length ≤ 100000 then .ok (.lst ds) s1 else .stuck := rfl
@[simp] theorem e_lstL (fa) : cLstL fa δ s = (fa δ s).bind fun ds s1 => if ds.length ≤ 100000 then .ok ds s1 else .stuck := rfl
@[simp] theorem e_chain (g g') (fa fb fc : En → M D) : cChain g g' fa fb fc δ s = (fa δ s).bind fun x s1 => (fb δ s1).bind fun y s2 => (lift (g x y) s2).bind fun z s3 => (lift (asB z) s3).bind fun b s4 => if b then (fc δ s4).bind fun w s5 => lift (g' y w) s5 else .ok (.bl false) s4 := rfl
@[simp] theorem e_call (n F fr) : cCall n F fr δ s = (fr δ s).bind fun ds s1 => if ds.length = n then F ds s1 else .stuck := rfl
@[simp] theorem e_isi (T) (fa : En → M D) : cIsi T fa δ s = (fa δ s).bind fun x s1 => lift (gIsi T x) s1 := rfl
@[simp] theorem e_next : cNext δ s = .ok (.next δ) s := rfl
@[simp] theorem e_ret (f : En → M D) : cRet f δ s = (f δ s).bind fun d s1 => .ok (.ret d) s1 := rfl
@[simp] theorem e_do (f : En → M D) : cDo f δ s = (f δ s).bind fun _ s1 => .ok (.next δ) s1 := rfl
@[simp] theorem e_ite (c F G) : cIte c F G δ s = (c δ s).bind fun b s1 => if b then F δ s1 else G δ s1 := rfl
@[simp] theorem e_set (i) (f : En → M D) : cSet i f δ s = (f δ s).bind fun d s1 => .ok (.next (δ.set i (some d))) s1 := rfl
@[simp] theorem e_setL (i) (f : En → M (List D)) : cSetL i f δ s = (f δ s).bind fun d s1 => .ok (.next (δ.set i (some (.lst d)))) s1 := rfl
@[simp] theorem e_asg (f : En → M D) (tg) : cAsg f tg δ s = (f δ s).bind fun d s1 => (lift (tg d δ) s1).bind fun δ' s2 => .ok (.next δ') s2 := rfl
@[simp] theorem e_aug (i g) (f : En → M D) : cAug i g f δ s = (lift (δ[i]?.join.bind asI) s).bind fun x s0 => (f δ s0).bind fun d s1 => (lift (asI d) s1).bind fun y s2 => .ok (.next (δ.set i (some (.int (g x y))))) s2 := rfl
@[simp] theorem e_stuck : cStuck δ s = .stuck := rfl
@[simp] theorem e_for (src tg F) : cFor src tg F δ s = (src δ s).bind fun ds s1 => forL tg F ds δ s1 := rfl
@[simp] theorem e_while (fu c F) : cWhile fu c F δ s = whileN c F (fu δ) δ s := rfl
@[simp] theorem e_ofL (f : En → M (List D)) : cOfL f δ s = (f δ s).bind fun ds s1 => .ok (.lst ds) s1 := rfl
@[simp] theorem e_lc (vs src tg c) (f : En → M D) : cLc vs src tg c f δ s = (src δ s).bind fun ds s1 => if ds.length ≤ 100000 then (compL tg c f (wipeD δ vs) ds s1).bind fun ds s2 => .ok (.lst ds) s2 else .stuck := by
  unfold cLc cOfL cComp
  cases src δ s with
  | ok ds s1 => simp only [bind_ok]; split <;> rfl
  | stuck => rfl
  | err e s => rfl
@[simp] theorem e_comp (vs src tg c) (f : En → M D) : cComp vs src tg c f δ s = (src δ s).bind fun ds s1 => if ds.length ≤ 100000 then compL tg c f (wipeD δ vs) ds s1 else .stuck := rfl
@[simp] theorem e_yes : cYes δ s = .ok true s := rfl
@[simp] theorem e_itU (f : En → M D) : cItU f δ s = (f δ s).bind fun d s1 => lift (seqD d) s1 := rfl
@[simp] theorem e_itA (g f) : cItA g f δ s = (f δ s).bind fun ds s1 => lift (g ds) s1 := rfl
@[simp] theorem e_app (i) (f : En → M D) : cApp i f δ s = (lift (ownL δ i) s).bind fun ds s0 => (f δ s0).bind fun d s1 => if ds.length < 100000 then .ok (.next (δ.set i (some (.lst (ds ++ [d]))))) s1 else .stuck := rfl
@[simp] theorem e_no : cNo δ s = .ok none s := rfl
@[simp] theorem e_part (f : En → M D) : cPart f δ s = (f δ s).bind fun d s1 => (lift (asI d) s1).bind fun i s2 => .ok (some i) s2 := rfl
@[simp] theorem e_sl (f : En → M D) (fl fh) : cSl f fl fh δ s = (f δ s).bind fun d s1 => (fl δ s1).bind fun lo s2 => (fh δ s2).bind fun hi s3 => lift (gSl d lo hi) s3 := rfl
@[simp] theorem e_mt (g) (f : En → M D) (fr) : cMt g f fr δ s = (f δ s).bind fun d s1 => (fr δ s1).bind fun ds s2 => lift (g d ds) s2 := rfl
@[simp] theorem e_asL (f : En → M D) : cAsL f δ s = (f δ s).bind fun d s1 => (lift (asLst d) s1).bind fun ds s2 => .ok (.lst ds) s2 := rfl
@[simp] theorem e_scal (f : En → M D) : cScal f δ s = calmO scal (f δ s) := rfl
@[simp] theorem e_pk (f : En → M Bool) : cPk f δ s = calmO (fun _ => true) (f δ s) := rfl
@[simp] theorem calm_ok {α : Type} (p : α → Bool) (a : α) : calmO p (.ok a s) = if p a then .ok a s else .stuck := rfl
@[simp] theorem e_par (F) : cPar F δ s = (F δ δ s).bind fun δ' s1 => .ok (.next δ') s1 := rfl
@[simp] theorem e_pnil (δa : En) : pNil δ δa s = .ok δa s := rfl
@[simp] theorem e_pcons (W i f F) (δa : En) : pCons W i f F δ δa s = (f δ s).bind fun c s1 => (lift (putC W i c δa) s1).bind fun δb s2 => F δ δb s2 := rfl
@[simp] theorem e_cV (f : En → M D) : cV f δ s = (f δ s).bind fun d s1 => .ok (.v d) s1 := rfl
@[simp] theorem e_cN (f : En → M (List D)) : cN f δ s = (f δ s).bind fun d s1 => .ok (.n d) s1 := rfl
@[simp] theorem e_seq (F G) : cSeq F G δ s = (F δ s).bind fun fl s1 => match fl with | .next δ' => G δ' s1 | fl => .ok fl s1 := rfl
end
@[simp] theorem g_add (i j : Int) : gAdd (.int i) (.int j) = some (.int (i + j)) := rfl
theorem g_addL (x y : List D) (h : x.length + y.length ≤ 100000) : gAdd (.lst x) (.lst y) = some (.lst (x ++ y)) := by simp [gAdd, h]
theorem g_addT (x y : List D) (h : x.length + y.length ≤ 100000) : gAdd (.tup x) (.tup y) = some (.tup (x ++ y)) := by simp [gAdd, h]
@[simp] theorem g_dif (i j : Int) : gDif (.int i) (.int j) = some (.int (i - j)) := rfl
@[simp] theorem g_lt (i j : Int) : gLt (.int i) (.int j) = some (.bl (decide (i < j))) := rfl
@[simp] theorem g_le (i j : Int) : gLe (.int i) (.int j) = some (.bl (decide (i ≤ j))) := rfl
@[simp] theorem g_gt (i j : Int) : gGt (.int i) (.int j) = some (.bl (decide (j < i))) := rfl
@[simp] theorem g_ge (i j : Int) : gGe (.int i) (.int j) = some (.bl (decide (j ≤ i))) := rfl
@[simp] theorem g_neg (i : Int) : gNeg (.int i) = some (.int (-i)) := rfl
@[simp] theorem g_asB (b : Bool) : asB (.bl b) = some b := rfl
@[simp] theorem g_asI (i : Int) : asI (.int i) = some i := rfl
@[simp] theorem g_asLst (l : List D) : asLst (.lst l) = some l := rfl
@[simp] theorem g_seqL (l : List D) : seqD (.lst l) = some l := rfl
@[simp] theorem g_seqT (l : List D) : seqD (.tup l) = some l := rfl
@[simp] theorem g_lenL (l : List D) : gLen [.lst l] = some (.int l.length) := rfl
@[simp] theorem g_lenT (l : List D) : gLen [.tup l] = some (.int l.length) := rfl
@[simp] theorem g_abs (i : Int) : gAbs [.int i] = some (.int i.natAbs) := by
  show some (D.int (if i < 0 then -i else i)) = _
  congr 2; split <;> omega
@[simp] theorem g_int (i : Int) : gInt [.int i] = some (.int i) := rfl
@[simp] theorem g_min2 (i j : Int) : gMin2 [.int i, .int j] = some (.int (min i j)) := by
  show some (D.int (if j < i then j else i)) = _
  congr 2; split <;> omega
@[simp] theorem g_max2 (i j : Int) : gMax2 [.int i, .int j] = some (.int (max i j)) := by
  show some (D.int (if j > i then j else i)) = _
  congr 2; split <;> omega
@[simp] theorem g_sum (ns : List Int) : gSum [.lst (ns.map D.int)] = some (.int ns.sum) := by simp [gSum]
@[simp] theorem g_sumT (ns : List Int) : gSum [.tup (ns.map D.int)] = some (.int ns.sum) := by simp [gSum]
@[simp] theorem g_all (ns : List Bool) : gAll [.lst (ns.map D.bl)] = some (.bl (ns.all id)) := by simp [gAll]
@[simp] theorem g_any (ns : List Bool) : gAny [.lst (ns.map D.bl)] = some (.bl (ns.any id)) := by simp [gAny]
@[simp] theorem g_tupL (l : List D) : gTuple [.lst l] = some (.tup l) := rfl
@[simp] theorem g_tupT (l : List D) : gTuple [.tup l] = some (.tup l) := rfl
@[simp] theorem g_ixT (l : List D) (i : Int) : gIx (.tup l) (.int i) = atI l i := rfl
@[simp] theorem g_ixL (l : List D) (i : Int) : gIx (.lst l) (.int i) = atI l i := rfl
@[simp] theorem at_nat {α : Type} (l : List α) (n : Nat) : atI l (n : Int) = l[n]? := by
  unfold atI ixN
  rw [if_pos (by omega)]
  split
  · simp
  · rename_i h
    rw [List.getElem?_eq_none (by omega)]; rfl
@[simp] theorem at_0 {α : Type} (l : List α) : atI l 0 = l[0]? := at_nat l 0
@[simp] theorem at_1 {α : Type} (l : List α) : atI l 1 = l[1]? := at_nat l 1
@[simp] theorem at_2 {α : Type} (l : List α) : atI l 2 = l[2]? := at_nat l 2
@[simp] theorem at_3 {α : Type} (l : List α) : atI l 3 = l[3]? := at_nat l 3
theorem at_m1 {α : Type} (l : List α) : atI l (-1) = l.getLast? := by
  rcases List.eq_nil_or_concat l with h | ⟨m, a, h⟩
  · subst h; rfl
  · subst h; rw [List.concat_eq_append, atI_last]; simp
@[simp] theorem kB_ii : kitB "int" "int" = some true := by decide +kernel
@[simp] theorem kB_ib : kitB "int" "bool" = some false := by decide +kernel
@[simp] theorem kB_it : kitB "int" "tuple" = some false := by decide +kernel
@[simp] theorem kB_tt : kitB "tuple" "tuple" = some true := by decide +kernel
@[simp] theorem kB_tb : kitB "tuple" "bool" = some false := by decide +kernel
@[simp] theorem kB_ti : kitB "tuple" "int" = some false := by decide +kernel
@[simp] theorem gi_int (T : String) (i : Int) : gIsi T (.int i) = (kitB "int" T).map .bl := rfl
@[simp] theorem gi_tup (T : String) (i : List D) : gIsi T (.tup i) = (kitB "tuple" T).map .bl := rfl
@[simp] theorem tg_name (i : Nat) (d : D) (δ : En) : tgName i d δ = some (δ.set i (some d)) := rfl
@[simp] theorem tg_nil (δ : En) : tgNil [] δ = some δ := rfl
@[simp] theorem tg_cons (t u d ds) (δ : En) : tgCons t u (d :: ds) δ = (t d δ).bind fun δ' => u ds δ' := rfl
@[simp] theorem tg_tup (n t ds) (δ : En) : tgTup n t (.tup ds) δ = if ds.length = n then t ds δ else none := rfl
@[simp] theorem tg_lst (n t ds) (δ : En) : tgTup n t (.lst ds) δ = if ds.length = n then t ds δ else none := rfl
@[simp] theorem wp_nil (δ : En) : wipeD δ [] = δ := rfl
@[simp] theorem wp_cons (δ : En) (v vs) : wipeD δ (v :: vs) = (wipeD δ vs).set v none := rfl
@[simp] theorem pc_v (W : List Nat) (i : Nat) (d : D) (δ : En) : putC W i (.v d) δ = if i ∈ W then none else some (δ.set i (some d)) := rfl
@[simp] theorem pc_n (W : List Nat) (i : Nat) (d : List D) (δ : En) : putC W i (.n d) δ = if i ∈ W then some (δ.set i (some (.lst d))) else none := rfl
@[simp] theorem ed_ret (d : D) (s : S) : endD (.ret d) s = .ok d s := rfl
@[simp] theorem ed_next (d : En) (s : S) : endD (.next d) s = .ok .non s := rfl
@[simp] theorem isN_non (d : D) : gIsN d .non = some (.bl (isNonB d)) := rfl
@[simp] theorem notN_non (d : D) : gNotN d .non = some (.bl (!isNonB d)) := rfl
@[simp] theorem isNon1 : isNonB .non = true := rfl
@[simp] theorem isNon2 (l : List D) : isNonB (.tup l) = false := rfl
@[simp] theorem isNon3 (l : Int) : isNonB (.int l) = false := rfl
@[simp] theorem ow_eq (δ : En) (i : Nat) : ownL δ i = δ[i]?.join.bind asLst := rfl
/-! ### sizes -/
/-- of at most n bits -/
def Bd (n : Nat) (x : Int) : Prop := x.natAbs < 2 ^ n
theorem Bd.mono {n m : Nat} {x : Int} (h : Bd n x) (hm : n ≤ m) : Bd m x := Nat.lt_of_lt_of_le h (Nat.pow_le_pow_right (by decide) hm)
theorem Bd.mul {n m : Nat} {x y : Int} (h : Bd n x) (h' : Bd m y) : Bd (n + m) (x * y) := by
  unfold Bd at *
  rw [Int.natAbs_mul, Nat.pow_add]; exact Nat.mul_lt_mul'' h h'
theorem Bd.log {n : Nat} {x : Int} (h : Bd n x) : x.natAbs.log2 ≤ n := by
  cases e : x.natAbs with
  | zero => simp
  | succ k =>
    have h1 : x.natAbs < 2 ^ n := h
    have := (Nat.log2_lt (by omega : x.natAbs ≠ 0)).mpr h1
    rw [e] at this; omega
theorem g_mul {n m : Nat} {i j : Int} (h : Bd n i) (h' : Bd m j) (hz : n + m < 1000000) : gMul (.int i) (.int j) = some (.int (i * j)) := by
  show (if okMul i j then some (D.int (i * j)) else none) = _
  unfold okMul
  rw [if_pos (decide_eq_true (by have := h.log; have := h'.log; omega))]
theorem g_fdiv {m : Nat} {i j : Int} (h0 : 0 < j) (h' : Bd m j) (hz : m < 9000) : gFdiv (.int i) (.int j) = some (.int (i / j)) := by
  show (if okDiv i j then some (D.int (i / j)) else none) = _
  unfold okDiv
  rw [if_pos (decide_eq_true ⟨h0, by have := h'.log; omega⟩)]
theorem g_mod {i j : Int} (h0 : 0 < j) : gMod (.int i) (.int j) = some (.int (i % j)) := by
  show (if okMod i j then some (D.int (i % j)) else none) = _
  unfold okMod
  rw [if_pos (decide_eq_true h0)]
@[simp] theorem g_pow (i j : Nat) (h : decide (j ≤ 1000000 ∧ i < 2 ^ 64) = true := by decide) : gPow (.int i) (.int j) = some (.int ((i : Int) ^ j)) := by
  have h := of_decide_eq_true h
  show (if okPow i j then some (D.int ((i : Int) ^ (j : Int).toNat)) else none) = _
  unfold okPow
  rw [if_pos (decide_eq_true ⟨by omega, by omega, by omega⟩)]; simp
/-! ### walks -/
theorem run_eq {np n : Nat} {body : En → M Fl} {ds : List D} {s : S} (h : ds.length = np) : runD np n body ds s = (body (startD n ds) s).bind endD := by unfold runD; rw [if_pos h]
theorem comp_pure {α : Type} {tg c f δ} {enc : α → D} {p : α → Bool} {e : α → D} : ∀ {xs : List α} {s : S}, (∀ x ∈ xs, ∃ δ1, tg (enc x) δ = some δ1 ∧ (∀ s, c δ1 s = .ok (p x) s) ∧ (p x = true → ∀ s, f δ1 s = .ok (e x) s)) → compL tg c f δ (xs.map enc) s = .ok ((xs.filter p).map e) s
  | [], s, _ => rfl
  | x :: xs, s, h => by
    obtain ⟨δ1, h1, h2, h3⟩ := h x (by simp)
    have ih := comp_pure (xs := xs) (s := s) (fun y hy => h y (by simp [hy]))
    rw [List.map_cons, compL, h1, lift_some, bind_ok, h2, bind_ok]
    cases hp : p x with
    | true => rw [if_pos rfl, h3 hp, bind_ok, ih, bind_ok, List.filter_cons, if_pos hp]; rfl
    | false => rw [if_neg (by simp), ih, List.filter_cons, if_neg (by simp [hp])]
theorem comp_map {α : Type} {tg f δ} {enc : α → D} {e : α → D} {xs : List α} {s : S} (h : ∀ x ∈ xs, ∃ δ1, tg (enc x) δ = some δ1 ∧ ∀ s, f δ1 s = .ok (e x) s) : compL tg cYes f δ (xs.map enc) s = .ok (xs.map e) s := by
  rw [comp_pure (p := fun _ => true) (e := e) fun x hx => by
    obtain ⟨δ1, h1, h2⟩ := h x hx
    exact ⟨δ1, h1, fun _ => rfl, fun _ => h2⟩]
  rw [List.filter_eq_self.mpr (fun _ _ => rfl)]
theorem for_inv {α : Type} {tg F} {enc : α → D} {xs : List α} (I : List α → En → S → Prop) {δ : En} {s : S} (h0 : I [] δ s)
    (hs : ∀ pre x post δ s, xs = pre ++ x :: post → I pre δ s → ∃ δ1 δ2 s2, tg (enc x) δ = some δ1 ∧ F δ1 s = .ok (.next δ2) s2 ∧ I (pre ++ [x]) δ2 s2) : ∃ δ' s', forL tg F (xs.map enc) δ s = .ok (.next δ') s' ∧ I xs δ' s' := by
  have key : ∀ (post pre : List α) (δ : En) (s : S), xs = pre ++ post → I pre δ s → ∃ δ' s', forL tg F (post.map enc) δ s = .ok (.next δ') s' ∧ I xs δ' s' := by
    intro post
    induction post with
    | nil => intro pre δ s e h; rw [List.append_nil] at e; subst e; exact ⟨δ, s, rfl, h⟩
    | cons x post ih =>
      intro pre δ s e h
      obtain ⟨δ1, δ2, s2, h1, h2, h3⟩ := hs pre x post δ s e h
      obtain ⟨δ', s', h4, h5⟩ := ih (pre ++ [x]) δ2 s2 (by rw [e]; simp) h3
      refine ⟨δ', s', ?_, h5⟩
      rw [List.map_cons, forL, h1, lift_some, bind_ok, h2, bind_ok]; exact h4
  exact key xs [] δ s rfl h0
end PV

namespace PV
open PySem L2
/-! ### numbers: divisors, fractions -/
theorem gcd_em (a b : Int) : Int.gcd b (a % b) = Int.gcd a b := by
  conv => rhs; rw [← Int.mul_ediv_add_emod a b]
  rw [Int.gcd_mul_left_add_left, Int.gcd_comm]
theorem egs_spec : ∀ (k : Nat) (a b : Int), 0 ≤ b → b < 2 ^ k → egs (2 * k) a b = some (Int.gcd a b)
  | 0, a, b, h0, h1 => by
    have : b = 0 := by omega
    subst this
    show (if (0 : Int) = 0 then some (if a < 0 then -a else a) else none) = _
    rw [if_pos rfl, Int.gcd_zero_right]; congr 1; split <;> omega
  | k + 1, a, b, h0, h1 => by
    show egs (2 * k + 1 + 1) a b = _
    by_cases hb : b = 0
    · subst hb
      show (if (0 : Int) = 0 then some (if a < 0 then -a else a) else _) = _
      rw [if_pos rfl, Int.gcd_zero_right]; congr 1; split <;> omega
    · have hb0 : 0 < b := by omega
      show (if b = 0 then _ else if 0 < b then egs (2 * k + 1) b (a % b) else none) = _
      rw [if_neg hb, if_pos hb0]
      have e1 : Int.gcd a b = Int.gcd b (a % b) := (gcd_em a b).symm
      have r0 := Int.emod_nonneg a hb
      have r1 := Int.emod_lt_of_pos a hb0
      rw [e1]
      generalize a % b = c at *
      by_cases hc : c = 0
      · subst hc
        show (if (0 : Int) = 0 then some (if b < 0 then -b else b) else _) = _
        rw [if_pos rfl, Int.gcd_zero_right]; congr 1; split <;> omega
      · have hc0 : 0 < c := by omega
        show (if c = 0 then _ else if 0 < c then egs (2 * k) c (b % c) else none) = _
        rw [if_neg hc, if_pos hc0]
        have q0 := Int.emod_nonneg b hc
        have q1 := Int.emod_lt_of_pos b hc0
        have q2 : b % c < 2 ^ k := by
          have e := Int.mul_ediv_add_emod b c
          have d1 : 1 ≤ b / c := by
            have := Int.ediv_le_ediv hc0 (show c ≤ b by omega)
            rw [Int.ediv_self (by omega)] at this; exact this
          have : c * 1 ≤ c * (b / c) := Int.mul_le_mul_of_nonneg_left d1 (by omega)
          rw [Int.pow_succ] at h1
          omega
        rw [egs_spec k c (b % c) q0 q2]
        rw [gcd_em]
def frD (q : Rat) : D := .tup [.int q.num, .int q.den]
theorem q_num {a b : Int} (hb : 0 < b) : (Rat.divInt a b).num = a / Int.gcd a b := by
  rw [Rat.num_divInt, Int.sign_eq_one_of_pos hb, Int.one_mul, Int.gcd_comm]
theorem q_den {a b : Int} (hb : 0 < b) : ((Rat.divInt a b).den : Int) = b / Int.gcd a b := by
  rw [Rat.den_divInt, if_neg (by omega), Int.gcd_comm]
  rw [Int.natCast_ediv]; congr 1; omega
theorem q_lt {a b c d : Int} (hb : 0 < b) (hd : 0 < d) : Rat.divInt a b < Rat.divInt c d ↔ a * d < c * b := by
  rw [Rat.divInt_eq_div, Rat.divInt_eq_div]
  have hb' : (0 : Rat) < (b : Rat) := by exact_mod_cast hb
  have hd' : (0 : Rat) < (d : Rat) := by exact_mod_cast hd
  rw [Rat.lt_div_iff hd']
  have : ((a * d : Int) : Rat) < ((c * b : Int) : Rat) ↔ a * d < c * b := Rat.intCast_lt_intCast
  rw [← this, Rat.intCast_mul, Rat.intCast_mul]
  have e : (a : Rat) / b * d * b = a * d := by grind
  constructor
  · intro h
    have := Rat.mul_lt_mul_of_pos_right h hb'
    rwa [e] at this
  · intro h
    refine Rat.not_le.mp fun z => ?_
    have := Rat.mul_le_mul_of_nonneg_right z (Rat.le_of_lt hb')
    rw [e] at this
    exact Rat.not_le.mpr h this
theorem q_eq {a b c d : Int} (hb : 0 < b) (hd : 0 < d) : Rat.divInt a b = Rat.divInt c d ↔ a * d = c * b := Rat.divInt_eq_divInt_iff (by omega) (by omega)
theorem q_le {a b c d : Int} (hb : 0 < b) (hd : 0 < d) : Rat.divInt a b ≤ Rat.divInt c d ↔ a * d ≤ c * b := by
  rw [← Rat.not_lt, q_lt hd hb]; omega
theorem q_self (q : Rat) : Rat.divInt q.num q.den = q := Rat.num_divInt_den q
/-! ### == -/
mutual
/-- data of ints, None, tuples and lists, at most n deep -/
def Sm : Nat → D → Prop
  | _, .non => True
  | _, .int _ => True
  | n + 1, .tup ds => Sms n ds
  | n + 1, .lst ds => Sms n ds
  | _, _ => False
def Sms : Nat → List D → Prop
  | _, [] => True
  | n, d :: ds => Sm n d ∧ Sms n ds
end
theorem Sms_iff {n : Nat} : ∀ {ds : List D}, Sms n ds ↔ ∀ d ∈ ds, Sm n d
  | [] => by simp [Sms]
  | d :: ds => by simp [Sms, Sms_iff (ds := ds)]
mutual
theorem Sm.py : ∀ {n : Nat} {d : D}, Sm n d → ∃ p, toPy d = some p ∧ p.canLay0 = true ∧ p.depth ≤ n
  | _, .non, _ => ⟨.none, rfl, by simp [PyData.canLay0], by simp [PyData.depth]⟩
  | _, .int i, _ => ⟨.int i, rfl, by simp [PyData.canLay0], by simp [PyData.depth]⟩
  | n + 1, .tup ds, h => by
    obtain ⟨ps, h1, h2, h3⟩ := Sms.py (n := n) (ds := ds) (by simpa [Sm] using h)
    exact ⟨.tuple ps, by simp [toPy, h1], by simpa [PyData.canLay0] using h2, by simp [PyData.depth]; omega⟩
  | n + 1, .lst ds, h => by
    obtain ⟨ps, h1, h2, h3⟩ := Sms.py (n := n) (ds := ds) (by simpa [Sm] using h)
    exact ⟨.list ps, by simp [toPy, h1], by simpa [PyData.canLay0] using h2, by simp [PyData.depth]; omega⟩
  | 0, .tup _, h | 0, .lst _, h => by simp [Sm] at h
  | _, .bl _, h | _, .str _, h | _, .dic _ _, h | _, .sal _ _, h | _, .row, h | _, .obj _, h | _, .fn _, h | _, .dct _ _, h => by simp [Sm] at h
theorem Sms.py : ∀ {n : Nat} {ds : List D}, Sms n ds → ∃ ps, toPys ds = some ps ∧ PyData.canLayAll0 ps = true ∧ PyData.depthAll ps ≤ n
  | _, [], _ => ⟨[], rfl, by simp [PyData.canLayAll0], by simp [PyData.depthAll]⟩
  | n, d :: ds, h => by
    have h' : Sm n d ∧ Sms n ds := by simpa [Sms] using h
    obtain ⟨p, a1, a2, a3⟩ := Sm.py h'.1
    obtain ⟨ps, b1, b2, b3⟩ := Sms.py h'.2
    exact ⟨p :: ps, by simp [toPys, a1, b1], by simp [PyData.canLayAll0, a2, b2], by simp [PyData.depthAll]; omega⟩
end
mutual
theorem eqv_iff : ∀ {n m : Nat} {d e : D} {p q : PyData}, Sm n d → Sm m e → toPy d = some p → toPy e = some q → (PyData.eqv p q = true ↔ d = e)
  | n, m, .non, e, p, q, h1, h2, e1, e2 => by
    cases e with
    | non => cases e1; cases e2; simp [PyData.eqv]
    | int j => cases e1; cases e2; simp [PyData.eqv]
    | tup es => cases e1; simp [toPy] at e2; obtain ⟨ps, _, rfl⟩ := e2; simp [PyData.eqv]
    | lst es => cases e1; simp [toPy] at e2; obtain ⟨ps, _, rfl⟩ := e2; simp [PyData.eqv]
    | _ => simp [Sm] at h2
  | n, m, .int i, e, p, q, h1, h2, e1, e2 => by
    cases e with
    | non => cases e1; cases e2; simp [PyData.eqv]
    | int j => cases e1; cases e2; simp [PyData.eqv]
    | tup es => cases e1; simp [toPy] at e2; obtain ⟨ps, _, rfl⟩ := e2; simp [PyData.eqv]
    | lst es => cases e1; simp [toPy] at e2; obtain ⟨ps, _, rfl⟩ := e2; simp [PyData.eqv]
    | _ => simp [Sm] at h2
  | n, m, .tup ds, e, p, q, h1, h2, e1, e2 => by
    simp [toPy] at e1
    obtain ⟨ps, p1, rfl⟩ := e1
    cases e with
    | non => cases e2; simp [PyData.eqv]
    | int j => cases e2; simp [PyData.eqv]
    | tup es =>
      simp [toPy] at e2; obtain ⟨qs, q1, rfl⟩ := e2
      cases n with
      | zero => simp [Sm] at h1
      | succ n =>
        cases m with
        | zero => simp [Sm] at h2
        | succ m =>
          rw [show PyData.eqv (.tuple ps) (.tuple qs) = PyData.eqvAll ps qs by simp [PyData.eqv]]
          rw [eqvs_iff (n := n) (m := m) (by simpa [Sm] using h1) (by simpa [Sm] using h2) p1 q1]
          simp
    | lst es => simp [toPy] at e2; obtain ⟨qs, _, rfl⟩ := e2; simp [PyData.eqv]
    | _ => simp [Sm] at h2
  | n, m, .lst ds, e, p, q, h1, h2, e1, e2 => by
    simp [toPy] at e1
    obtain ⟨ps, p1, rfl⟩ := e1
    cases e with
    | non => cases e2; simp [PyData.eqv]
    | int j => cases e2; simp [PyData.eqv]
    | lst es =>
      simp [toPy] at e2; obtain ⟨qs, q1, rfl⟩ := e2
      cases n with
      | zero => simp [Sm] at h1
      | succ n =>
        cases m with
        | zero => simp [Sm] at h2
        | succ m =>
          rw [show PyData.eqv (.list ps) (.list qs) = PyData.eqvAll ps qs by simp [PyData.eqv]]
          rw [eqvs_iff (n := n) (m := m) (by simpa [Sm] using h1) (by simpa [Sm] using h2) p1 q1]
          simp
    | tup es => simp [toPy] at e2; obtain ⟨qs, _, rfl⟩ := e2; simp [PyData.eqv]
    | _ => simp [Sm] at h2
  | _, _, .bl _, _, _, _, h, _, _, _ | _, _, .str _, _, _, _, h, _, _, _ | _, _, .dic _ _, _, _, _, h, _, _, _ | _, _, .sal _ _, _, _, _, h, _, _, _ | _, _, .row, _, _, _, h, _, _, _ | _, _, .obj _, _, _, _, h, _, _, _ | _, _, .fn _, _, _, _, h, _, _, _ | _, _, .dct _ _, _, _, _, h, _, _, _ => by simp [Sm] at h
theorem eqvs_iff : ∀ {n m : Nat} {ds es : List D} {ps qs : List PyData}, Sms n ds → Sms m es → toPys ds = some ps → toPys es = some qs → (PyData.eqvAll ps qs = true ↔ ds = es)
  | n, m, [], [], ps, qs, _, _, e1, e2 => by cases e1; cases e2; simp [PyData.eqvAll]
  | n, m, [], e :: es, ps, qs, _, h2, e1, e2 => by
    cases e1
    cases qs with
    | nil => simp [toPys] at e2; split at e2 <;> simp at e2
    | cons a b => simp [PyData.eqvAll]
  | n, m, d :: ds, [], ps, qs, h1, _, e1, e2 => by
    cases e2
    cases ps with
    | nil => simp [toPys] at e1; split at e1 <;> simp at e1
    | cons a b => simp [PyData.eqvAll]
  | n, m, d :: ds, e :: es, ps, qs, h1, h2, e1, e2 => by
    have h1' : Sm n d ∧ Sms n ds := by simpa [Sms] using h1
    have h2' : Sm m e ∧ Sms m es := by simpa [Sms] using h2
    obtain ⟨p, a1, _⟩ := Sm.py h1'.1
    obtain ⟨ps', a2, _⟩ := Sms.py h1'.2
    obtain ⟨q, b1, _⟩ := Sm.py h2'.1
    obtain ⟨qs', b2, _⟩ := Sms.py h2'.2
    simp [toPys, a1, a2] at e1
    simp [toPys, b1, b2] at e2
    subst e1 e2
    simp only [PyData.eqvAll, Bool.and_eq_true]
    rw [eqv_iff h1'.1 h2'.1 a1 b1, eqvs_iff h1'.2 h2'.2 a2 b2]
    simp
end
open Classical in
theorem eq_sm {d e : D} (h1 : Sm 60 d) (h2 : Sm 60 e) : eqD d e = some (decide (d = e)) := by
  obtain ⟨p, a1, a2, a3⟩ := h1.py
  obtain ⟨q, b1, b2, b3⟩ := h2.py
  have s1 : SeqAt.shaped p = true := by unfold SeqAt.shaped; rw [a2]; simp; omega
  have s2 : SeqAt.shaped q = true := by unfold SeqAt.shaped; rw [b2]; simp; omega
  have e1 : pyOk d = some p := by unfold pyOk; rw [a1]; simp [s1]
  have e2 : pyOk e = some q := by unfold pyOk; rw [b1]; simp [s2]
  unfold eqD
  rw [e1, e2]
  have := eqv_iff h1 h2 a1 b1
  simp only [Option.some.injEq]
  by_cases z : d = e
  · rw [this.mpr z]; simp [z]
  · have : PyData.eqv p q ≠ true := fun w => z (this.mp w)
    simp [z, this]
open Classical in
theorem gEq_sm {d e : D} (h1 : Sm 60 d) (h2 : Sm 60 e) : gEq d e = some (.bl (decide (d = e))) := by unfold gEq; rw [eq_sm h1 h2]; rfl
open Classical in
theorem gNe_sm {d e : D} (h1 : Sm 60 d) (h2 : Sm 60 e) : gNe d e = some (.bl (!decide (d = e))) := by unfold gNe; rw [eq_sm h1 h2]; rfl
@[simp] theorem g_eqI (i j : Int) : gEq (.int i) (.int j) = some (.bl (decide (i = j))) := by
  rw [gEq_sm (by simp [Sm]) (by simp [Sm])]; simp
@[simp] theorem g_neI (i j : Int) : gNe (.int i) (.int j) = some (.bl (!decide (i = j))) := by
  rw [gNe_sm (by simp [Sm]) (by simp [Sm])]; simp
theorem map_int_inj {xs ys : List Int} (h : xs.map D.int = ys.map D.int) : xs = ys := by
  induction xs generalizing ys with
  | nil => cases ys with | nil => rfl | cons => cases h
  | cons x xs ih => cases ys with
    | nil => cases h
    | cons y ys => simp at h; obtain ⟨h1, h2⟩ := h; rw [h1, ih (by simpa using h2)]
theorem sms_ints (n : Nat) (xs : List Int) : Sms n (xs.map D.int) := Sms_iff.mpr fun d hd => by
  obtain ⟨i, _, rfl⟩ := List.mem_map.mp hd
  simp [Sm]
theorem g_neIs (xs ys : List Int) : gNe (.lst (xs.map D.int)) (.lst (ys.map D.int)) = some (.bl (!decide (xs = ys))) := by
  rw [gNe_sm (by simpa [Sm] using sms_ints 59 xs) (by simpa [Sm] using sms_ints 59 ys)]
  congr 2
  by_cases h : xs = ys
  · simp [h]
  · have : ¬ xs.map D.int = ys.map D.int := fun z => h (map_int_inj z)
    simp [h, this]
theorem egs_more {a b : Int} {g : Int} : ∀ {k L : Nat}, k ≤ L → egs k a b = some g → egs L a b = some g := by
  intro k
  induction k generalizing a b with
  | zero =>
    intro L _ h
    unfold egs at h
    split at h
    · rename_i hb
      cases L with
      | zero => unfold egs; rw [if_pos hb]; exact h
      | succ L => unfold egs; rw [if_pos hb]; exact h
    · cases h
  | succ k ih =>
    intro L hL h
    obtain ⟨L, rfl⟩ : ∃ m, L = m + 1 := ⟨L - 1, by omega⟩
    unfold egs at h ⊢
    split at h
    · rename_i hb; rw [if_pos hb]; exact h
    · rename_i hb
      rw [if_neg hb]
      split at h
      · rename_i hb1; rw [if_pos hb1]; exact ih (by omega) h
      · cases h
theorem law_gcd_is {L k : Nat} {a b : Int} (s : S) (h0 : 0 ≤ b) (h1 : b < 2 ^ k) (hL : 2 * k ≤ L) : gcdF L [.int a, .int b] s = .ok (.int (Int.gcd a b)) s := by
  show lift ((egs L a b).map D.int) s = _
  rw [egs_more hL (egs_spec k a b h0 h1)]; rfl
@[simp] theorem g_allM {α : Type} (xs : List α) (e : α → Bool) : gAll [.lst (xs.map fun x => .bl (e x))] = some (.bl (xs.all e)) := by
  have : (xs.map fun x => D.bl (e x)) = (xs.map e).map D.bl := by rw [List.map_map]; rfl
  rw [this, g_all]; simp
@[simp] theorem g_anyM {α : Type} (xs : List α) (e : α → Bool) : gAny [.lst (xs.map fun x => .bl (e x))] = some (.bl (xs.any e)) := by
  have : (xs.map fun x => D.bl (e x)) = (xs.map e).map D.bl := by rw [List.map_map]; rfl
  rw [this, g_any]; simp
@[simp] theorem g_sumM {α : Type} (xs : List α) (e : α → Int) : gSum [.lst (xs.map fun x => .int (e x))] = some (.int (xs.map e).sum) := by
  have : (xs.map fun x => D.int (e x)) = (xs.map e).map D.int := by rw [List.map_map]; rfl
  rw [this, g_sum]
theorem upto_map (lo : Int) (n : Nat) : upto lo n = (List.range n).map fun (i : Nat) => D.int (lo + (i : Int)) := rfl
theorem upto0 (n : Nat) : upto 0 n = (List.range n).map fun (i : Nat) => D.int (i : Int) := by rw [upto_map]; congr 1; funext i; simp
theorem g_r1 (n : Nat) (h : n ≤ 100000) : gR1 [.int (n : Int)] = some (upto 0 n) := by
  simp only [gR1]
  rw [if_pos ⟨by omega, by omega⟩, Int.toNat_natCast]
theorem g_r2 (a b : Int) (h : -100000 ≤ a ∧ a ≤ 100000 ∧ -100000 ≤ b ∧ b ≤ 100000) : gR2 [.int a, .int b] = some (upto a (b - a).toNat) := by
  simp only [gR2]
  rw [if_pos ⟨by omega, by omega, by omega, by omega⟩]
end PV

namespace PV
open PySem L2
/-! ### enumerate of a list or a tuple -/
section
open Sem (wp)
theorem enumNew {vv : Value} {oo : Obj} {HH : Heap → Prop} (BB : Begins vv oo HH) :
    Meets (Builtin.«enumerate.__new__» ⟨[.type "enumerate", vv], []⟩) (fun _ RR ss => HH ss.heap ∧
      RR (.ok (.ret (.ref (ss.heap.push oo).objs.size))) { ss with heap := (ss.heap.push oo).push { cls := .type "enumerate", data := .fields #[.none, .bool false, .ref ss.heap.objs.size, rawInt 0, .none, .none] } }) :=
  .of_wp fun pr ww AA RR ss hh => by
    obtain ⟨hp, gg, dd, tk, oz⟩ := ss
    obtain ⟨k1, hh⟩ := hh
    have sube := sub_enumerate
    have qq : ∀ {A' : Around} {E : Value → Shared → Prop} {Q : Value → Shared → Prop}, Q (.ref hp.objs.size) ⟨hp.push oo, gg, dd, tk, oz⟩ → wpAny (model pr ww) A' (pyIter vv) Q E ⟨hp, gg, dd, tk, oz⟩ := fun z => BB.iter pr ww _ _ ⟨hp, gg, dd, tk, oz⟩ _ k1 z
    wp_walk using qq
    refine wpAny_stack_any fun stk => wpAny_pure ?_
    split
    · rename_i cc _ _ _ _ _
      cases (cc == Value.type "enumerate") <;> (wp_walk using qq; exact ⟨_, rfl, hh⟩)
    · wp_walk using qq
      exact ⟨_, rfl, hh⟩
theorem enumCall {pr : Program} {ww : World} {AA : Around} {EE : Value → Shared → Prop} {ss : Shared} {vv : Value} {oo : Obj} {HH : Heap → Prop} {QQ : Value → Shared → Prop} (BB : Begins vv oo HH) (k1 : HH ss.heap)
    (hh : ∀ h', IsEnum h' (ss.heap.objs.size + 1) ss.heap.objs.size 0 .none → h'.get? ss.heap.objs.size = some oo → (∀ b o, ss.heap.get? b = some o → h'.get? b = some o) → QQ (.ref (ss.heap.objs.size + 1)) { ss with heap := h' }) :
    wpAny (model pr ww) AA (call (.type "enumerate") [vv]) QQ EE ss := by
  refine callType_new F.called_enumerate (by decide) (F.typeCall_enumerate_1 _) (F.newCall_enumerate_1 _) (fun ob => F.args_object_init_2 ob _) F.entry_enumerate_new (enumNew BB) ⟨k1, ?_⟩
  have z1 : (ss.heap.push oo).objs.size = ss.heap.objs.size + 1 := Heap.size_push ..
  show _ ∧ _
  rw [z1]
  have en : IsEnum ((ss.heap.push oo).push { cls := .type "enumerate", data := .fields #[.none, .bool false, .ref ss.heap.objs.size, rawInt 0, .none, .none] }) (ss.heap.objs.size + 1) ss.heap.objs.size 0 .none := by
    have g1 := Heap.get?_push_size (ss.heap.push oo) (o := { cls := .type "enumerate", data := .fields #[.none, .bool false, .ref ss.heap.objs.size, rawInt 0, .none, .none] }) rfl
    rw [z1] at g1
    exact g1
  exact ⟨⟨_, en, rfl⟩, hh _ en (Heap.get?_push_of_some _ (Heap.get?_push_size _ BB.free)) fun b o x => Heap.get?_push_of_some _ (Heap.get?_push_of_some _ x)⟩
end
/-- the tuple at a, each item in a new pair -/
def IteT (K : PySem.W.Frag) (a : Addr) (n : Nat) : It :=
  ⟨fun i H => i < n ∧ ∃ (xs : List V) (x : V), SqT K H a xs ∧ xs.length = n ∧ xs[i]? = some x, fun i H v H' => ∃ T x, v = .ref T ∧ H T = none ∧ H' = upd H T (.tup [.int (i : Nat), x]) ∧ ∀ xs, SqT K H a xs → xs[i]? = some x, fun i H => i = n ∧ ∃ xs : List V, SqT K H a xs ∧ xs.length = n⟩
theorem turn_enumT {P : Program} {w : World} {K : PySem.W.Frag} {elts : List Expr} {kk : Nat} {tpos : Pos} (a e it : Addr) (n : Nat) :
    Turn P w K (.Tuple elts kk tpos) (IteT K a n) [e, it] e (fun i h => (∃ old, IsEnum h e it ((i : Nat) : Int) old) ∧ h.IsTupleIter it a i ∧ e ≠ it) where
  mem := by simp
  obj := fun i h st b hb => by
    obtain ⟨⟨old, he⟩, ⟨o, ho, hc, hd⟩, _⟩ := st
    rcases (by simpa using hb : b = e ∨ b = it) with z | z
    · rw [z]; exact ⟨_, he, fun v q => nomatch q⟩
    · rw [z]; exact ⟨o, ho, fun v q => by rw [hd] at q; cases q⟩
  keep := fun i h h' st k => by
    obtain ⟨⟨old, he⟩, hi, hne⟩ := st
    exact ⟨⟨old, k e (by simp) _ he⟩, hi.at fun o q => k it (by simp) o q, hne⟩
  item := by
    intro X hP hw hK hc i pins s σ H E I hf st hg
    subst hP hw hK
    obtain ⟨⟨old, he⟩, hit, hne⟩ := st
    obtain ⟨hin, xs, x, hq, hxl, hx⟩ := hg
    obtain ⟨its, rv, p, hz⟩ := I.tuple hq
    obtain ⟨u, hu, ru⟩ := rv.get hx
    have hel : e < s.heap.objs.size := Heap.lt_size he
    have hil : it < s.heap.objs.size := by obtain ⟨_, q, _⟩ := hit; exact Heap.lt_size q
    have hne2 : a ≠ it := fun z => by
      obtain ⟨oo, o1, o2, _⟩ := hit
      obtain ⟨op, p1, p2, _⟩ := p
      rw [z, o1] at p1; cases p1
      rw [o2] at p2
      injection p2 with z2
      exact absurd z2 (by decide)
    have hea : e ≠ a := fun z => by
      obtain ⟨op, p1, p2, _⟩ := p
      rw [← z] at p1
      have he' : s.heap.get? e = some _ := he
      rw [he'] at p1; cases p1
      injection p2 with z2
      exact absurd z2 (by decide)
    have hsz : its.toArray.size = n := by rw [List.size_toArray, ← rv.length]; exact hxl
    have DD := Draws.tuple (prog := X.prog) (w := X.w) (A := X.A.in1) (by have := I.ok.hd hc; exact this) it a hne2 its.toArray
    refine wpAny_pyNext_enum_itemD DD he ⟨hit, p⟩ (by rw [hsz]; exact hin) hne (by simp [hne, hea]) fun y h' tk hy ho hst' hT hsz' hk => ?_
    have ey : y = u := by
      have h1 : its.toArray[i]? = some y := hy
      have h2 : its.toArray[i]? = some u := by simpa using hu
      exact Option.some.inj (h1.symm.trans h2)
    subst ey
    refine ⟨_, rfl, wpAny_letOwnedTupleGo_enum (s := { s with heap := h', toks := tk + 1 }) ho fun h'' he' sb => ?_⟩
    have hT2 : h''.get? s.heap.objs.size = some { cls := .type "tuple", data := .seq #[.int i tk, y] } := (sb.2 _ (Nat.ne_of_gt hel)).trans hT
    have new : ObjOk X.prog X.w (upd H s.heap.objs.size (.tup [.int (i : Nat), x])) h'' s.heap.objs.size (.tup [.int (i : Nat), x]) :=
      ⟨by show 2 ≤ sizeLine; decide, [.int i tk, y], .cons ⟨_, rfl⟩ (.cons ru .nil), ⟨_, hT2, rfl, _, rfl⟩⟩
    have I1 : Inv X pins σ (upd H s.heap.objs.size (.tup [.int (i : Nat), x])) { s with heap := h'', toks := tk + 1 } :=
      I.turnedNew (ch := [e, it]) (fun b ob hb q => (sb.2 b (fun z => hb (by simp [z]))).trans (hk b ob (fun z => hb (by simp [z])) (fun z => hb (by simp [z])) q)) hf (Nat.le_refl _) new
    refine ⟨.ref s.heap.objs.size, _, I1, rfl, ⟨_, x, rfl, I.hok.fresh (Nat.le_refl _), rfl, fun ys hy => by rw [I.tuple_inj hy hq]; exact hx⟩, ⟨⟨y, ?_⟩, hst'.1.at fun o q => (sb.2 it (Ne.symm hne)).trans q, hne⟩, fun b hb => ?_⟩
    · rw [show ((i + 1 : Nat) : Int) = (i : Int) + 1 by omega]; exact he'
    · have hb' : b < s.heap.objs.size := by
        rcases (by simpa using hb : b = e ∨ b = it) with z | z
        · rw [z]; exact hel
        · rw [z]; exact hil
      rw [upd_ne (Nat.ne_of_lt hb')]
      exact (hf b hb).1
  done := by
    intro X hP hw hK hc i pins s σ H E I hf st hg
    subst hP hw hK
    obtain ⟨⟨old, he⟩, hit, hne⟩ := st
    obtain ⟨hin, xs, hq, hxl⟩ := hg
    obtain ⟨its, rv, p, hz⟩ := I.tuple hq
    obtain ⟨f0, f1, f2, f3, f4, f5⟩ := hf it (by simp)
    have hne2 : a ≠ it := fun z => by
      obtain ⟨oo, o1, o2, _⟩ := hit
      obtain ⟨op, p1, p2, _⟩ := p
      rw [z, o1] at p1; cases p1
      rw [o2] at p2
      injection p2 with z2
      exact absurd z2 (by decide)
    have hsz : its.toArray.size = i := by rw [List.size_toArray, ← rv.length, hin]; exact hxl
    have DD := Draws.tuple (prog := X.prog) (w := X.w) (A := X.A.in1) (by have := I.ok.hd hc; exact this) it a hne2 its.toArray
    exact wpAny_pyNext_enum_endD DD he ⟨by rw [hsz]; exact hit, p⟩ fun h' eb => ⟨rfl, I.turned (t' := s.toks) (fun b o hb q => eb b o hb q) f0 f1 f3 f4 f5⟩
  self := fun A i s Q E st h => by
    obtain ⟨⟨_, he⟩, _⟩ := st
    exact wpAny_pyIter_enum he h
def iEnumU (K : PySem.W.Frag) (te : TE) : TI := fun σ H R => te σ H fun v H1 => ∃ (a : Addr) (xs : List V), v = .ref a ∧ ((SqL K H1 a xs ∧ R (Ite K a) H1) ∨ (SqT K H1 a xs ∧ R (IteT K a xs.length) H1))
theorem pi_enumU {X : Cx} {e : Expr} {te : TE} {p pos tpos : Pos} {elts : List Expr} {kk : Nat} (hg : Gl X "enumerate") (hm : X.mg "enumerate" = none) (he : PE X e te) (hs : starEach [e] X.env = (false, eval e X.env) :: starEach [] X.env := by rfl) :
    PI X (.Tuple elts kk tpos) (.Call (.Name "enumerate" p) [e] [] pos) (iEnumU X.K te) := by
  refine ⟨fun pins s σ H R I h => ?_⟩
  refine PyProof.Rows.Call_ (ld_blt I hg hm PyProof.Rows.boot_enumerate (PyProof.Rows.callWith_type1 (PyProof.Rows.args_cons (thn (he.run pins s σ H _ I h) fun u s1 ⟨v, H1, I1, r1, q1⟩ => PyProof.Rows.args_nil ?_) hs) hs rfl))
  obtain ⟨a, xs, ev, q⟩ := q1
  subst ev
  obtain rfl : u = Value.ref a := r1
  have fin : ∀ {J : It} {tn : Nat → Heap → Prop} {h' : Heap}, (∀ b o, s1.heap.get? b = some o → h'.get? b = some o) → IsEnum h' (s1.heap.objs.size + 1) s1.heap.objs.size 0 .none → Turn X.prog X.w X.K (.Tuple elts kk tpos) J [s1.heap.objs.size + 1, s1.heap.objs.size] (s1.heap.objs.size + 1) tn → tn 0 h' → R J H1 →
      wpAny (model X.prog X.w) X.A (pyIter (.ref (s1.heap.objs.size + 1))) (PIE X pins σ (.Tuple elts kk tpos) R) X.xe { s1 with heap := h' } := fun {J tn h'} hk hen ht h0 hR => by
    refine wpAny_pyIter_enum hen ?_
    have I2 : Inv X pins σ H1 { s1 with heap := h' } := I1.kept (t' := s1.toks) hk
    refine ⟨s1.heap.objs.size + 1, [s1.heap.objs.size + 1, s1.heap.objs.size], tn, J, H1, rfl, I2, ht, h0, fun b hb => ?_, hR⟩
    have hle : s1.heap.objs.size ≤ b := by
      rcases (by simpa using hb : b = s1.heap.objs.size + 1 ∨ b = s1.heap.objs.size) with z | z
      · rw [z]; exact Nat.le_succ _
      · rw [z]; exact Nat.le_refl _
    exact I1.fpOk hle (I1.hok.fresh hle)
  rcases q with ⟨hq, q⟩ | ⟨hq, q⟩
  · obtain ⟨its, rv, p', hz⟩ := I1.list hq
    exact enumCall (begins_list a its.toArray) p'.isList fun h' hen ho hk => fin hk hen (turn_enum a _ _) ⟨⟨.none, hen⟩, ⟨_, ho, rfl, rfl⟩, Nat.succ_ne_self _⟩ q
  · obtain ⟨its, rv, p', hz⟩ := I1.tuple hq
    exact enumCall (begins_tuple a its.toArray) p' fun h' hen ho hk => fin hk hen (turn_enumT a _ _ xs.length) ⟨⟨.none, hen⟩, ⟨_, ho, rfl, rfl⟩, Nat.succ_ne_self _⟩ q
section
variable {B : Bs} {W : List Nat} {E : Option XK}
def enumD (ds : List D) : List D := (List.range ds.length).map fun (i : Nat) => D.tup [.int (i : Int), ds.getD i .non]
@[simp] theorem enumD_len (ds : List D) : (enumD ds).length = ds.length := by unfold enumD; simp
theorem enumD_get {ds : List D} {i : Nat} {d : D} (h : (enumD ds)[i]? = some d) : ∃ e, ds[i]? = some e ∧ d = .tup [.int (i : Int), e] := by
  unfold enumD at h
  rw [List.getElem?_map] at h
  obtain ⟨j, h1, h2⟩ := Option.map_eq_some_iff.mp h
  obtain ⟨h3, h4⟩ := List.getElem?_eq_some_iff.mp h1
  rw [List.length_range] at h3
  rw [List.getElem_range] at h4
  subst h4
  refine ⟨ds[i], List.getElem?_eq_getElem h3, ?_⟩
  rw [← h2, List.getD_eq_getElem?_getD, List.getElem?_eq_getElem h3]; rfl
def cItE (f : En → M D) : En → M (List D) := fun δ s => (f δ s).bind fun d s1 => (lift (seqD d) s1).bind fun ds s2 => .ok (enumD ds) s2
theorem new_pair {r : Addr} {O : List Addr} {H : Hp} {T : Addr} {x y : V} {d e : D} (hT : H T = none) (hd : ∀ p ∈ O, H p ≠ none) (h1 : Rep B r (hid H O) x d) (h2 : Rep B r (hid H O) y e) : Same H (upd H T (.tup [x, y])) ∧ Rep B r (hid (upd H T (.tup [x, y])) O) (.ref T) (.tup [d, e]) :=
  ⟨same_new hT, new_tup hT hd (.cons h1 (.cons h2 .nil))⟩
theorem ri_enum {te : TE} {f : En → M D} (ha : RdE B W E te f) : RdI B W E (iEnumU B.K te) (cItE f) := by
  intro r sa H0 O0 O σ δ s H gd R h
  refine ha gd _ (post_mono (post_bind h) (fun x s1 hx v H1 st ra rp => ?_) (fun _ _ z => z))
  obtain ⟨ds, e, hd⟩ := post_lift (post_bind hx)
  cases x <;> simp [seqD] at e
  · subst e
    obtain ⟨a, vs, rfl, h1, h2⟩ := rp.inv_tup
    refine ⟨a, vs, rfl, .inr ⟨sqT_le h1, hd _ H1 st ra fun O' H2 sm hdm => ?_⟩⟩
    have e2 : SqT B.K H2 a vs := sqT_le (same_t sm h1)
    have hl := h2.length
    refine ⟨fun i hi => ?_, ⟨by rw [enumD_len]; exact hl.symm, vs, e2, rfl⟩, fun i x H3 d hi hy => ?_⟩
    · rw [enumD_len] at hi
      exact ⟨by omega, vs, vs[i]'(by omega), e2, rfl, by simp [show i < vs.length by omega]⟩
    · obtain ⟨T, y, rfl, hT, rfl, hyv⟩ := hy
      obtain ⟨de, g1, rfl⟩ := enumD_get hi
      obtain ⟨w, w1, w2⟩ := h2.get i de g1
      cases (hyv vs e2).symm.trans w1
      exact new_pair hT hdm (.int _) (w2.mono sm)
  · subst e
    obtain ⟨a, vs, rfl, h1, h2⟩ := rp.inv_lst
    refine ⟨a, vs, rfl, .inl ⟨SqL.of (hid_le _ _ h1), hd _ H1 st ra fun O' H2 sm hdm => ?_⟩⟩
    have e2 : SqL B.K H2 a vs := SqL.of (hid_le _ _ (sm _ _ h1))
    have hl := h2.length
    refine ⟨fun i hi => ?_, ⟨vs, e2, by rw [enumD_len]; omega⟩, fun i x H3 d hi hy => ?_⟩
    · rw [enumD_len] at hi
      exact ⟨vs, vs[i]'(by omega), e2, by simp [show i < vs.length by omega]⟩
    · obtain ⟨T, y, rfl, hT, rfl, hyv⟩ := hy
      obtain ⟨de, g1, rfl⟩ := enumD_get hi
      obtain ⟨w, w1, w2⟩ := h2.get i de g1
      cases (hyv vs e2).symm.trans w1
      exact new_pair hT hdm (.int _) (w2.mono sm)
/-! ### reversed(x) -/
def cItR (f : En → M D) : En → M (List D) := fun δ s => (f δ s).bind fun d s1 => (lift (seqD d) s1).bind fun ds s2 => .ok ds.reverse s2
theorem rev_get {α : Type} {xs : List α} {i : Nat} {x : α} (h : xs.reverse[i]? = some x) : xs[xs.length - 1 - i]? = some x := by
  have hi : i < xs.length := by have := (List.getElem?_eq_some_iff.mp h).1; simpa using this
  rw [List.getElem?_reverse hi] at h; exact h
theorem ri_rev {te : TE} {f : En → M D} (ha : RdE B W E te f) : RdI B W E (RT.iRevA B.K te) (cItR f) := by
  intro r sa H0 O0 O σ δ s H gd R h
  refine ha gd _ (post_mono (post_bind h) (fun x s1 hx v H1 st ra rp => ?_) (fun _ _ z => z))
  obtain ⟨ds, e, hd⟩ := post_lift (post_bind hx)
  cases x <;> simp [seqD] at e
  · subst e
    obtain ⟨a, vs, rfl, h1, h2⟩ := rp.inv_tup
    refine ⟨a, vs, rfl, .inr ⟨sqT_le h1, hd _ H1 st ra fun O' H2 sm hdm => ?_⟩⟩
    have e2 : SqT B.K H2 a vs := sqT_le (same_t sm h1)
    have hl := h2.length
    refine ⟨fun i hi => ?_, by rw [List.length_reverse]; exact Nat.le_of_eq hl, fun i x H3 d hi hy => ?_⟩
    · rw [List.length_reverse] at hi
      exact ⟨by omega, vs, vs[vs.length - 1 - i]'(by omega), e2, by simp [show vs.length - 1 - i < vs.length by omega]⟩
    · obtain ⟨rfl, hyv⟩ := hy
      have g1 := rev_get hi
      rw [← hl] at g1
      obtain ⟨w, w1, w2⟩ := h2.get _ d g1
      cases (hyv vs e2).symm.trans w1
      exact ⟨Same.refl _, w2.mono sm⟩
  · subst e
    obtain ⟨a, vs, rfl, h1, h2⟩ := rp.inv_lst
    refine ⟨a, vs, rfl, .inl ⟨SqL.of (hid_le _ _ h1), hd _ H1 st ra fun O' H2 sm hdm => ?_⟩⟩
    have e2 : SqL B.K H2 a vs := SqL.of (hid_le _ _ (sm _ _ h1))
    have hl := h2.length
    refine ⟨fun i hi => ?_, by rw [List.length_reverse]; exact Nat.le_of_eq hl, fun i x H3 d hi hy => ?_⟩
    · rw [List.length_reverse] at hi
      exact ⟨by omega, vs, vs[vs.length - 1 - i]'(by omega), e2, by simp [show vs.length - 1 - i < vs.length by omega]⟩
    · obtain ⟨rfl, hyv⟩ := hy
      have g1 := rev_get hi
      rw [← hl] at g1
      obtain ⟨w, w1, w2⟩ := h2.get _ d g1
      cases (hyv vs e2).symm.trans w1
      exact ⟨Same.refl _, w2.mono sm⟩
end
end PV

namespace HT
open PySem PySem.Spec PySem.Calls PyProof.Rows
section
variable {prog : Program} {w : World} {A : Around} {E : Value → Shared → Prop} {s : Shared}
theorem applied_rev {sl : Addr} {vk : Value} {n : Nat} {R : Int × Int × Nat → Shared → Prop} (hS : s.heap.IsSliceOf sl .none .none vk) (pk : IsPart vk (some (-1))) (h : R ((n : Int) - 1, -1, n) s) :
    wpAny (model prog w) A (Builtin.Slice.sliceApplied (.ref sl) (pure (n : Int))) R E s := by
  obtain ⟨o, ho, hc, hd⟩ := id hS
  unfold Builtin.Slice.sliceApplied Builtin.Slice.sliceFields
  refine wpAny_bind (wpAny_bind (wpAny_field ho hd (x := .none) rfl (wpAny_bind (wpAny_field ho hd (x := .none) rfl (wpAny_bind (wpAny_field ho hd (x := vk) rfl (wpAny_pure ?_)))))))
  refine wpAny_bind (slicePart_ pk ?_)
  show wpAny _ _ (if ((-1 : Int) == 0) = true then _ else _) _ _ s
  rw [if_neg (by decide)]
  refine wpAny_bind (slicePart_none (wpAny_bind (slicePart_none (wpAny_bind (wpAny_pure ?_)))))
  show wpAny _ _ (pure ((n : Int) - 1, (-1 : Int), Builtin.Slice.slicePlaces ((n : Int) - 1) (-1) (-1))) _ _ s
  have e : Builtin.Slice.slicePlaces ((n : Int) - 1) (-1) (-1) = n := by
    unfold Builtin.Slice.slicePlaces
    rw [if_neg (by decide)]
    by_cases h : (n : Int) - 1 > -1
    · rw [if_pos h, show (- -1 : Int) = 1 by decide, Int.ediv_one]; omega
    · rw [if_neg h]; omega
  rw [e]
  exact wpAny_pure h
theorem pick_rev (xs : Array Value) : ((List.range xs.size).filterMap fun (k : Nat) => xs[(((xs.size : Nat) : Int) - 1 + (k : Int) * -1).toNat]?).toArray = xs.toList.reverse.toArray := by
  have e : (List.range xs.size).filterMap (fun (k : Nat) => xs[(((xs.size : Nat) : Int) - 1 + (k : Int) * -1).toNat]?) = ((List.range xs.size).map fun k => xs.size - 1 - k).filterMap (xs[·]?) := by
    rw [List.filterMap_map]
    congr 1
    funext k
    show _ = xs[xs.size - 1 - k]?
    congr 1
    omega
  rw [e, PySem.W.krv_range, List.filterMap_reverse, PySem.W.krv_all]
theorem tuple_rev {t sl : Addr} {its : Array Value} {vk : Value} {R : Value → Shared → Prop} (ht : IsTup s.heap t its) (hS : s.heap.IsSliceOf sl .none .none vk) (pk : IsPart vk (some (-1)))
    (h : R (.ref s.heap.objs.size) { s with heap := s.heap.push { cls := .type "tuple", data := .seq its.toList.reverse.toArray } }) (hz : its.size ≤ sizeLine) : wpAny (model prog w) A (getItem (.ref t) (.ref sl)) R E s := by
  have hk : sizeOk (.seq its.toList.reverse.toArray) := by
    show its.toList.reverse.toArray.size ≤ sizeLine
    rw [List.size_toArray, List.length_reverse, Array.length_toList]; exact hz
  obtain ⟨o, ho, hc, hd⟩ := id hS
  have hT : s.TypeIs (.ref sl) "slice" := ⟨o, ho, hc⟩
  unfold getItem
  try with_reducible refine wpAny_holding ?_
  first | refine wpAny_bind (wpAny_pure ?_) | skip
  refine wpAny_bind (wpAny_sequenceKey ht.typeIs (by decide) ?_)
  refine wpAny_bind (wpAny_callSpecial?_slot (name := Str.ofString "__getitem__") ht.typeIs PyProof.Rows.slot_tuple_getitem
    (wpAny_call_entry PyProof.Rows.slot_tuple_getitem ht.typeIs entry_tuple_getitem ?_ (args_tuple_getitem _ _)))
  show wpAny _ _ (Builtin.Tuple.tupleItemsOf (.ref t) >>= _) _ _ s
  refine wpAny_bind (tupleItemsOf_ ht (wpAny_bind (wpAny_typeOf hT ?_)))
  rw [if_pos (by decide)]
  refine wpAny_bind (applied_rev hS pk ?_)
  have no : ¬ ((((its.size : Nat) : Int) - 1 == 0 && (-1 : Int) == 1 && its.size == its.size) = true) := by
    intro q
    rw [Bool.and_eq_true, Bool.and_eq_true] at q
    exact absurd (eq_of_beq q.1.2) (by decide)
  show wpAny _ _ (if (((its.size : Nat) : Int) - 1 == 0 && (-1 : Int) == 1 && its.size == its.size) = true then _ else _) _ _ s
  rw [if_neg no, pick_rev]
  first
    | exact wpAny_bind (m := Builtin.Tuple.tupleExact _) (wpAny_newObj_type (wpAny_pure ⟨_, rfl, wpAny_pure h⟩) hk)
    | exact wpAny_bind (m := Builtin.Tuple.tupleExact _) (wpAny_newObj_type (wpAny_bind (wpAny_pure (wpAny_pure ⟨_, rfl, wpAny_pure h⟩))) hk)
    | exact wpAny_bind (wpAny_bind (m := Builtin.Tuple.tupleExact _) (wpAny_newObj_type (wpAny_pure (wpAny_pure ⟨_, rfl, wpAny_pure h⟩)) hk))
    | exact wpAny_bind (wpAny_bind (m := Builtin.Tuple.tupleExact _) (wpAny_newObj_type (wpAny_pure ⟨_, rfl, wpAny_pure h⟩) hk))
end
end HT
namespace PV
open PySem L2 PySem.Spec PyProof.Rows
/-! ### x[::-1] of a list or a tuple -/
def tRevU (K : PySem.W.Frag) (te : TE) : TE := fun σ H Q => te σ H fun x H1 => ∃ a xs, x = .ref a ∧ ((SqL K H1 a xs ∧ ∀ p, H1 p = none → Q (.ref p) (upd H1 p (.lst xs.reverse))) ∨ (SqT K H1 a xs ∧ ∀ p, H1 p = none → Q (.ref p) (upd H1 p (.tup xs.reverse))))
theorem pe_revU {X : Cx} {e : Expr} {te : TE} {k : Nat} {p1 p2 p3 pos : Pos} (he : PE X e te) : PE X (.Subscript e (.Slice none none (some (.UnaryOp .USub (.Constant (.int 1) k p1) p2)) p3) pos) (tRevU X.K te) := by
  refine ⟨fun pins s σ H Q I h => ?_⟩
  refine Subscript_ (thn (he.run pins s σ H _ I h) fun v sa ⟨x, Ha, Ia, ra, qa⟩ => ?_)
  obtain ⟨a, xs, ex, q⟩ := qa
  subst ex
  cases ra
  have part : PO X (some (.UnaryOp .USub (.Constant (.int 1) k p1) p2)) (tPart (tUn (rU fun i => .int (-i)) (tC (.int 1)))) := po_some (pe_un un_neg pe_int)
  refine wpAny_Slice (thn (po_none.run pins sa σ Ha (fun o J => o = none ∧ J = Ha) Ia ⟨rfl, rfl⟩) fun vl sb ⟨l, Hb, Ib, pl, el, eb⟩ => ?_)
  subst el eb
  refine thn (po_none.run pins sb σ Hb (fun o J => o = none ∧ J = Hb) Ib ⟨rfl, rfl⟩) fun vu sc ⟨u, Hc, Ic, pu, eu, ec⟩ => ?_
  subst eu ec
  refine thn (part.run pins sc σ Hc (fun o J => o = some (-1) ∧ J = Hc) Ic ⟨1, rfl, -1, rfl, rfl, rfl⟩) fun vk sd ⟨o, Hd, Id, pk, eo, ed⟩ => ?_
  subst eo ed
  have Ie : Inv X pins σ Hd { sd with heap := sd.heap.push { cls := .type "slice", data := .fields #[vl, vu, vk] } } := Id.kept (t' := sd.toks) fun b ob z => Heap.get?_push_of_some _ z
  show wpAny (model X.prog X.w) X.A (subscriptTail e (.Slice none none (some (.UnaryOp .USub (.Constant (.int 1) k p1) p2)) p3) (.ref a) (.ref sd.heap.objs.size)) (EP X pins σ Q) X.xe { sd with heap := sd.heap.push { cls := .type "slice", data := .fields #[vl, vu, vk] } }
  rcases q with ⟨hx, q⟩ | ⟨hx, q⟩
  · obtain ⟨its, r, ht, hz⟩ := Ie.list hx
    have hn := r.length
    refine tail_any (ops := [.ref a, .ref sd.heap.objs.size]) ht.isList.typeIs (PySem.slot_list_getitem.lookup) ?_ (by with_unfolding_all rfl)
    refine wpAny_getItem_list_slice ht.isList (Heap.IsSliceOf.new _ vl vu vk) pl pu pk (by decide) ?_ (by rw [List.size_toArray]; omega)
    rw [PySem.W.krv_pick]
    refine ⟨.ref _, _, Ie.laid (t' := sd.toks) (o := .lst xs.reverse) (fun b ob z => Heap.get?_push_of_some _ z) (Nat.le_refl _) ?_, rfl, q _ (Ie.hok.fresh (Nat.le_refl _))⟩
    exact ⟨by rw [List.length_reverse]; exact hz, _, 0, r.reverse, Heap.get?_push_size _ rfl⟩
  · obtain ⟨its, r, ht, hz⟩ := Ie.tuple hx
    have hn := r.length
    cases pl; cases pu
    refine tail_any (ops := [.ref a, .ref sd.heap.objs.size]) ht.typeIs (PyProof.Rows.slot_tuple_getitem.lookup) ?_ (by with_unfolding_all rfl)
    refine HT.tuple_rev ht (Heap.IsSliceOf.new _ .none .none vk) pk ?_ (by rw [List.size_toArray]; omega)
    refine ⟨.ref _, _, Ie.laid (t' := sd.toks) (o := .tup xs.reverse) (fun b ob z => Heap.get?_push_of_some _ z) (Nat.le_refl _) ?_, rfl, q _ (Ie.hok.fresh (Nat.le_refl _))⟩
    exact ⟨by rw [List.length_reverse]; exact hz, _, r.reverse, ⟨_, Heap.get?_push_size _ rfl, rfl, _, rfl⟩⟩
section
variable {B : Bs} {W : List Nat} {E : Option XK} {te : TE} {fa : En → M D}
def gRev : D → Option D | .tup ds => some (.tup ds.reverse) | .lst ds => some (.lst ds.reverse) | _ => none
theorem rd_rev (ha : RdE B W E te fa) : RdE B W E (tRevU B.K te) (cUn gRev fa) := by
  intro r sa H0 O0 O σ δ s H gd Q h
  refine ha gd _ (post_mono (post_bind h) (fun x s1 hx v H1 st ra rp => ?_) (fun _ _ z => z))
  obtain ⟨d, e, hd⟩ := post_lift hx
  cases x <;> simp [gRev] at e
  · subst e
    obtain ⟨a, vs, rfl, h1, h2⟩ := rp.inv_tup
    exact ⟨a, vs, rfl, .inr ⟨sqT_le h1, fun p hp => hd _ _ (st.trans (Stp.new hp)) (ra.new hp) (new_tup hp (gd.step st ra).dom h2.reverse)⟩⟩
  · subst e
    obtain ⟨a, vs, rfl, h1, h2⟩ := rp.inv_lst
    exact ⟨a, vs, rfl, .inl ⟨SqL.of (hid_le _ _ h1), fun p hp => hd _ _ (st.trans (Stp.new hp)) (ra.new hp) (new_lst hp (gd.step st ra).dom h2.reverse)⟩⟩
end
section
variable {δ : En} {s : S}
@[simp] theorem e_itE (f : En → M D) : cItE f δ s = (f δ s).bind fun d s1 => (lift (seqD d) s1).bind fun ds s2 => .ok (enumD ds) s2 := rfl
@[simp] theorem e_itR (f : En → M D) : cItR f δ s = (f δ s).bind fun d s1 => (lift (seqD d) s1).bind fun ds s2 => .ok ds.reverse s2 := rfl
@[simp] theorem g_revT (ds : List D) : gRev (.tup ds) = some (.tup ds.reverse) := rfl
@[simp] theorem g_revL (ds : List D) : gRev (.lst ds) = some (.lst ds.reverse) := rfl
end
end PV

namespace PV
open PySem L2
/-! ### comprehensions with two fors -/
def inL (tg : D → En → Option En) (c : En → M Bool) (f : En → M D) (δ : En) : List D → List D → M (List D)
  | [], acc, s => .ok acc s
  | d :: ds, acc, s => (lift (tg d δ) s).bind fun δ1 s1 => (c δ1 s1).bind fun b s2 => if b then (f δ1 s2).bind fun y s3 => if acc.length < 100000 then inL tg c f δ ds (acc ++ [y]) s3 else .stuck else inL tg c f δ ds acc s2
def freeW (W : List Nat) (δ : En) : Bool := W.all fun j => δ[j]?.join.isNone
@[simp] theorem freeW_nil (δ : En) : freeW [] δ = true := rfl
def outL (W : List Nat) (tg : D → En → Option En) (c : En → M Bool) (src1 : En → M (List D)) (tg1 : D → En → Option En) (c1 : En → M Bool) (f : En → M D) (vs1 : List Nat) (δ : En) : List D → List D → M (List D)
  | [], acc, s => .ok acc s
  | d :: ds, acc, s => (lift (tg d δ) s).bind fun δ1 s1 => if freeW W δ1 then (c δ1 s1).bind fun b s2 => if b then (src1 δ1 s2).bind fun es s3 => (inL tg1 c1 f (wipeD δ1 vs1) es acc s3).bind fun acc' s4 => outL W tg c src1 tg1 c1 f vs1 δ ds acc' s4 else outL W tg c src1 tg1 c1 f vs1 δ ds acc s2 else .stuck
def cComp2 (W vs : List Nat) (src : En → M (List D)) (tg : D → En → Option En) (c : En → M Bool) (src1 : En → M (List D)) (tg1 : D → En → Option En) (c1 : En → M Bool) (f : En → M D) (vs1 : List Nat) : En → M (List D) := fun δ s => (src δ s).bind fun ds s1 => if freeW W δ then outL W tg c src1 tg1 c1 f vs1 (wipeD δ vs) ds [] s1 else .stuck
theorem freeW_no {W : List Nat} {δ : En} (h : freeW W δ = true) {j : Nat} {d : D} (hj : j ∈ W) (e : δ[j]? = some (some d)) : False := by
  have := List.all_eq_true.mp h j hj
  rw [e] at this; cases this
section
variable {B : Bs} {W : List Nat} {E : Option XK}
/-- a list that no slot owns is written -/
theorem Gd.push {r sa : Addr} {H0 : Hp} {O0 O : List Addr} {σ : St} {δ : En} {s : S} {H : Hp} {p : Addr} {ws ws' : List V} (g : Gd B r sa H0 O0 W O σ δ s H) (hp : p ∈ O) (hp0 : p ∉ O0) (hv : H p = some (.lst ws)) (hn : freeW W δ = true) :
    Gd B r sa H0 O0 W O σ δ s (upd H p (.lst ws')) ∧ hid (upd H p (.lst ws')) O = hid H O := by
  have eh : hid (upd H p (.lst ws')) O = hid H O := hid_upd hp
  have npr : p ≠ r := fun z => hp0 (z ▸ g.r0)
  refine ⟨⟨g.len, ⟨by rw [upd_ne (Ne.symm npr)]; exact g.row.1, g.row.2.elim (fun ⟨o, q⟩ => .inl ⟨o, by rw [upd_ne (ne_of q hv (fun z => nomatch z))]; exact q⟩) .inr⟩, g.r0, fun q hq => ?_, g.dom0, g.sub, g.frsh, fun a o na ha => ?_, fun j d hj q => ?_, fun j d hj q => (freeW_no hn hj q).elim, g.inj⟩, eh⟩
  · by_cases z : q = p
    · rw [z, upd_same]; exact fun z => nomatch z
    · rw [upd_ne z]; exact g.dom q hq
  · have : a ≠ p := fun z => by
      subst z
      rcases g.frsh a hp with q | q
      · exact hp0 q
      · rw [q] at ha; cases ha
    rw [upd_ne this]; exact g.stp a o na ha
  · rw [eh]; exact g.val j d hj q
theorem rl_comp2 {wi wi1 : TI} {src src1 : En → M (List D)} {ts ts1 vs vs1 : List Nat} {g g1 : TG} {tg tg1 : D → En → Option En} {tt tt1 : TT} {c c1 : En → M Bool} {te : TE} {f : En → M D} (hi : RdI B W none wi src) (hg : RdG B W ts g tg) (ht : RdT B W none tt c) (hi1 : RdI B W none wi1 src1) (hg1 : RdG B W ts1 g1 tg1) (ht1 : RdT B W none tt1 c1) (he : RdE B W none te f)
    (hs : (ts.all fun i => decide (i ∈ vs)) = true := by rfl) (hs1 : (ts1.all fun i => decide (i ∈ vs1)) = true := by rfl) :
    RdL B W none (tLc2 wi g tt wi1 g1 tt1 te vs vs1) (cComp2 W vs src tg c src1 tg1 c1 f vs1) := by
  intro r sa H0 O0 O σ δ s H gd Q h
  refine hi gd _ (post_mono (post_bind h) (fun ds s1 hx J H1 st ra wk Dl hD => ?_) (fun _ _ z => z))
  have gd1 := gd.step st ra
  have nD : H Dl = none := by
    cases q : H Dl with
    | none => rfl
    | some u =>
      by_cases z : Dl = r
      · subst z; rw [ra.1] at hD; cases hD
      · rw [st Dl u z q] at hD; cases hD
  have ⟨nO, n0⟩ := gd1.fresh0 hD
  have nr : Dl ≠ r := fun z => nO (z ▸ gd.rO)
  obtain ⟨gd2, sm2⟩ := gd1.grow (p := Dl) (o := .lst []) (Stp.new hD) (ra.new hD) hD upd_same
  split at hx
  · rename_i hfree
    let R : List D → S → Prop := fun ys s' => ∀ p vs H', Stp r H H' → RowAt B r sa H' s' → H p = none → H' p = some (.lst vs) → Reps B r (hid H' (p :: O)) vs ys → Q (.ref p) H'
    let AI : List D → S → Hp → Prop := fun acc s2 H2 => ∃ ws, Gd B r sa H0 O0 W (Dl :: O) σ δ s2 H2 ∧ H2 Dl = some (.lst ws) ∧ Reps B r (hid H2 (Dl :: O)) ws acc ∧ Stp r H1 H2 ∧ Same (hid H1 O) (hid H2 (Dl :: O))
    refine ⟨fun i m H2 => m = ds.length - i ∧ i ≤ ds.length ∧ ∃ acc s2, AI acc s2 H2 ∧ (outL W tg c src1 tg1 c1 f vs1 (wipeD δ vs) (ds.drop i) acc s2).post R (fun _ _ => False),
      ⟨ds.length, by omega, by omega, [], s1, ⟨[], gd2, upd_same, .nil, Stp.new hD, sm2⟩, by rw [List.drop_zero]; exact hx⟩, ?_⟩
    rintro i m H2 ⟨rfl, hle, acc, s2, ⟨ws, g2, hD2, rws, st2, sm⟩, hp⟩
    obtain ⟨w1, w2, w3⟩ := wk (Dl :: O) H2 sm g2.dom
    by_cases hlt : i < ds.length
    · refine .inr ⟨w1 i hlt, fun H' => ∃ acc s2, AI acc s2 H' ∧ (outL W tg c src1 tg1 c1 f vs1 (wipeD δ vs) (ds.drop (i + 1)) acc s2).post R (fun _ _ => False),
        fun H' ⟨acc, s2, a, b⟩ => ⟨ds.length - (i + 1), by omega, rfl, by omega, acc, s2, a, b⟩, fun x H' hy => ?_⟩
      obtain ⟨sm3, rp⟩ := w3 i x H' ds[i] (by simp [hlt]) hy
      have g3 := g2.step (Stp.of sm3) (g2.row.same sm3)
      have smh := hid_same (O := Dl :: O) sm3
      rw [List.drop_eq_getElem_cons hlt] at hp
      obtain ⟨δ3, e, hp⟩ := post_lift (post_bind hp)
      refine hg (g3.wipe vs) rp e _ fun σ3 g4 ag lg => ?_
      refine ⟨by rw [wipe_ext lg fun j hj => ag j fun z => hj (of_decide_eq_true (List.all_eq_true.mp hs j z)), wipe_ext (wipe_length σ vs) fun j hj => wipe_get hj], ?_⟩
      split at hp
      · rename_i hfr3
        refine ht g4 _ (post_mono (post_bind hp) (fun b s3 hq H3 st3 ra3 => ?_) (fun _ _ z => z))
        have g5 := g4.step st3 ra3
        have st13 : Stp r H2 H3 := (Stp.of sm3).trans st3
        have smf := smh.trans (st3.hid g2.rO)
        cases b with
        | false =>
          show ∃ acc s2, _
          exact ⟨acc, s3, ⟨ws, g2.step st13 ra3, st13 Dl _ nr hD2, rws.mono smf, st2.trans st13, sm.trans smf⟩, hq⟩
        | true =>
          show wi1 σ3 H3 _
          refine hi1 g5 _ (post_mono (post_bind hq) (fun es s4 hq J1 H4 st4 ra4 wk1 => ?_) (fun _ _ z => z))
          have g6 := g5.step st4 ra4
          have st14 : Stp r H2 H4 := st13.trans st4
          have sm4 := smf.trans (st4.hid g2.rO)
          have AI4 : AI acc s4 H4 := ⟨ws, g2.step st14 ra4, st14 Dl _ nr hD2, rws.mono sm4, st2.trans st14, sm.trans sm4⟩
          refine ⟨fun j k H => k = es.length - j ∧ j ≤ es.length ∧ ∃ acc s2, AI acc s2 H ∧ Gd B r sa H0 O0 W (Dl :: O) σ3 δ3 s2 H ∧ Same (hid H4 (Dl :: O)) (hid H (Dl :: O)) ∧ ((inL tg1 c1 f (wipeD δ3 vs1) (es.drop j) acc s2).bind fun acc' s4 => outL W tg c src1 tg1 c1 f vs1 (wipeD δ vs) (ds.drop (i + 1)) acc' s4).post R (fun _ _ => False),
            ⟨es.length, by omega, by omega, acc, s4, AI4, g6, Same.refl _, by rw [List.drop_zero]; exact hq⟩, ?_⟩
          rintro j k H5 ⟨rfl, hle1, acc5, s5, ⟨ws5, g25, hD5, rws5, st5, sm5⟩, g65, sm45, hp5⟩
          obtain ⟨v1, v2, v3⟩ := wk1 (Dl :: O) H5 sm45 g25.dom
          by_cases hlt1 : j < es.length
          · refine .inr ⟨v1 j hlt1, fun H => ∃ acc s2, AI acc s2 H ∧ Gd B r sa H0 O0 W (Dl :: O) σ3 δ3 s2 H ∧ Same (hid H4 (Dl :: O)) (hid H (Dl :: O)) ∧ ((inL tg1 c1 f (wipeD δ3 vs1) (es.drop (j + 1)) acc s2).bind fun acc' s4 => outL W tg c src1 tg1 c1 f vs1 (wipeD δ vs) (ds.drop (i + 1)) acc' s4).post R (fun _ _ => False),
              fun H' ⟨acc, s2, a, b⟩ => ⟨es.length - (j + 1), by omega, rfl, by omega, acc, s2, a, b⟩, fun x1 H6 hy1 => ?_⟩
            obtain ⟨sm6, rp6⟩ := v3 j x1 H6 es[j] (by simp [hlt1]) hy1
            have g7 := g65.step (Stp.of sm6) (g65.row.same sm6)
            have smh6 := hid_same (O := Dl :: O) sm6
            rw [List.drop_eq_getElem_cons hlt1] at hp5
            obtain ⟨δ7, e7, hp5⟩ := post_lift (post_bind (post_bind hp5))
            refine hg1 (g7.wipe vs1) rp6 e7 _ fun σ7 g8 ag8 lg8 => ?_
            refine ⟨by rw [wipe_ext lg8 fun j hj => ag8 j fun z => hj (of_decide_eq_true (List.all_eq_true.mp hs1 j z)), wipe_ext (wipe_length σ3 vs1) fun j hj => wipe_get hj], ?_⟩
            refine ht1 g8 _ (post_mono (post_bind hp5) (fun b s8 hq8 H8 st8 ra8 => ?_) (fun _ _ z => z))
            have st58 : Stp r H5 H8 := (Stp.of sm6).trans st8
            have sm58 := smh6.trans (st8.hid g25.rO)
            cases b with
            | false =>
              show ∃ acc s2, _
              exact ⟨acc5, s8, ⟨ws5, g25.step st58 ra8, st58 Dl _ nr hD5, rws5.mono sm58, st5.trans st58, sm5.trans sm58⟩, g65.step st58 ra8, sm45.trans sm58, post_bind' hq8⟩
            | true =>
              show te σ7 H8 _
              refine he (g8.step st8 ra8) _ (post_mono (post_bind hq8) (fun y s9 hq9 y' H9 st9 ra9 rp9 => ?_) (fun _ _ z => z))
              have st59 : Stp r H5 H9 := st58.trans st9
              have sm59 := sm58.trans (st9.hid g25.rO)
              split at hq9
              · rename_i hlen
                have hD9 := st59 Dl _ nr hD5
                refine ⟨ws5, hD9, Evl.sz_lt (by rw [rws5.length]; exact hlen), ?_⟩
                obtain ⟨ga, ea⟩ := (g25.step st59 ra9).push (ws' := ws5 ++ [y']) List.mem_cons_self n0 hD9 hfree
                obtain ⟨gb, eb⟩ := (g65.step st59 ra9).push (ws' := ws5 ++ [y']) List.mem_cons_self n0 hD9 hfr3
                refine ⟨acc5 ++ [y], s9, ⟨ws5 ++ [y'], ga, upd_same, by rw [ea]; exact (rws5.mono sm59).append (.cons rp9 .nil), fun a o na ha => ?_, by rw [ea]; exact sm5.trans sm59⟩, gb, by rw [eb]; exact sm45.trans sm59, post_bind' hq9⟩
                rw [upd_ne (ne_of_none ha hD)]
                exact (st5.trans st59) a o na ha
              · exact hq9.elim
          · have e : j = es.length := by omega
            subst e
            rw [List.drop_length] at hp5
            exact .inl ⟨v2, acc5, s5, ⟨ws5, g25, hD5, rws5, st5, sm5⟩, hp5⟩
      · exact hp.elim
    · have e : i = ds.length := by omega
      subst e
      rw [List.drop_length] at hp
      refine .inl ⟨w2, hp Dl ws H2 (st.trans st2) g2.row nD hD2 rws⟩
  · exact hx.elim
def cLc2 (W vs : List Nat) (src : En → M (List D)) (tg : D → En → Option En) (c : En → M Bool) (src1 : En → M (List D)) (tg1 : D → En → Option En) (c1 : En → M Bool) (f : En → M D) (vs1 : List Nat) : En → M D := cOfL (cComp2 W vs src tg c src1 tg1 c1 f vs1)
theorem rd_comp2 {wi wi1 : TI} {src src1 : En → M (List D)} {ts ts1 vs vs1 : List Nat} {g g1 : TG} {tg tg1 : D → En → Option En} {tt tt1 : TT} {c c1 : En → M Bool} {te : TE} {f : En → M D} (hi : RdI B W none wi src) (hg : RdG B W ts g tg) (ht : RdT B W none tt c) (hi1 : RdI B W none wi1 src1) (hg1 : RdG B W ts1 g1 tg1) (ht1 : RdT B W none tt1 c1) (he : RdE B W none te f)
    (hs : (ts.all fun i => decide (i ∈ vs)) = true := by rfl) (hs1 : (ts1.all fun i => decide (i ∈ vs1)) = true := by rfl) :
    RdE B W none (tLc2 wi g tt wi1 g1 tt1 te vs vs1) (cLc2 W vs src tg c src1 tg1 c1 f vs1) := rd_ofL (rl_comp2 hi hg ht hi1 hg1 ht1 he hs hs1)
end
end PV

namespace PV
open PySem L2
/-! ### sorted -/
def PairV (K : PySem.W.Frag) (H : Hp) (x : V) (p : Int × Int) : Prop := ∃ t, x = V.ref t ∧ SqT K H t [.int p.1, .int p.2]
def rSortedPT (K : PySem.W.Frag) : List V → Hp → VK → Prop := fun vs H Q => ∃ (a : Addr) (xs : List V), vs = [V.ref a] ∧ SqL K H a xs ∧ (∀ x ∈ xs, ∃ p, PairV K H x p) ∧
  ∀ (k : V → Int × Int) (ys : List V) (p : Addr), (∀ x ∈ xs, ∀ q, PairV K H x q → k x = q) → SrtO.Srtd (ltP k) ys → ys.Perm xs → H p = none → Q (.ref p) (upd H p (.lst ys))
open Classical in
theorem cr_sortedPT {X : Cx} : CallR X (.builtin "sorted") (rSortedPT X.K) := by
  intro pins s σ H vs us Q I r h
  obtain ⟨a, xs, rfl, hs, hx, q⟩ := h
  obtain ⟨its, rv, hl, hz⟩ := I.list hs
  obtain ⟨u, rfl, ru⟩ := vals1 r
  obtain rfl : u = Value.ref a := ru
  obtain ⟨e1, e2⟩ := refs_back rv fun x m => by
    obtain ⟨p, t, e, _⟩ := hx x m
    exact ⟨t, e⟩
  let k : V → Int × Int := fun x => if h : ∃ p, PairV X.K H x p then h.choose else (0, 0)
  have hk : ∀ x ∈ xs, PairV X.K H x (k x) := fun x m => by
    have h := hx x m
    show PairV X.K H x (if h : ∃ p, PairV X.K H x p then h.choose else (0, 0))
    rw [dif_pos h]; exact h.choose_spec
  have hu : ∀ x ∈ xs, ∀ q, PairV X.K H x q → k x = q := fun x m q ⟨t, e, ht⟩ => by
    obtain ⟨t', e', ht'⟩ := hk x m
    rw [e] at e'; cases e'
    have := I.tuple_inj ht' ht
    simp only [List.cons.injEq, V.int.injEq, and_true] at this
    exact Prod.ext this.1 this.2
  refine SrtO.sorted_pairsO (k := fun u => k (backV u)) hl.isList (by rw [← rv.length]; exact hz) (fun v hv => ?_) fun h' d out h1 h2 kp hd hn => ?_
  · obtain ⟨t, rfl⟩ := e2 v hv
    have hm : V.ref t ∈ xs := by rw [e1]; exact List.mem_map.mpr ⟨_, hv, rfl⟩
    obtain ⟨t', e, ht⟩ := hk _ hm
    cases e
    obtain ⟨its2, r2, ⟨o, ho, hc, n, hd⟩, _⟩ := I.tuple ht
    obtain ⟨u1, u2, rfl, ri, rj⟩ := vals2 r2
    obtain ⟨t1, rfl⟩ := ri
    obtain ⟨t2, rfl⟩ := rj
    exact ⟨t, o, t1, t2, n, rfl, ho, hc, hd⟩
  · have h3 : ∀ u ∈ out, ∃ a, u = Value.ref a := fun u hu => e2 u (h2.perm.mem_iff.mp hu)
    obtain ⟨n, hn⟩ := hn
    have hb : SrtO.Stb (ltP k) (out.map backV) xs := by
      rw [e1]
      exact SrtO.Stb.map (ltP_swo k) backV h2
    refine ⟨.ref d, upd H d (.lst (out.map backV)), I.laid (t' := s.toks) kp hd ⟨?_, out, n, vals_back h3, hn⟩, rfl, q k _ d hu (SrtO.srtd_map h1) hb.perm (I.hok.fresh hd)⟩
    rw [hb.len]
    exact hz
def rSortedU (K : PySem.W.Frag) : List V → Hp → VK → Prop := fun vs H Q => rSortedI K vs H Q ∨ rSortedPT K vs H Q
theorem cr_sortedU {X : Cx} : CallR X (.builtin "sorted") (rSortedU X.K) := by
  intro pins s σ H vs us Q I r h
  rcases h with h | h
  · exact cr_sortedI pins s σ H vs us Q I r h
  · exact cr_sortedPT pins s σ H vs us Q I r h
def lexLe (p q : Int × Int) : Bool := decide (p.1 < q.1 ∨ (p.1 = q.1 ∧ p.2 ≤ q.2))
def sortI (ns : List Int) : List Int := ns.mergeSort (fun a b => decide (a ≤ b))
def sortP (ps : List (Int × Int)) : List (Int × Int) := ps.mergeSort lexLe
theorem sortI_perm (ns : List Int) : (sortI ns).Perm ns := List.mergeSort_perm _ _
theorem sortP_perm (ns : List (Int × Int)) : (sortP ns).Perm ns := List.mergeSort_perm _ _
theorem sortI_sorted (ns : List Int) : (sortI ns).Pairwise (· ≤ ·) := by
  have := List.pairwise_mergeSort (le := fun a b : Int => decide (a ≤ b)) (fun a b c h1 h2 => by simp at *; omega) (fun a b => by simp; omega) ns
  exact this.imp (fun h => by simpa using h)
theorem sortP_sorted (ns : List (Int × Int)) : (sortP ns).Pairwise (fun p q => lexLe p q = true) := by
  refine List.pairwise_mergeSort (le := lexLe) (fun a b c h1 h2 => ?_) (fun a b => ?_) ns
  · unfold lexLe at *; simp only [decide_eq_true_eq] at *; omega
  · unfold lexLe at *; simp only [Bool.or_eq_true, decide_eq_true_eq] at *; omega
theorem sort_uniq {α : Type} {le : α → α → Prop} (anti : ∀ a b, le a b → le b a → a = b) : ∀ {l m : List α}, l.Pairwise le → m.Pairwise le → l.Perm m → l = m
  | [], m, _, _, h => (List.Perm.eq_nil h.symm).symm
  | x :: l, [], _, _, h => absurd h.length_eq (by simp)
  | x :: l, y :: m, hl, hm, h => by
    have hl' := List.pairwise_cons.mp hl
    have hm' := List.pairwise_cons.mp hm
    have e : x = y := by
      rcases List.mem_cons.mp (h.mem_iff.mp (List.mem_cons_self (a := x) (l := l))) with e | hx
      · exact e
      · rcases List.mem_cons.mp (h.mem_iff.mpr (List.mem_cons_self (a := y) (l := m))) with e | hy
        · exact e.symm
        · exact anti x y (hl'.1 y hy) (hm'.1 x hx)
    subst e
    rw [sort_uniq anti hl'.2 hm'.2 h.cons_inv]
theorem sortI_uniq {ns ms : List Int} (h : ms.Perm ns) (h' : ms.Pairwise (· ≤ ·)) : ms = sortI ns := sort_uniq (le := (· ≤ ·)) (fun a b h1 h2 => by omega) h' (sortI_sorted ns) (h.trans (sortI_perm ns).symm)
theorem lexLe_anti (a b : Int × Int) (h1 : lexLe a b = true) (h2 : lexLe b a = true) : a = b := by
  unfold lexLe at *; simp only [decide_eq_true_eq] at *
  exact Prod.ext (by omega) (by omega)
theorem sortP_uniq {ns ms : List (Int × Int)} (h : ms.Perm ns) (h' : ms.Pairwise (fun p q => lexLe p q = true)) : ms = sortP ns := sort_uniq lexLe_anti h' (sortP_sorted ns) (h.trans (sortP_perm ns).symm)
def encP (p : Int × Int) : D := .tup [.int p.1, .int p.2]
def asPairs : List D → Option (List (Int × Int))
  | [] => some []
  | .tup [.int i, .int j] :: ds => (asPairs ds).map ((i, j) :: ·)
  | _ :: _ => none
theorem asPairs_some : ∀ {ds : List D} {ns : List (Int × Int)}, asPairs ds = some ns → ds = ns.map encP := by
  intro ds
  induction ds with
  | nil => intro ns e; cases e; rfl
  | cons d ds ih =>
    intro ns e
    unfold asPairs at e
    split at e
    · rename_i h; cases h
    · rename_i i j ds' h
      cases h
      obtain ⟨ms, h1, h2⟩ := Option.map_eq_some_iff.mp e
      subst h2; rw [ih h1]; rfl
    · cases e
@[simp] theorem asPairs_map (ps : List (Int × Int)) : asPairs (ps.map encP) = some ps := by
  induction ps with
  | nil => rfl
  | cons n ns ih => show (asPairs (ns.map encP)).map (n :: ·) = _; rw [ih]; rfl
def gSorted : List D → Option D
  | [.lst ds] => match asInts ds with
    | some ns => some (.lst ((sortI ns).map D.int))
    | none => (asPairs ds).map fun ps => .lst ((sortP ps).map encP)
  | _ => none
theorem g_sortI (ns : List Int) : gSorted [.lst (ns.map D.int)] = some (.lst ((sortI ns).map D.int)) := by simp [gSorted]
theorem g_sortP (ps : List (Int × Int)) : gSorted [.lst (ps.map encP)] = some (.lst ((sortP ps).map encP)) := by
  cases ps with
  | nil => simp [gSorted, asInts, sortI, sortP]
  | cons p ps =>
    have e : asInts ((p :: ps).map encP) = none := rfl
    unfold gSorted
    simp only [e]
    rw [asPairs_map]; rfl
section
variable {B : Bs}
theorem reps_pairs {r : Addr} {H : Hp} {O : List Addr} {k : V → Int × Int} : ∀ {xs : List V} {ps : List (Int × Int)}, Reps B r (hid H O) xs (ps.map encP) → (∀ x ∈ xs, ∀ q, PairV B.K H x q → k x = q) → xs.map k = ps ∧ ∀ x ∈ xs, Rep B r (hid H O) x (encP (k x))
  | _, [], .nil, _ => ⟨rfl, fun x hx => by cases hx⟩
  | _, p :: ps, .cons h hs, hk => by
    have hk' := hk
    obtain ⟨e1, e2⟩ := reps_pairs hs fun x hx => hk x (List.mem_cons_of_mem _ hx)
    obtain ⟨a, vs, rfl, ha, hr⟩ := Rep.inv_tup h
    obtain ⟨v, w, rfl, r1, r2⟩ := hr.two
    cases r1; cases r2
    have ep := hk _ List.mem_cons_self p ⟨a, rfl, sqT_le ha⟩
    refine ⟨by rw [List.map_cons, ep, e1], fun x hx => ?_⟩
    rcases List.mem_cons.mp hx with e | e
    · subst e; rw [ep]; exact h
    · exact e2 x e
theorem reps_of {r : Addr} {H : Hp} {f : V → D} : ∀ {xs : List V}, (∀ x ∈ xs, Rep B r H x (f x)) → Reps B r H xs (xs.map f)
  | [], _ => .nil
  | x :: xs, h => .cons (h x List.mem_cons_self) (reps_of fun y hy => h y (List.mem_cons_of_mem _ hy))
theorem pairs_ex {r : Addr} {H : Hp} {O : List Addr} : ∀ {xs : List V} {ps : List (Int × Int)}, Reps B r (hid H O) xs (ps.map encP) → ∀ x ∈ xs, ∃ p, PairV B.K H x p
  | _, [], .nil, x, hx => by cases hx
  | _, p :: ps, .cons h hs, x, hx => by
    rcases List.mem_cons.mp hx with e | e
    · subst e
      obtain ⟨a, vs, rfl, ha, hr⟩ := Rep.inv_tup h
      obtain ⟨v, w, rfl, r1, r2⟩ := hr.two
      cases r1; cases r2
      exact ⟨p, a, rfl, sqT_le ha⟩
    · exact pairs_ex hs x e
theorem cs_sorted : CaS B (rSortedU B.K) gSorted := by
  intro r O H xs ds d Q hd rp e q
  unfold gSorted at e
  split at e
  · rename_i ds
    obtain ⟨v, rfl, rq⟩ := rp.one
    obtain ⟨a, vs, rfl, h3, h4⟩ := rq.inv_lst
    split at e
    · rename_i ns h1
      cases e
      rw [asInts_some h1] at h4
      rw [h4.ints] at h3
      refine .inl ⟨a, ns, rfl, SqL.of (hid_le _ _ h3), fun ns' p hp hs hn => ?_⟩
      have e := sortI_uniq hp hs
      subst e
      exact q _ _ (same_new hn) (new_lst hn hd (Reps.of_ints _))
    · obtain ⟨ps, h1, h2⟩ := Option.map_eq_some_iff.mp e
      subst h2
      rw [asPairs_some h1] at h4
      refine .inr ⟨a, vs, rfl, SqL.of (hid_le _ _ h3), pairs_ex h4, fun k ys p hk hs hp hn => ?_⟩
      obtain ⟨e1, e2⟩ := reps_pairs h4 hk
      have e3 : ys.map k = sortP ps := by
        refine sortP_uniq ?_ ?_
        · rw [← e1]; exact hp.map k
        · refine List.pairwise_map.mpr (hs.imp fun {x y} h => ?_)
          have h := SrtO.lexB_no.mp h
          unfold lexLe
          rw [decide_eq_true_eq]; omega
      have e4 : (sortP ps).map encP = ys.map fun y => encP (k y) := by rw [← e3, List.map_map]; rfl
      rw [e4] at q
      exact q _ _ (same_new hn) (new_lst hn hd (reps_of fun x hx => e2 x (hp.mem_iff.mp hx)))
  · cases e
/-! ### zip -/
def gZip : List D → Option (List D)
  | [.lst xs, .lst ys] => some ((xs.zip ys).map fun p => .tup [p.1, p.2])
  | [.tup xs, .tup ys] => some ((xs.zip ys).map fun p => .tup [p.1, p.2])
  | _ => none
@[simp] theorem gZip_L (xs ys : List D) : gZip [.lst xs, .lst ys] = some ((xs.zip ys).map fun p => .tup [p.1, p.2]) := rfl
@[simp] theorem gZip_T (xs ys : List D) : gZip [.tup xs, .tup ys] = some ((xs.zip ys).map fun p => .tup [p.1, p.2]) := rfl
theorem zip_get {xs ys : List D} {i : Nat} {d : D} (h : ((xs.zip ys).map fun p => D.tup [p.1, p.2])[i]? = some d) : ∃ x y, xs[i]? = some x ∧ ys[i]? = some y ∧ d = .tup [x, y] := by
  rw [List.getElem?_map] at h
  obtain ⟨⟨x, y⟩, h1, h2⟩ := Option.map_eq_some_iff.mp h
  rw [List.getElem?_zip_eq_some] at h1
  exact ⟨x, y, h1.1, h1.2, h2.symm⟩
theorem ri_zip {W : List Nat} {E : Option XK} {ta : TA} {f : En → M (List D)} (ha : RdA B W E ta f) : RdI B W E (RZ.iZipA B.K ta) (cItA gZip f) := by
  intro r sa H0 O0 O σ δ s H gd R h
  refine ha gd _ (post_mono (post_bind h) (fun x s1 hx v H1 st ra rp => ?_) (fun _ _ z => z))
  obtain ⟨ds, e, hd⟩ := post_lift hx
  unfold gZip at e
  split at e
  · rename_i xs ys
    cases e
    obtain ⟨v1, v2, rfl, r1, r2⟩ := rp.two
    obtain ⟨a, vs, rfl, h1, h2⟩ := r1.inv_lst
    obtain ⟨b, ws, rfl, h3, h4⟩ := r2.inv_lst
    refine ⟨a, b, vs, ws, rfl, .inl ⟨SqL.of (hid_le _ _ h1), SqL.of (hid_le _ _ h3), hd _ H1 st ra ?_⟩⟩
    intro O' H2 sm hdm
    have e1 : H2 a = some (.lst vs) := hid_le _ _ (sm _ _ h1)
    have e2 : H2 b = some (.lst ws) := hid_le _ _ (sm _ _ h3)
    have l1 := h2.length
    have l2 := h4.length
    refine ⟨fun i hi => ?_, ?_, fun i x H3 d hi hy => ?_⟩
    · rw [List.length_map, List.length_zip] at hi
      exact ⟨vs, ws, vs[i]'(by omega), ws[i]'(by omega), SqL.of e1, SqL.of e2, by simp [show i < vs.length by omega], by simp [show i < ws.length by omega]⟩
    · rw [List.length_map, List.length_zip]
      exact ⟨vs, ws, SqL.of e1, SqL.of e2, by omega⟩
    · obtain ⟨T, x', y', rfl, hT, rfl, z1, z2⟩ := hy
      obtain ⟨dx, dy, i1, i2, rfl⟩ := zip_get hi
      obtain ⟨u1, u2, u3⟩ := h2.get i dx i1
      obtain ⟨w1, w2, w3⟩ := h4.get i dy i2
      have ex := (z1 vs (SqL.of e1)).symm.trans u2; cases ex
      have ey := (z2 ws (SqL.of e2)).symm.trans w2; cases ey
      exact new_pair hT hdm (u3.mono sm) (w3.mono sm)
  · rename_i xs ys
    cases e
    obtain ⟨v1, v2, rfl, r1, r2⟩ := rp.two
    obtain ⟨a, vs, rfl, h1, h2⟩ := r1.inv_tup
    obtain ⟨b, ws, rfl, h3, h4⟩ := r2.inv_tup
    refine ⟨a, b, vs, ws, rfl, .inr ⟨sqT_le h1, sqT_le h3, hd _ H1 st ra ?_⟩⟩
    intro O' H2 sm hdm
    have e1 : SqT B.K H2 a vs := sqT_le (same_t sm h1)
    have e2 : SqT B.K H2 b ws := sqT_le (same_t sm h3)
    have l1 := h2.length
    have l2 := h4.length
    refine ⟨fun i hi => ?_, ?_, fun i x H3 d hi hy => ?_⟩
    · rw [List.length_map, List.length_zip] at hi
      exact ⟨vs, ws, vs[i]'(by omega), ws[i]'(by omega), e1, e2, by simp [show i < vs.length by omega], by simp [show i < ws.length by omega]⟩
    · rw [List.length_map, List.length_zip]
      exact ⟨vs, ws, e1, e2, by omega⟩
    · obtain ⟨T, x', y', rfl, hT, rfl, z1, z2⟩ := hy
      obtain ⟨dx, dy, i1, i2, rfl⟩ := zip_get hi
      obtain ⟨u1, u2, u3⟩ := h2.get i dx i1
      obtain ⟨w1, w2, w3⟩ := h4.get i dy i2
      have ex := (z1 vs e1).symm.trans u2; cases ex
      have ey := (z2 ws e2).symm.trans w2; cases ey
      exact new_pair hT hdm (u3.mono sm) (w3.mono sm)
  · cases e
end
end PV

namespace PV
open PySem L2
/-! ### records: {'a': .., 'b': ..} -/
theorem mergeK_app : ∀ (more acc : List (Key × V)), (more.map (·.1)).Nodup → (∀ kv ∈ more, ∀ kv' ∈ acc, kv'.1 ≠ kv.1) → mergeK acc more = acc ++ more
  | [], acc, _, _ => by show acc = _; simp
  | kv :: more, acc, h1, h2 => by
    have h1' := List.nodup_cons.mp h1
    show mergeK (putK acc kv.1 kv.2) more = _
    have e : putK acc kv.1 kv.2 = acc ++ [kv] := by
      unfold putK
      rw [if_neg]
      intro z
      obtain ⟨kv', m, z⟩ := List.any_eq_true.mp z
      exact h2 kv List.mem_cons_self kv' m (of_decide_eq_true z)
    rw [e, mergeK_app more (acc ++ [kv]) h1'.2 fun a ha b hb => ?_]
    · simp
    · rcases List.mem_append.mp hb with hb | hb
      · exact h2 a (List.mem_cons_of_mem _ ha) b hb
      · have : b = kv := by simpa using hb
        subst this
        intro z
        exact h1'.1 (List.mem_map.mpr ⟨a, ha, z.symm⟩)
def keyAt : List Str → List D → Str → Option D
  | k' :: ks, d :: ds, k => if k' = k then some d else keyAt ks ds k
  | _, _, _ => none
def gKey (k : Str) : D → Option D
  | .dic ks ds => keyAt ks ds k
  | _ => none
section
variable {B : Bs} {W : List Nat} {E : Option XK}
theorem key_val {r : Addr} {H : Hp} {k : Str} {d : D} : ∀ {ks : List Str} {vs : List V} {ds : List D}, Reps B r H vs ds → keyAt ks ds k = some d → ∃ v, valV ((ks.map (Sum.inr : Str → Key)).zip vs) (Sum.inr k) = some v ∧ Rep B r H v d
  | [], _, _, h, e => by cases h <;> cases e
  | k' :: ks, _, _, .nil, e => by cases e
  | k' :: ks, v :: vs, d' :: ds, .cons h hs, e => by
    unfold keyAt at e
    split at e
    · rename_i hk
      cases e
      subst hk
      exact ⟨v, valV_pos rfl, h⟩
    · rename_i hk
      obtain ⟨w, h1, h2⟩ := key_val hs e
      refine ⟨w, ?_, h2⟩
      show valV ((Sum.inr k', v) :: (ks.map Sum.inr).zip vs) (Sum.inr k) = some w
      rw [valV_neg (by intro z; exact hk (Sum.inr.inj z))]; exact h1
theorem rd_key {te : TE} {fa : En → M D} {k : Str} (ha : RdE B W E te fa) : RdE B W E (tDGet te (tC (.str k))) (cUn (gKey k) fa) := by
  intro r sa H0 O0 O σ δ s H gd Q h
  refine ha gd _ (post_mono (post_bind h) (fun x s1 hx v H1 st ra rp => ?_) (fun _ _ z => z))
  obtain ⟨d, e, hd⟩ := post_lift hx
  unfold gKey at e
  split at e
  · cases rp with
    | dic hH hk hl hs =>
      obtain ⟨w, h1, h2⟩ := key_val hs e
      subst hk
      exact ⟨_, w, rfl, .inl ⟨_, Sum.inr k, .inl (hid_le _ _ hH), rfl, h1.symm⟩, hd w H1 st ra h2⟩
  · cases e
def RdPr (B : Bs) (W : List Nat) (E : Option XK) (trs : List (TE × TE)) (ks : List Str) (f : En → M (List D)) : Prop :=
  ∀ {r sa : Addr} {H0 : Hp} {O0 O : List Addr} {σ : St} {δ : En} {s : S} {H : Hp}, Gd B r sa H0 O0 W O σ δ s H → ∀ Q : List (V × V) → Hp → Prop,
    (f δ s).post (fun ds s' => ∀ vs H', Stp r H H' → RowAt B r sa H' s' → Reps B r (hid H' O) vs ds → vs.length = ks.length → Q ((ks.map V.str).zip vs) H') (EPost B E r sa H O) → tPairs trs σ H Q
theorem rpr_nil : RdPr B W E [] [] cNil := by
  intro r sa H0 O0 O σ δ s H gd Q h
  exact h [] H (Stp.refl H) gd.row .nil rfl
theorem rpr_cons {k : Str} {te : TE} {f : En → M D} {trs : List (TE × TE)} {ks : List Str} {fr : En → M (List D)} (ha : RdE B W E te f) (hr : RdPr B W E trs ks fr) : RdPr B W E ((tC (.str k), te) :: trs) (k :: ks) (cCons f fr) := by
  intro r sa H0 O0 O σ δ s H gd Q h
  refine ha gd _ (post_mono (post_bind h) (fun x s1 hx v H1 st ra rp => ?_) (fun _ _ z => z))
  refine hr (gd.step st ra) _ (post_mono (post_bind hx) (fun y s2 hy w H2 st2 ra2 rp2 hl => ?_) (fun _ _ z => z.mono st))
  exact hy (v :: w) _ (st.trans st2) ra2 (.cons (rp.mono (st2.hid gd.rO)) rp2) (by simp [hl])
def cDic (ks : List Str) (fr : En → M (List D)) : En → M D := fun δ s => (fr δ s).bind fun ds s1 => .ok (.dic ks ds) s1
theorem zip_keys : ∀ (ks : List Str) (vs : List V), (ks.map V.str).zip vs = ((ks.map (Sum.inr : Str → Key)).zip vs).map fun kv => (kV kv.1, kv.2)
  | [], _ => by simp
  | k :: ks, [] => by simp
  | k :: ks, v :: vs => by
    show (V.str k, v) :: (ks.map V.str).zip vs = (kV (Sum.inr k), v) :: ((ks.map Sum.inr).zip vs).map _
    rw [zip_keys ks vs]; rfl
theorem zip_fst : ∀ (ks : List Key) (vs : List V), vs.length = ks.length → (ks.zip vs).map (·.1) = ks
  | [], [], _ => rfl
  | k :: ks, v :: vs, h => by simp [List.zip_cons_cons, zip_fst ks vs (by simpa using h)]
theorem rd_dic {trs : List (TE × TE)} {ks : List Str} {fr : En → M (List D)} (hr : RdPr B W none trs ks fr) (hk : decide (ks.Nodup ∧ ks.length ≤ 15) = true := by decide +kernel) : RdE B W none (tDisp trs) (cDic ks fr) := by
  have hk := of_decide_eq_true hk
  intro r sa H0 O0 O σ δ s H gd Q h p hp
  obtain ⟨g1, sm1⟩ := gd.grow (p := p) (o := .dK []) (Stp.new hp) (gd.row.new hp) hp upd_same
  have ⟨nO, n0⟩ := gd.fresh0 hp
  have npr : p ≠ r := fun z => nO (z ▸ gd.rO)
  refine hr g1 _ (post_mono (post_bind h) (fun ds s1 hx vs H2 st ra rp hl => ?_) (fun _ _ z => z))
  have e2 : H2 p = some (.dK []) := st p _ npr upd_same
  refine ⟨e2, (ks.map (Sum.inr : Str → Key)).zip vs, zip_keys ks vs, ?_, ?_⟩
  · rw [List.length_zip, List.length_map]; omega
  · have em : mergeK [] ((ks.map (Sum.inr : Str → Key)).zip vs) = (ks.map (Sum.inr : Str → Key)).zip vs := by
      rw [mergeK_app _ [] (by
        rw [zip_fst _ _ (by rw [List.length_map]; exact hl)]
        exact List.pairwise_map.mpr (hk.1.imp fun {a b} z w => z (Sum.inr.inj w))) (fun _ _ _ z => by cases z)]
      simp
    rw [em]
    have st' : Stp r H (upd H2 p (.dK ((ks.map (Sum.inr : Str → Key)).zip vs))) := fun a o na ha => by
      have : a ≠ p := ne_of_none ha hp
      rw [upd_ne this]
      exact st a o na (by rw [upd_ne this]; exact ha)
    have ra' : RowAt B r sa (upd H2 p (.dK ((ks.map (Sum.inr : Str → Key)).zip vs))) s1 := ⟨by rw [upd_ne (Ne.symm npr)]; exact ra.1, ra.2.elim (fun ⟨o, q⟩ => .inl ⟨o, by rw [upd_ne (ne_of q e2 (fun z => nomatch z))]; exact q⟩) .inr⟩
    refine hx _ _ st' ra' (.dic (by rw [hid_out nO, upd_same]) rfl hl.symm (rp.mono fun a o e => ?_))
    have ⟨h1, h2⟩ := hid_some e
    have ⟨h3, h4⟩ : a ≠ p ∧ a ∉ O := by simpa using h1
    rw [hid_out h4, upd_ne h3]; exact h2
/-! ### sales -/
structure SaleF (B : Bs) : Prop where
  cl : Cls B.K B.cs
  nc : NoAttr B.K B.cs "crowd"
  ns : NoAttr B.K B.cs "stock"
  ha : PySem.W.findIn B.K (.ref B.cs) "__class__" = some (some (.builtin "object.__class__"))
  hn : PySem.W.specialIn B.K (.builtin "object.__class__") "__get__" = some (some (.builtin "getset_descriptor.__get__"))
  htk : PySem.W.takesIn B.K (.builtin "object.__class__") = some true
  hm : PySem.W.mroIn B.K B.cs (.type "object") = some true
  nt : ∀ T ∈ ["NoneType", "bool", "int", "str", "tuple", "list", "dict"], PySem.W.kitOne B.K (.type T) (.ref B.cs) = some false
def g_crowd : D → Option D | .sal c _ => some c | _ => none
def g_stock : D → Option D | .sal _ n => some n | _ => none
@[simp] theorem g_crowd_sal (c n : D) : g_crowd (.sal c n) = some c := rfl
@[simp] theorem g_stock_sal (c n : D) : g_stock (.sal c n) = some n := rfl
theorem rd_crowd {te : TE} {fa : En → M D} (F : SaleF B) (ha : RdE B W E te fa) : RdE B W E (tFld B.K te "crowd") (cUn g_crowd fa) := by
  intro r sa H0 O0 O σ δ s H gd Q h
  refine ha gd _ (post_mono (post_bind h) (fun x s1 hx v H1 st ra rp => ?_) (fun _ _ z => z))
  obtain ⟨d, e, hd⟩ := post_lift hx
  unfold g_crowd at e
  split at e
  · cases e
    cases rp with
    | sal hH h1 h2 => exact ⟨_, _, _, _, _, rfl, hid_le _ _ hH, F.cl, F.nc, rfl, hd _ H1 st ra h1⟩
  · cases e
theorem rd_stock {te : TE} {fa : En → M D} (F : SaleF B) (ha : RdE B W E te fa) : RdE B W E (tFld B.K te "stock") (cUn g_stock fa) := by
  intro r sa H0 O0 O σ δ s H gd Q h
  refine ha gd _ (post_mono (post_bind h) (fun x s1 hx v H1 st ra rp => ?_) (fun _ _ z => z))
  obtain ⟨d, e, hd⟩ := post_lift hx
  unfold g_stock at e
  split at e
  · cases e
    cases rp with
    | sal hH h1 h2 => exact ⟨_, _, _, _, _, rfl, hid_le _ _ hH, F.cl, F.ns, rfl, hd _ H1 st ra h2⟩
  · cases e
/-- isinstance(x, Sale) -/
def gIsS : D → Option D
  | .sal _ _ => some (.bl true)
  | d => match tyD d with | some _ => some (.bl false) | none => none
@[simp] theorem gIsS_sal (c n : D) : gIsS (.sal c n) = some (.bl true) := rfl
theorem tyD_in {d : D} {t : String} (e : tyD d = some t) : t ∈ ["NoneType", "bool", "int", "str", "tuple", "list", "dict"] := by
  cases d <;> simp [tyD] at e <;> subst e <;> simp
theorem rd_isS {ta : TE} {fa : En → M D} (F : SaleF B) (ha : RdE B W E ta fa) : RdE B W E (tCB (rIsi B.K) (tCons ta (tCons (tC (.ref B.cs)) tNil))) (cUn gIsS fa) := by
  intro r sa H0 O0 O σ δ s H gd Q h
  refine ha gd _ (post_mono (post_bind h) (fun x s1 hx v H1 st ra rp => ?_) (fun _ _ z => z))
  obtain ⟨d, e, hd⟩ := post_lift hx
  unfold gIsS at e
  split at e
  · cases e
    cases rp with
    | sal hH h1 h2 => exact ⟨_, .ref B.cs, .ref B.cs, .ref B.cs, true, rfl, .own B.cs, .base (.ins (hid_le _ _ hH) F.cl F.ha F.hn F.htk F.hm), by simp [PySem.W.kitOne], hd _ H1 st ra (.bl true)⟩
  · split at e
    · rename_i t ht
      cases e
      exact ⟨v, .ref B.cs, .type t, .ref B.cs, false, rfl, .own B.cs, rep_ty (rp.mono hid_le) ht, F.nt t (tyD_in ht), hd _ H1 st ra (.bl false)⟩
    · cases e
/-! ### Sale(buyers, things) -/
def isOb (x : Addr) : D → Option Unit | .obj y => if y = x then some () else none | _ => none
def saleE (x : Addr) : Fl → S → Out D
  | .next δ, s => (lift (δ[0]?.join.bind (isOb x)) s).bind fun _ s => (lift (δ[1]?.join) s).bind fun c s1 => (lift (δ[2]?.join) s1).bind fun n s2 => .ok (.sal c n) s2
  | _, _ => .stuck
def saleX (n : Nat) (body : En → M Fl) (x : Addr) : List D → M D := fun ds s => if ds.length = 2 then (body (startD n (.obj x :: ds)) s).bind (saleE x) else .stuck
def spInit (B : Bs) (F : Addr → List D → M D) : Sp := fun vs H Q _ => ∃ (x : Addr) (vs' : List V), vs = .ref x :: vs' ∧ vs'.length = 2 ∧ ∃ (r sa : Addr) (O : List Addr) (ds : List D) (s : S) (dx : Addr), H x = some (.ins B.cs dx []) ∧ x ∉ O ∧ RowAt B r sa H s ∧ r ∈ O ∧ (∀ p ∈ O, H p ≠ none) ∧ Reps B r (hid H (x :: O)) vs' ds ∧
  (F x ds s).post (fun d s' => ∀ H', (∀ a o, a ≠ r → a ≠ x → H a = some o → H' a = some o) → RowAt B r sa H' s' → Rep B r (hid H' O) (.ref x) d → Q .non H') (fun _ _ => False)
theorem init_ok {P : Program} {w : World} {mg : Str → Option Value} {base : Heap} {x qual : Str} {st : Stmt} {f : Addr} {fd : FuncData} {N ps : List Str} {k : Nat} {b1 b2 b3 : En → M Fl} (F : Fun B.K x qual st f fd) (Sc : FnScope N ps (defScope st)) (hN : 3 ≤ N.length) (hps : ps.length = 3) (SF : SaleF B) (hW : W = [])
    (hb : ∀ (cdv : Value) (A : Around) (outer : List Env) (s : Shared) (H : Hp) (E : XK), Room k (A.deeper (PyProof.Rows.envOfC qual (defScope st) s.heap.objs.size f cdv)) →
      ∃ t1 t2 t3, PSs (cxOf CX0 P w B.K mg base N qual (defScope st) f cdv A outer s H E).nox (defBody st) (tSeq t1 (tSeq t2 (tSeq t3 (tSeq (sFld B.K (tVar 0) (tVar 1) "crowd") (sFld B.K (tVar 0) (tVar 2) "stock"))))) ∧ RdS B W none t1 b1 ∧ RdS B W none t2 b2 ∧ RdS B W none t3 b3) :
    FnOk P w B.K mg base CX0 (k + 1) f fd ps (spInit B (saleX N.length (cSeq b1 (cSeq b2 b3)))) := by
  refine F.ok Sc (fun vs H Q E h => ?_) (fun cdv A outer s H vs Q E hr h => ?_)
  · obtain ⟨a, vs', rfl, hl, _⟩ := h; simp [hl, hps]
  obtain ⟨t1, t2, t3, hP, h1, h2, h3⟩ := hb cdv A outer s H E hr
  obtain ⟨a, vs', rfl, hl, r, sa, O, ds, s0, dx, hx, nO, ra, hrO, hdom, rp, hp⟩ := h
  refine ⟨_, hP, ?_⟩
  have hR : RdS B W none (tSeq t1 (tSeq t2 t3)) (cSeq b1 (cSeq b2 b3)) := rs_seq h1 (rs_seq h2 h3)
  have nar : a ≠ r := fun z => nO (z ▸ hrO)
  have hds : ds.length = 2 := by rw [← rp.length]; exact hl
  subst hW
  have gd : Gd B r sa H (a :: O) [] (a :: O) (L2.start N (.ref a :: vs')) (startD N.length (.obj a :: ds)) s0 H := by
    refine ⟨?_, ra, List.mem_cons_of_mem _ hrO, fun p hp => ?_, fun p hp => ?_, fun _ h => h, fun _ h => .inl h, Stp.refl H, fun i d hi q => ?_, fun i d hi q => (by cases hi), fun i j p d e hi hj ne q => (by cases hi)⟩
    · unfold L2.start startD; simp [rp.length]
    · rcases List.mem_cons.mp hp with z | z
      · rw [z, hx]; exact fun z => nomatch z
      · exact hdom p z
    · rcases List.mem_cons.mp hp with z | z
      · rw [z, hx]; exact fun z => nomatch z
      · exact hdom p z
    · obtain ⟨v, h1, h2⟩ := (Reps.cons (Rep.obj a) rp).get i d (startD_some q)
      refine ⟨v, ?_, h2⟩
      rw [start_get, if_pos (List.getElem?_eq_some_iff.mp h1).1, h1]; rfl
  show (tSeq t1 (tSeq t2 t3)) { nx := fun σ' H' => (tSeq (sFld B.K (tVar 0) (tVar 1) "crowd") (sFld B.K (tVar 0) (tVar 2) "stock")) { nx := fun _ H' => Q .non H', rt := Q } σ' H', rt := Q } _ H
  refine hR gd _ ?_
  have e : saleX N.length (cSeq b1 (cSeq b2 b3)) a ds s0 = (cSeq b1 (cSeq b2 b3) (startD N.length (.obj a :: ds)) s0).bind (saleE a) := by unfold saleX; rw [if_pos hds]
  rw [e] at hp
  refine post_mono (post_bind hp) (fun fl s1 hq => ?_) (fun _ _ z => z)
  cases fl with
  | ret d => exact hq.elim
  | brk d => exact hq.elim
  | cont d => exact hq.elim
  | next δ' =>
    intro O' σ' H' g' sm
    obtain ⟨_, e0, hq⟩ := post_lift (post_bind hq)
    obtain ⟨c, e1, hq⟩ := post_lift (post_bind hq)
    obtain ⟨n, e2, hq⟩ := post_lift (post_bind hq)
    obtain ⟨d0, e00, e01⟩ := Option.bind_eq_some_iff.mp e0
    have hd0 : d0 = .obj a := by
      unfold isOb at e01
      split at e01
      · split at e01
        · rename_i z; rw [z]
        · cases e01
      · cases e01
    subst hd0
    obtain ⟨v0, s00, r0⟩ := g'.val 0 _ (by simp) (join_some e00)
    obtain ⟨v1, s01, r1⟩ := g'.val 1 _ (by simp) (join_some e1)
    obtain ⟨v2, s02, r2⟩ := g'.val 2 _ (by simp) (join_some e2)
    cases r0
    have hx' : H' a = some (.ins B.cs dx []) := g'.stp a _ nar hx
    refine ⟨v1, s01, _, s00, a, B.cs, dx, [], rfl, hx', SF.cl, SF.nc, by decide, ?_⟩
    refine ⟨v2, s02, _, s00, a, B.cs, dx, _, rfl, upd_same, SF.cl, SF.ns, (by show 1 < 1000; decide), ?_⟩
    have aO : a ∈ O' := g'.sub a List.mem_cons_self
    have sm2 : ∀ u u', Same (hid H' O') (hid (upd (upd H' a u) a u') O) := fun u u' b o e => by
      have ⟨h1, h2⟩ := hid_some e
      have nb : b ≠ a := fun z => h1 (z ▸ aO)
      rw [hid_out (fun z => h1 (g'.sub b (List.mem_cons_of_mem _ z))), upd_ne nb, upd_ne nb]; exact h2
    refine hq _ (fun b o n1 n2 e => ?_) ⟨?_, ?_⟩ (.sal (dx := dx) (by rw [hid_out nO, upd_same]; rfl) (r1.mono (sm2 _ _)) (r2.mono (sm2 _ _)))
    · rw [upd_ne n2, upd_ne n2]; exact g'.stp b o n1 e
    · rw [upd_ne (Ne.symm nar), upd_ne (Ne.symm nar)]; exact g'.row.1
    · exact g'.row.2.elim (fun ⟨o, q⟩ => .inl ⟨o, by rw [upd_ne (ne_of q hx' (fun z => nomatch z)), upd_ne (ne_of q hx' (fun z => nomatch z))]; exact q⟩) .inr
theorem rd_make {F : Addr → List D → M D} {tr : TA} {fr : En → M (List D)} (hx : ∀ x ds s, F x ds s = F 0 ds s) (ha : RdA B W none tr fr) : RdE B W none (tMake B.cs (spInit B F) [] E0 tr) (cCall 2 (F 0) fr) := by
  intro r sa H0 O0 O σ δ s H gd Q h
  refine ha gd _ (post_mono (post_bind h) (fun ds s1 hd v H1 st ra rp => ?_) (fun _ _ z => z))
  split at hd
  · rename_i hl
    intro x dx nx ndx ne
    have gd1 := gd.step st ra
    have xO : x ∉ O := fun z => gd1.dom x z nx
    have hnew : ∀ a o, H1 a = some o → upd (upd H1 dx (.own x)) x (.ins B.cs dx []) a = some o := fun a o e => by
      rw [upd_ne (ne_of_none e nx), upd_ne (ne_of_none e ndx)]; exact e
    rw [List.append_nil]
    refine ⟨x, v, rfl, by rw [rp.length]; exact hl, r, sa, O, ds, s1, dx, upd_same, xO, ra.same hnew, gd.rO, fun p hp => ?_, rp.mono fun a o e => ?_, ?_⟩
    · cases q : H1 p with
      | none => exact absurd q (gd1.dom p hp)
      | some o => rw [hnew p o q]; exact fun z => nomatch z
    · have ⟨h1, h2⟩ := hid_some e
      have na : a ≠ x := ne_of_none h2 nx
      rw [hid_out (by simp [na, h1])]; exact hnew a o h2
    · rw [hx]
      refine post_mono hd (fun d s2 q H' k ra' rp' => ⟨rfl, q _ H' (fun a o na e => ?_) ra' rp'⟩) (fun _ _ z => z)
      have e1 := st a o na e
      exact k a o na (ne_of_none e1 nx) (hnew a o e1)
  · exact hd.elim
end
end PV

namespace PV
open PySem L2
/-- a def of the program, where it stands -/
structure Df (B : Bs) (mg : Str → Option Value) (x : Str) (st : Stmt) (ps : List Str) where
  f : Addr
  d : FuncData
  F : Fun B.K x x st f d
  m : mg x = some (.ref f)
  k : PySem.W.keepIn B.K (.ref f) = true
  b : Binds B.K d ps []
section
variable {δ : En} {s : S}
@[simp] theorem e_comp2 (W vs src tg c src1 tg1 c1) (f : En → M D) (vs1) : cComp2 W vs src tg c src1 tg1 c1 f vs1 δ s = (src δ s).bind fun ds s1 => if freeW W δ then outL W tg c src1 tg1 c1 f vs1 (wipeD δ vs) ds [] s1 else .stuck := rfl
@[simp] theorem e_lc2 (W vs src tg c src1 tg1 c1) (f : En → M D) (vs1) : cLc2 W vs src tg c src1 tg1 c1 f vs1 δ s = (src δ s).bind fun ds s1 => if freeW W δ then (outL W tg c src1 tg1 c1 f vs1 (wipeD δ vs) ds [] s1).bind fun ds s2 => .ok (.lst ds) s2 else .stuck := by
  unfold cLc2 cOfL cComp2
  cases src δ s with
  | ok ds s1 => simp only [bind_ok]; split <;> rfl
  | stuck => rfl
  | err e s => rfl
@[simp] theorem e_dic (ks fr) : cDic ks fr δ s = (fr δ s).bind fun ds s1 => .ok (.dic ks ds) s1 := rfl
end
def recD (a b : D) : D := .dic ["buyers", "things"] [a, b]
@[simp] theorem g_kb (a b : D) : gKey "buyers" (.dic ["buyers", "things"] [a, b]) = some a := by
  show keyAt ["buyers", "things"] [a, b] "buyers" = some a
  simp [keyAt]
@[simp] theorem g_kt (a b : D) : gKey "things" (.dic ["buyers", "things"] [a, b]) = some b := by
  show keyAt ["buyers", "things"] [a, b] "things" = some b
  have h : ¬ (("buyers" : Str) = "things") := by decide +kernel
  simp [keyAt, h]
theorem cut_from {α : Type} (l : List α) (k : Nat) (h : k ≤ l.length) : cutD l (some (k : Int)) none = l.drop k := by
  unfold cutD
  rw [HT.sIx_nat, HT.sIx_none, Nat.min_eq_left h]
  rw [← List.length_drop, List.take_length]
theorem cut_to {α : Type} (l : List α) (k : Nat) : cutD l none (some (k : Int)) = l.take k := by
  unfold cutD
  rw [HT.sIx_nat, HT.sIx_none, List.drop_zero, Nat.sub_zero]
  rcases Nat.le_total k l.length with h | h
  · rw [Nat.min_eq_left h]
  · rw [Nat.min_eq_right h, List.take_length, List.take_of_length_le h]
theorem cut_to' {α : Type} (l : List α) (k : Int) (h : 0 ≤ k) : cutD l none (some k) = l.take k.toNat := by
  obtain ⟨n, rfl⟩ : ∃ n : Nat, k = n := ⟨k.toNat, by omega⟩
  rw [cut_to]; simp
theorem cut_from' {α : Type} (l : List α) (k : Int) (h : 0 ≤ k) (h' : k ≤ l.length) : cutD l (some k) none = l.drop k.toNat := by
  obtain ⟨n, rfl⟩ : ∃ n : Nat, k = n := ⟨k.toNat, by omega⟩
  rw [cut_from _ _ (by omega)]; simp
theorem in_pure {β : Type} {tg c f δ} {enc : β → D} {p : β → Bool} {e : β → D} : ∀ {ys : List β} {acc : List D} {s : S}, acc.length + ys.length ≤ 100000 → (∀ y ∈ ys, ∃ δ1, tg (enc y) δ = some δ1 ∧ (∀ s, c δ1 s = .ok (p y) s) ∧ (p y = true → ∀ s, f δ1 s = .ok (e y) s)) → inL tg c f δ (ys.map enc) acc s = .ok (acc ++ (ys.filter p).map e) s
  | [], acc, s, _, _ => by simp [inL]
  | y :: ys, acc, s, hl, h => by
    obtain ⟨δ1, h1, h2, h3⟩ := h y (by simp)
    simp at hl
    rw [List.map_cons, inL, h1, lift_some, bind_ok, h2, bind_ok]
    cases hp : p y with
    | true =>
      rw [if_pos rfl, h3 hp, bind_ok, if_pos (by omega), in_pure (ys := ys) (acc := acc ++ [e y]) (by simp; omega) (fun z hz => h z (by simp [hz])), List.filter_cons, if_pos hp]
      simp
    | false =>
      rw [if_neg (by simp), in_pure (ys := ys) (acc := acc) (by omega) (fun z hz => h z (by simp [hz])), List.filter_cons, if_neg (by simp [hp])]
theorem out_pure {α β : Type} {tg src1 tg1 c1 f vs1 δ} {enc : α → D} {enc1 : β → D} {ys : α → List β} {p : α → β → Bool} {e : α → β → D} : ∀ {xs : List α} {acc : List D} {s : S}, acc.length + (xs.flatMap ys).length ≤ 100000 →
    (∀ x ∈ xs, ∃ δ1, tg (enc x) δ = some δ1 ∧ (∀ s, src1 δ1 s = .ok ((ys x).map enc1) s) ∧ ∀ y ∈ ys x, ∃ δ2, tg1 (enc1 y) (wipeD δ1 vs1) = some δ2 ∧ (∀ s, c1 δ2 s = .ok (p x y) s) ∧ (p x y = true → ∀ s, f δ2 s = .ok (e x y) s)) →
    outL [] tg cYes src1 tg1 c1 f vs1 δ (xs.map enc) acc s = .ok (acc ++ xs.flatMap fun x => ((ys x).filter (p x)).map (e x)) s
  | [], acc, s, _, _ => by simp [outL]
  | x :: xs, acc, s, hl, h => by
    obtain ⟨δ1, h1, h2, h3⟩ := h x (by simp)
    rw [List.flatMap_cons, List.length_append] at hl
    have hf := List.length_filter_le (p x) (ys x)
    rw [List.map_cons, outL, h1, lift_some, bind_ok, if_pos (freeW_nil _), e_yes, bind_ok, if_pos rfl, h2, bind_ok, in_pure (p := p x) (e := e x) (by omega) h3, bind_ok]
    rw [out_pure (xs := xs) (by rw [List.length_append, List.length_map]; omega) (fun z hz => h z (by simp [hz]))]
    simp
theorem Bd.add {n : Nat} {a b : Int} (h : Bd n a) (h' : Bd n b) : Bd (n + 1) (a + b) := by
  unfold Bd at *
  rw [Nat.pow_succ]; omega
theorem Bd.sum {n : Nat} : ∀ {l : List Int}, (∀ a ∈ l, Bd n a) → Bd (n + l.length) l.sum
  | [], _ => by simp [Bd]; exact Nat.two_pow_pos _
  | a :: l, h => by
    have ih := Bd.sum (l := l) fun b hb => h b (by simp [hb])
    rw [List.sum_cons, List.length_cons]
    exact Bd.add (n := n + l.length) ((h a (by simp)).mono (Nat.le_add_right _ _)) ih
theorem Bd.neg {n : Nat} {a : Int} (h : Bd n a) : Bd n (-a) := by unfold Bd at *; omega
theorem Bd.of_le {n : Nat} {a b : Int} (h : Bd n b) (h0 : 0 ≤ a) (h1 : a ≤ b) : Bd n a := by unfold Bd at *; omega
theorem for_find {α : Type} {tg F} {enc : α → D} (I : En → Prop) (p : α → Bool) (val : α → D) : ∀ {xs : List α} {δ : En} {s : S}, (∀ x ∈ xs, ∀ δ, I δ → ∃ δ1, tg (enc x) δ = some δ1 ∧ (p x = true → ∀ s, F δ1 s = .ok (.ret (val x)) s) ∧ (p x = false → ∃ δ2, I δ2 ∧ ∀ s, F δ1 s = .ok (.next δ2) s)) → I δ →
    (∀ x, xs.find? p = some x → forL tg F (xs.map enc) δ s = .ok (.ret (val x)) s) ∧ (xs.find? p = none → ∃ δ', I δ' ∧ forL tg F (xs.map enc) δ s = .ok (.next δ') s)
  | [], δ, s, _, hI => ⟨fun x h => by simp at h, fun _ => ⟨δ, hI, rfl⟩⟩
  | x :: xs, δ, s, h, hI => by
    obtain ⟨δ1, h1, h2, h3⟩ := h x (by simp) δ hI
    rw [List.map_cons, forL, h1, lift_some, bind_ok, List.find?_cons]
    cases hp : p x with
    | true =>
      refine ⟨fun y hy => ?_, fun hy => by simp at hy⟩
      cases hy
      rw [h2 hp, bind_ok]
    | false =>
      obtain ⟨δ2, k1, k2⟩ := h3 hp
      have ih := for_find I p val (xs := xs) (δ := δ2) (s := s) (fun z hz => h z (by simp [hz])) k1
      rw [k2, bind_ok]
      exact ih
/-! ### enumerate -/
def idx {α : Type} (xs : List α) : List (Nat × α) := (List.range xs.length).zip xs
theorem idx_map2 {α : Type} (xs : List α) : (idx xs).map (·.2) = xs := by unfold idx; rw [List.map_snd_zip]; simp
theorem idx_map1 {α : Type} (xs : List α) : (idx xs).map (·.1) = List.range xs.length := by unfold idx; rw [List.map_fst_zip]; simp
theorem idx_len {α : Type} (xs : List α) : (idx xs).length = xs.length := by unfold idx; simp
theorem idx_get {α : Type} {xs : List α} {i : Nat} {x : Nat × α} (h : (idx xs)[i]? = some x) : x.1 = i ∧ xs[i]? = some x.2 := by
  have h1 := congrArg (·[i]?) (idx_map1 xs)
  have h2 := congrArg (·[i]?) (idx_map2 xs)
  simp only [List.getElem?_map, h, Option.map_some] at h1 h2
  obtain ⟨a, b⟩ := List.getElem?_eq_some_iff.mp h1.symm
  rw [List.getElem_range] at b
  exact ⟨b.symm, h2.symm⟩
theorem idx_mem {α : Type} {xs : List α} {x : Nat × α} (h : x ∈ idx xs) : xs[x.1]? = some x.2 := by
  obtain ⟨i, hi, e⟩ := List.getElem_of_mem h
  have := idx_get (i := i) (x := x) (by rw [List.getElem?_eq_getElem hi, e])
  rw [this.1]; exact this.2
theorem idx_split {α : Type} {xs : List α} {pre post : List (Nat × α)} {x : Nat × α} (e : idx xs = pre ++ x :: post) : x.1 = pre.length ∧ xs[pre.length]? = some x.2 ∧ xs = pre.map (·.2) ++ x.2 :: post.map (·.2) := by
  have h := idx_get (xs := xs) (i := pre.length) (x := x) (by rw [e]; simp)
  refine ⟨h.1, h.2, ?_⟩
  conv => lhs; rw [← idx_map2 xs, e]
  simp
theorem enum_idx {α : Type} (enc : α → D) (xs : List α) : enumD (xs.map enc) = (idx xs).map fun p => .tup [.int (p.1 : Int), enc p.2] := by
  refine List.ext_getElem? fun i => ?_
  unfold enumD
  rw [List.getElem?_map, List.getElem?_map, List.length_map]
  rcases Nat.lt_or_ge i xs.length with h | h
  · rw [List.getElem?_range h]
    have hx : (idx xs)[i]? = some (i, xs[i]) := by
      have hl : i < (idx xs).length := by rw [idx_len]; exact h
      have := idx_get (xs := xs) (i := i) (x := (idx xs)[i]) (List.getElem?_eq_getElem hl)
      rw [List.getElem?_eq_getElem hl]
      rw [List.getElem?_eq_getElem h] at this
      congr 1
      exact Prod.ext this.1 (by simpa using this.2.symm)
    rw [hx]
    simp [List.getD_eq_getElem?_getD, h]
  · rw [List.getElem?_eq_none (by simpa using h), List.getElem?_eq_none (by rw [idx_len]; exact h)]; rfl
end PV

namespace PV
open PySem L2
/-! ### set(xs) of a list of ints, sorted -/
abbrev setO0 (w : World) : Obj := { cls := .type "set", dict := none, data := .set #[] 0 (.fresh 0 0 (!w.params.followText "set-order")) }
section
open PySem.Spec PyProof.Rows
variable {P : Program} {w : World} {A : Around} {E : Value → Shared → Prop} {s : Shared}
theorem call_set_lstI {lx : Addr} {xs : Array Value} (ks : List Int) {Q : Value → Shared → Prop} (ah : A.handled = none) (il : s.heap.IsList lx xs) (ia : IntsAre xs.toList ks) (few : ks.length + 1 < scanBound)
    (fin : ∀ (g : Heap) (tk c : Nat), SetR w g s.heap.objs.size (fun j => decide (j ∈ ks)) c → c ≤ ks.length → (∀ b o, s.heap.get? b = some o → g.get? b = some o) → Q (.ref s.heap.objs.size) { s with heap := g, toks := tk }) :
    wpAny (model P w) A (call (.type "set") [.ref lx]) Q E s := by
  have sz : xs.size = ks.length := by
    have z := IntsAre.length ia; rw [Array.length_toList] at z; exact z
  obtain ⟨_, _, mro'⟩ := F.called_set.mro
  have mk' := F.called_set.made; have sb' := F.called_set.sub
  refine wpAny_call (codeAny_of_tree (?_ : wpAny _ _ (callAny (.type "set") _) _ _ _))
  refine wpAny_pure ⟨Code.quiet_builtin _ (by decide +kernel), codeAny_builtin F.entry_type_call (?_ : _)⟩
  rw [Around.under_plain (weight_type_call_type "set" [.ref lx] []) rfl]
  have nt' := F.called_set.notType; have cc' := F.called_set.canCreate; have tc' := F.typeCall_set_1 (.ref lx)
  repeat (any_goals (first | assumption | wp_step | done))
  refine codeAny_mono (code_set_led1 (.ref lx) (E := E) (Q₁ := fun ob t₁ => ob = .ref s.heap.objs.size ∧ t₁ = { s with heap := s.heap.push (setO0 w) }) ⟨rfl, rfl⟩) fun r t₁ hr => ?_
  match r, hr with
  | .error e, hr => exact hr
  | .ok (.ret ob), hr =>
    obtain ⟨rfl, rfl⟩ := hr
    have at0 : (s.heap.push (setO0 w)).get? s.heap.objs.size = some (setO0 w) := Heap.get?_push_size _ rfl
    have ty0 : Shared.TypeIs { s with heap := s.heap.push (setO0 w) } (.ref s.heap.objs.size) "set" := ⟨_, at0, rfl⟩
    have li' := F.called_set.init.lookup; have bi' := F.called_set.init.bind (.ref s.heap.objs.size)
    repeat (any_goals (first | assumption | wp_step | done))
    refine codeAny_mono (codeAny_call_builtin (R := wants (fun r t₂ => r = .none ∧ ∃ g tk c, t₂ = { s with heap := g, toks := tk } ∧ SetR w g s.heap.objs.size (fun j => decide (j ∈ ks)) c ∧ c ≤ ks.length ∧ (∀ b o, s.heap.get? b = some o → g.get? b = some o)) E) F.called_set.init.plain F.entry_set_init (check_set_init_1 ty0 ?_)) fun r₂ t₂ hr₂ => ?_
    · obtain ⟨⟨oc, od, odt, osl⟩, ol, cl, nl, dl⟩ := il
      simp only at cl dl
      subst cl dl
      have ol' : (s.heap.push (setO0 w)).get? lx = some { cls := .type "list", dict := od, data := .seq xs nl, slots := osl } := Heap.get?_push_of_some _ ol
      have f1 := F.sub_list_set; have f2 := F.sub_list_frozenset
      have f3 : (Value.type "list" == Value.type "dict") = false := by decide
      have il1 : (s.heap.push (setO0 w)).IsList lx xs := ⟨_, ol', rfl, nl, rfl⟩
      unfold Builtin.«set.__init__» noKeywords Builtin.Frozenset.updateFrom
      generalize eIt : pyIter = PI
      wp_walk
      subst eIt
      refine wpAny_pyIter_list il1 (wpAny_bind (wpAny_runValue ?_))
      have lS : lx < s.heap.objs.size := Heap.lt_size ol
      have ah3 : A.in1.in1.in1.handled = none := by simp [ah]
      have z1 : (s.heap.push (setO0 w)).objs.size = s.heap.objs.size + 1 := Heap.size_push ..
      have neI : lx ≠ (s.heap.push (setO0 w)).objs.size := by rw [z1]; exact Nat.ne_of_lt (Nat.lt_succ_of_lt lS)
      have nin : s.heap.objs.size ∉ [(s.heap.push (setO0 w)).objs.size, lx] := by
        rw [z1]; simp only [List.mem_cons, List.not_mem_nil, or_false, not_or]
        exact ⟨fun z => Nat.lt_irrefl _ (Nat.lt_of_lt_of_eq (Nat.lt_succ_self _) z.symm), fun z => Nat.lt_irrefl _ (Nat.lt_of_lt_of_eq lS z)⟩
      have vals : ∀ (i : Nat) (v : Value), xs[i]? = some v → ∃ k t, ks[i]? = some k ∧ v = .int k t := fun i v hv => by
        have hi : i < ks.length := by rw [← sz]; exact (Array.getElem?_eq_some_iff.mp hv).1
        obtain ⟨t, e⟩ := PyProof.Rows.IntsAre.int_at ia i v (by rw [Array.getElem?_toList]; exact hv)
        exact ⟨ks[i], t, List.getElem?_eq_getElem hi, by rw [e, List.getD_eq_getElem?_getD, List.getElem?_eq_getElem hi] <;> rfl⟩
      refine set_update_ints ((Walks.list ah3 _ lx neI xs).toS) s.heap.objs.size nin ks sz few vals (xs.size - 0) 0 _ (by omega) (Nat.zero_le _) ⟨⟨_, Heap.get?_push_size _ rfl, rfl, rfl⟩, (il1.push _)⟩ ⟨0, Nat.le_refl 0, setR_new_at (Heap.get?_push_of_some _ at0)⟩ ?_
      intro t' c' mv lc' fS
      obtain ⟨g, gg, gd, tk', go⟩ := t'
      obtain rfl : gg = s.gens := mv.gens
      obtain rfl : gd = s.drawn := mv.drawn
      obtain rfl : go = s.os := mv.os
      show wpAny _ _ _ _ _ _
      refine wpAny_pure (?_ : wpAny _ _ (ret Value.none) _ _ _)
      rw [sz] at lc'
      refine wpAny_pure ⟨rfl, g, tk', c', rfl, fS, lc', fun b o e => ?_⟩
      have b0 : b < s.heap.objs.size := Heap.lt_size e
      refine mv.heap b o ?_ (Heap.get?_push_of_some _ (Heap.get?_push_of_some _ e))
      rw [z1]; simp only [List.mem_cons, List.not_mem_nil, or_false, not_or]
      exact ⟨fun z => Nat.lt_irrefl b (Nat.lt_of_lt_of_eq b0 z.symm), fun z => Nat.lt_irrefl b (Nat.lt_of_lt_of_eq (Nat.lt_succ_of_lt b0) z.symm)⟩
    · match r₂, hr₂ with
      | .error e, hr₂ => exact hr₂
      | .ok (.ret r), hr₂ =>
        obtain ⟨rfl, g, tk, c', rfl, fS, lc, kp⟩ := hr₂
        repeat (any_goals (first | assumption | wp_step | done))
        exact fin _ _ _ fS lc kp
end
def rSetI (K : PySem.W.Frag) (w : World) : List V → Hp → VK → Prop := fun vs H Q => ∃ (a : Addr) (ns : List Int), vs = [V.ref a] ∧ SqL K H a (ns.map V.int) ∧ ns.length ≤ 1000 ∧ ∀ p c, H p = none → c ≤ ns.length → Q (.ref p) (upd H p (SetO w p (fun j => decide (j ∈ ns)) c))
theorem cr_setI {X : Cx} (hc : X.calm = true) : CallR X (.type "set") (rSetI X.K X.w) := by
  intro pins s σ H vs us Q I r h
  obtain ⟨a, ns, rfl, hs, hn, q⟩ := h
  obtain ⟨its, rv, hl, _⟩ := I.list hs
  rw [Vals.ref1 r]
  refine call_set_lstI ns (I.ok.hd hc) hl.isList (by simpa using rv.ints) (by unfold scanBound; omega) fun g tk c R lc kp => ?_
  have hf : H s.heap.objs.size = none := I.hok.fresh (Nat.le_refl _)
  exact ⟨.ref s.heap.objs.size, _, I.laid (t' := tk) kp (Nat.le_refl _) (setO_new R), rfl, q _ c hf lc⟩
def ddp : List Int → List Int
  | [] => []
  | x :: xs => if x ∈ ddp xs then ddp xs else x :: ddp xs
theorem ddp_ok : ∀ xs : List Int, (ddp xs).Nodup ∧ ∀ k, k ∈ ddp xs ↔ k ∈ xs
  | [] => ⟨List.nodup_nil, fun k => by simp [ddp]⟩
  | x :: xs => by
    obtain ⟨h1, h2⟩ := ddp_ok xs
    unfold ddp
    split
    · rename_i h
      refine ⟨h1, fun k => ?_⟩
      rw [h2 k, List.mem_cons]
      refine ⟨.inr, fun z => z.elim (fun e => ?_) id⟩
      rw [e]; exact (h2 x).mp h
    · rename_i h
      refine ⟨List.nodup_cons.mpr ⟨h, h1⟩, fun k => ?_⟩
      rw [List.mem_cons, List.mem_cons, h2 k]
def sortS (ns : List Int) : List Int := sortI (ddp ns)
theorem sortS_pw (ns : List Int) : (sortS ns).Pairwise (· < ·) := by
  have h1 := sortI_sorted (ddp ns)
  have h2 : (sortI (ddp ns)).Nodup := (sortI_perm _).nodup_iff.mpr (ddp_ok ns).1
  exact (h1.and h2).imp fun {a b} h => by omega
theorem sortS_mem (ns : List Int) (k : Int) : k ∈ sortS ns ↔ k ∈ ns := by
  unfold sortS
  rw [(sortI_perm _).mem_iff, (ddp_ok ns).2]
theorem sortS_uniq {ns ms : List Int} (h1 : ms.Pairwise (· < ·)) (h2 : ∀ k, k ∈ ms ↔ k ∈ ns) : ms = sortS ns := by
  refine sort_uniq (le := (· ≤ ·)) (fun a b h1 h2 => by omega) (h1.imp fun {a b} h => by omega) ((sortS_pw ns).imp fun {a b} h => by omega) ?_
  refine (List.perm_ext_iff_of_nodup (h1.imp fun {a b} h => by omega) ((sortS_pw ns).imp fun {a b} h => by omega)).mpr fun k => ?_
  rw [h2, sortS_mem]
def gSortS : List D → Option D | [.lst ds] => (match asInts ds with | some ns => if ns.length < 64 then some (.lst ((sortS ns).map D.int)) else none | none => none) | _ => none
theorem g_sortS (ns : List Int) (h : ns.length < 64) : gSortS [.lst (ns.map D.int)] = some (.lst ((sortS ns).map D.int)) := by
  unfold gSortS
  simp [h]
theorem rd_sortS {B : Bs} {W : List Nat} {E : Option XK} {w : World} {tr : TA} {fr : En → M (List D)} (ha : RdA B W E tr fr) : RdE B W E (tCB (rSortedSet w) (tCons (tCB (rSetI B.K w) tr) tNil)) (cB gSortS fr) := by
  intro r sa H0 O0 O σ δ s H gd Q h
  refine ha gd _ (post_mono (post_bind h) (fun ds s1 hx v H1 st ra rp => ?_) (fun _ _ z => z))
  obtain ⟨d, e, hd⟩ := post_lift hx
  unfold gSortS at e
  split at e
  · split at e
    · rename_i ns hns
      split at e
      · rename_i hlen
        cases e
        obtain ⟨u, rfl, rq⟩ := rp.one
        obtain ⟨a, vs, rfl, h3, h4⟩ := rq.inv_lst
        rw [asInts_some hns] at h4
        rw [h4.ints] at h3
        refine ⟨a, ns, rfl, SqL.of (hid_le _ _ h3), by omega, fun p c hp hc => ?_⟩
        refine ⟨p, _, c, rfl, upd_same, by omega, fun ms q h1 h2 h5 hq => ?_⟩
        have em := sortS_uniq (ns := ns) h1 fun k => by rw [h2 k]; simp
        subst em
        have dom1 := (gd.step st ra).dom
        have dom2 : ∀ z ∈ O, upd H1 p (SetO w p (fun j => decide (j ∈ ns)) c) z ≠ none := fun z hz => by
          by_cases e : z = p
          · rw [e, upd_same]; exact fun z => nomatch z
          · rw [upd_ne e]; exact dom1 z hz
        exact hd _ _ (st.trans ((Stp.new hp).trans (Stp.new hq))) ((ra.new hp).new hq) (new_lst hq dom2 (Reps.of_ints _))
      · cases e
    · cases e
  · cases e
def cSortSO (i : Nat) : En → M D := fun δ s => (lift (ownL δ i) s).bind fun ds s0 => lift (gSortS [.lst ds]) s0
@[simp] theorem e_sortSO (i : Nat) {δ : En} {s : S} : cSortSO i δ s = (lift (ownL δ i) s).bind fun ds s0 => lift (gSortS [.lst ds]) s0 := rfl
theorem rd_sortSO {B : Bs} {W : List Nat} {E : Option XK} {w : World} {i : Nat} (hi : decide (i ∈ W) = true := by rfl) : RdE B W E (tCB (rSortedSet w) (tCons (tCB (rSetI B.K w) (tCons (tVar i) tNil)) tNil)) (cSortSO i) := by
  intro r sa H0 O0 O σ δ s H gd Q h
  obtain ⟨ds, e0, hp⟩ := post_lift (post_bind h)
  have e1 := ownL_some e0
  obtain ⟨a, vs, ds', h1, h2, h3, h4, h5, h6⟩ := gd.own i _ (of_decide_eq_true hi) e1
  cases h1
  obtain ⟨d, e, hd⟩ := post_lift hp
  unfold gSortS at e
  simp only at e
  split at e
  · rename_i ns hns
    split at e
    · rename_i hlen
      cases e
      rw [asInts_some hns] at h6
      rw [h6.ints] at h5
      refine ⟨_, h2, a, ns, rfl, SqL.of h5, by omega, fun p c hp hc => ?_⟩
      refine ⟨p, _, c, rfl, upd_same, by omega, fun ms q k1 k2 k5 hq => ?_⟩
      have em := sortS_uniq (ns := ns) k1 fun k => by rw [k2 k]; simp
      subst em
      have dom2 : ∀ z ∈ O, upd H p (SetO w p (fun j => decide (j ∈ ns)) c) z ≠ none := fun z hz => by
        by_cases e : z = p
        · rw [e, upd_same]; exact fun z => nomatch z
        · rw [upd_ne e]; exact gd.dom z hz
      exact hd _ _ ((Stp.new hp).trans (Stp.new hq)) ((gd.row.new hp).new hq) (new_lst hq dom2 (Reps.of_ints _))
    · cases e
  · cases e
/-! ### an owned list is handed on -/
def cMove (i j : Nat) : En → M Fl := fun δ s => (lift (ownL δ i) s).bind fun ds s0 => .ok (.next ((δ.set i none).set j (some (.lst ds)))) s0
@[simp] theorem e_move (i j : Nat) {δ : En} {s : S} : cMove i j δ s = (lift (ownL δ i) s).bind fun ds s0 => .ok (.next ((δ.set i none).set j (some (.lst ds)))) s0 := rfl
section
variable {B : Bs} {W : List Nat} {E : Option XK}
theorem Gd.forget {r sa : Addr} {H0 : Hp} {O0 O : List Addr} {σ : St} {δ : En} {s : S} {H : Hp} {i : Nat} {p : Addr} (g : Gd B r sa H0 O0 W O σ δ s H) (hi : i ∈ W) (hp0 : p ∉ O0) (hσ : σ[i]? = some (some (.ref p))) (hδ : ∃ d, δ[i]? = some (some d)) :
    Gd B r sa H0 O0 W (O.filter (· != p)) σ (δ.set i none) s H := by
  have hsub : ∀ a ∈ O.filter (· != p), a ∈ O := fun a h => (List.mem_filter.mp h).1
  have sm : Same (hid H O) (hid H (O.filter (· != p))) := hid_sub hsub
  have look : ∀ j d, (δ.set i none)[j]? = some (some d) → j ≠ i ∧ δ[j]? = some (some d) := fun j d q => by
    by_cases z : i = j
    · subst z
      rw [List.getElem?_set] at q
      split at q
      · split at q <;> cases q
      · rename_i z; exact absurd rfl z
    · rw [List.getElem?_set_ne z] at q; exact ⟨Ne.symm z, q⟩
  obtain ⟨d0, hd0⟩ := hδ
  refine ⟨by rw [List.length_set]; exact g.len, g.row, g.r0, fun q hq => g.dom q (hsub q hq), g.dom0, fun q hq => List.mem_filter.mpr ⟨g.sub q hq, ?_⟩, fun q hq => g.frsh q (hsub q hq), g.stp, fun j d hj q => ?_, fun j d hj q => ?_, fun j k p' d e hj hk ne q1 q2 => ?_⟩
  · have : q ≠ p := fun z => hp0 (z ▸ hq)
    simp [this]
  · obtain ⟨v, h1, h2⟩ := g.val j d hj (look j d q).2
    exact ⟨v, h1, h2.mono sm⟩
  · obtain ⟨z1, z2⟩ := look j d q
    obtain ⟨p', vs, ds, q1, q2, q3, q4, q5, q6⟩ := g.own j d hj z2
    have hne : p' ≠ p := fun z => g.inj j i p d d0 hj hi z1 z2 hd0 (z ▸ q2) hσ
    exact ⟨p', vs, ds, q1, q2, List.mem_filter.mpr ⟨q3, by simp [hne]⟩, q4, q5, q6.mono sm⟩
  · exact g.inj j k p' d e hj hk ne (look j d q1).2 (look k e q2).2
theorem rs_move {i j : Nat} (hi : decide (i ∈ W) = true := by rfl) (hj : decide (j ∉ W) = true := by rfl) : RdS B W E (tAsg (tVar i) (gName j)) (cMove i j) := by
  intro r sa H0 O0 O σ δ s H gd D hp
  obtain ⟨ds, e0, hp⟩ := post_lift (post_bind hp)
  have e1 := ownL_some e0
  obtain ⟨p, vs, ds', h1, h2, h3, h4, h5, h6⟩ := gd.own i _ (of_decide_eq_true hi) e1
  cases h1
  have g1 := gd.forget (of_decide_eq_true hi) h4 h2 ⟨_, e1⟩
  have sm : Same (hid H O) (hid H (O.filter (· != p))) := hid_sub fun a h => (List.mem_filter.mp h).1
  have pn : p ∉ O.filter (· != p) := fun z => by have := (List.mem_filter.mp z).2; simp at this
  have g2 := g1.set (i := j) (v := .ref p) (d := .lst ds) (of_decide_eq_true hj) (.lst (by rw [hid_out pn]; exact h5) (h6.mono sm))
  exact ⟨_, h2, hp _ _ H g2 sm⟩
/-- tuple(x) of an owned list -/
def cTupO (i : Nat) : En → M D := fun δ s => (lift (ownL δ i) s).bind fun ds s0 => .ok (.tup ds) s0
@[simp] theorem e_tupO (i : Nat) {δ : En} {s : S} : cTupO i δ s = (lift (ownL δ i) s).bind fun ds s0 => .ok (.tup ds) s0 := rfl
theorem rd_tupO {i : Nat} (hi : decide (i ∈ W) = true := by rfl) : RdE B W E (tCB (fun xs H Q => ∃ p ys, xs = [.ref p] ∧ ((SqL B.K H p ys ∧ ∀ l, H l = none → Q (.ref l) (upd H l (.tup ys))) ∨ (SqT B.K H p ys ∧ Q (.ref p) H))) (tCons (tVar i) tNil)) (cTupO i) := by
  intro r sa H0 O0 O σ δ s H gd Q h
  obtain ⟨ds, e0, hp⟩ := post_lift (post_bind h)
  have e1 := ownL_some e0
  obtain ⟨p, vs, ds', h1, h2, h3, h4, h5, h6⟩ := gd.own i _ (of_decide_eq_true hi) e1
  cases h1
  exact ⟨_, h2, p, vs, rfl, .inl ⟨SqL.of h5, fun l hl => hp _ _ (Stp.new hl) (gd.row.new hl) (new_tup hl gd.dom h6)⟩⟩
end
end PV

namespace PV
open PySem L2
/-! ### zip of lists and tuples, in any order -/
def SqB (K : PySem.W.Frag) (c : Bool) (H : Hp) (a : Addr) (xs : List V) : Prop := match c with | true => SqL K H a xs | false => SqT K H a xs
def ItB (c : Bool) (h : Heap) (it a : Addr) (i : Nat) : Prop := match c with | true => h.IsListIter it a i | false => h.IsTupleIter it a i
def HasB (c : Bool) (h : Heap) (a : Addr) (items : Array Value) : Prop := match c with | true => h.IsList a items | false => h.IsTuple a items
theorem ItB.at {c : Bool} {h h' : Heap} {it a : Addr} {i : Nat} (x : ItB c h it a i) (k : ∀ o, h.get? it = some o → h'.get? it = some o) : ItB c h' it a i := by
  cases c
  · exact Heap.IsTupleIter.at x k
  · exact Heap.IsListIter.at x k
theorem ItB.ob {c : Bool} {h : Heap} {it a : Addr} {i : Nat} (x : ItB c h it a i) : ∃ o, h.get? it = some o ∧ ∀ v, o.data ≠ .cell v := by
  cases c
  · obtain ⟨o, e, _, d⟩ := x
    exact ⟨o, e, fun v q => by rw [d] at q; cases q⟩
  · obtain ⟨o, e, _, d⟩ := x
    exact ⟨o, e, fun v q => by rw [d] at q; cases q⟩
theorem drawsB (c : Bool) {pr : Program} {w : World} {A : Around} (hh : A.handled = none) (it a : Addr) (hne : a ≠ it) (items : Array Value) :
    Draws pr w A it [it, a] items.size (fun i v => items[i]? = some v) (fun i h => ItB c h it a i ∧ HasB c h a items) := by
  cases c
  · exact Draws.tuple hh it a hne items
  · exact Draws.list hh it a hne items
def firstB (c : Bool) (a : Addr) : Obj := match c with | true => { cls := .type "list_iterator", data := .fields #[.ref a, .int 0 0] } | false => { cls := .type "tuple_iterator", data := .fields #[.ref a, .int 0 0] }
theorem beginsB (c : Bool) (a : Addr) (items : Array Value) : Begins (.ref a) (firstB c a) fun h => HasB c h a items := by
  cases c
  · exact begins_tuple a items
  · exact begins_list a items
theorem itB0 {c : Bool} {h : Heap} {it a : Addr} (e : h.get? it = some (firstB c a)) : ItB c h it a 0 := by
  cases c
  · exact ⟨_, e, rfl, rfl⟩
  · exact ⟨_, e, rfl, rfl⟩
section
variable {X : Cx} {pins : List (Addr × Obj)} {σ : L2.St} {H : Hp} {s : Shared}
theorem sqB_real {c : Bool} {a : Addr} {xs : List V} (I : Inv X pins σ H s) (q : SqB X.K c H a xs) : ∃ its : List Value, Vals xs its ∧ HasB c s.heap a its.toArray ∧ a < s.heap.objs.size := by
  cases c
  · obtain ⟨its, rv, p, _⟩ := I.tuple q
    have p' := p
    obtain ⟨o, ho, _⟩ := p'
    exact ⟨its, rv, p, Heap.lt_size ho⟩
  · obtain ⟨its, rv, p, _⟩ := I.list q
    exact ⟨its, rv, p.isList, p.lt⟩
theorem sqB_inj {c : Bool} {a : Addr} {xs ys : List V} (I : Inv X pins σ H s) (q : SqB X.K c H a xs) (q' : SqB X.K c H a ys) : xs = ys := by
  cases c
  · exact I.tuple_inj q q'
  · exact I.list_inj q q'
end
def ItzB (K : PySem.W.Frag) (c d : Bool) (a b : Addr) (n : Nat) : It :=
  ⟨fun i H => i < n ∧ ∃ (xs ys : List V) (x y : V), SqB K c H a xs ∧ SqB K d H b ys ∧ min xs.length ys.length = n ∧ xs[i]? = some x ∧ ys[i]? = some y,
   fun i H v H' => ∃ T x y, v = .ref T ∧ H T = none ∧ H' = upd H T (.tup [x, y]) ∧ (∀ xs, SqB K c H a xs → xs[i]? = some x) ∧ ∀ ys, SqB K d H b ys → ys[i]? = some y,
   fun i H => i = n ∧ ∃ xs ys : List V, SqB K c H a xs ∧ SqB K d H b ys ∧ min xs.length ys.length = n⟩
theorem turn_zipB {P : Program} {w : World} {K : PySem.W.Frag} {elts : List Expr} {kk : Nat} {tpos : Pos} {a b z TI TO i1 i2 : Addr} (c d : Bool) (n : Nat) (Z : ZipSep2 z TI TO i1 i2 [i1, a] [i2, b]) (na : a ≠ i1) (nb : b ≠ i2) :
    Turn P w K (.Tuple elts kk tpos) (ItzB K c d a b n) [z, TI, TO, i1, i2] z (fun i h => IsZip h z TI TO .none ∧ IsTupOf2 h TI (.ref i1) (.ref i2) ∧ (∃ u v, IsTupOf2 h TO u v) ∧ ItB c h i1 a i ∧ ItB d h i2 b i) where
  mem := by simp
  obj := fun i h st p hp => by
    obtain ⟨g1, g2, ⟨u, v, g3⟩, g4, g5⟩ := st
    rcases (by simpa using hp : p = z ∨ p = TI ∨ p = TO ∨ p = i1 ∨ p = i2) with e | e | e | e | e
    · rw [e]; exact ⟨_, g1, fun v q => nomatch q⟩
    · rw [e]; exact ⟨_, g2, fun v q => nomatch q⟩
    · rw [e]; exact ⟨_, g3, fun v q => nomatch q⟩
    · rw [e]; exact g4.ob
    · rw [e]; exact g5.ob
  keep := fun i h h' st k => by
    obtain ⟨g1, g2, ⟨u, v, g3⟩, g4, g5⟩ := st
    exact ⟨k z (by simp) _ g1, k TI (by simp) _ g2, ⟨u, v, k TO (by simp) _ g3⟩, g4.at fun o q => k i1 (by simp) o q, g5.at fun o q => k i2 (by simp) o q⟩
  item := by
    intro X hP hw hK hc i pins s σ H E I hf st hg
    subst hP hw hK
    obtain ⟨g1, g2, g3, g4, g5⟩ := st
    obtain ⟨hin, xs, ys, x, y, q1, q2, hn, hx, hy⟩ := hg
    obtain ⟨its, rv, p1, _⟩ := sqB_real I q1
    obtain ⟨jts, rw', p2, _⟩ := sqB_real I q2
    obtain ⟨u, hu, ru⟩ := rv.get hx
    obtain ⟨v, hv, rv'⟩ := rw'.get hy
    have hd : X.A.in1.handled = none := by have := I.ok.hd hc; exact this
    have G := GoesN.zip2 (prog := X.prog) (w := X.w) (A := X.A) (elts := elts) (x1 := kk) (pos := tpos) Z (drawsB c hd i1 a na its.toArray) (drawsB d hd i2 b nb jts.toArray)
    have l1 := rv.length
    have l2 := rw'.length
    refine G.goes i s _ E (by simp; omega) ⟨g1, g2, g3, ⟨g4, p1⟩, ⟨g5, p2⟩⟩ fun r h' tk hY st' hk htk => ?_
    obtain ⟨T, x', y', rfl, hT, e1, e2, tT⟩ := hY
    obtain ⟨k1, k2, k3, k4, k5⟩ := st'
    have ex : x' = u := by
      have z2 : its.toArray[i]? = some u := by simpa using hu
      exact Option.some.inj (e1.symm.trans z2)
    have ey : y' = v := by
      have z2 : jts.toArray[i]? = some v := by simpa using hv
      exact Option.some.inj (e2.symm.trans z2)
    subst ex ey
    have new : ObjOk X.prog X.w (upd H T (.tup [x, y])) h' T (.tup [x, y]) := ⟨by show 2 ≤ sizeLine; decide, [x', y'], .cons ru (.cons rv' .nil), tT⟩
    have I1 : Inv X pins σ (upd H T (.tup [x, y])) { s with heap := h', toks := tk } :=
      I.turnedNew (ch := [z, TI, TO, i1, i2]) (fun p o hp q => hk p o (fun w => hp (by rcases (by simpa using w : p = z ∨ p = TO ∨ p = i1 ∨ p = i2) with e | e | e | e <;> simp [e])) q) hf hT new
    refine ⟨.ref T, _, I1, rfl, ⟨T, x, y, rfl, I.hok.fresh hT, rfl, fun l hl => by rw [sqB_inj I hl q1]; exact hx, fun l hl => by rw [sqB_inj I hl q2]; exact hy⟩, ⟨k1, k2, k3, k4.1, k5.1⟩, fun p hp => ?_⟩
    have hlt : p < s.heap.objs.size := by
      obtain ⟨u3, v3, g3⟩ := g3
      rcases (by simpa using hp : p = z ∨ p = TI ∨ p = TO ∨ p = i1 ∨ p = i2) with e | e | e | e | e
      · rw [e]; exact Heap.lt_size g1
      · rw [e]; exact Heap.lt_size g2
      · rw [e]; exact Heap.lt_size g3
      · rw [e]; obtain ⟨_, w, _⟩ := g4.ob; exact Heap.lt_size w
      · rw [e]; obtain ⟨_, w, _⟩ := g5.ob; exact Heap.lt_size w
    rw [upd_ne (Nat.ne_of_lt (Nat.lt_of_lt_of_le hlt hT))]
    exact (hf p hp).1
  done := by
    intro X hP hw hK hc i pins s σ H E I hf st hg
    subst hP hw hK
    obtain ⟨g1, g2, g3, g4, g5⟩ := st
    obtain ⟨hin, xs, ys, q1, q2, hn⟩ := hg
    obtain ⟨its, rv, p1, _⟩ := sqB_real I q1
    obtain ⟨jts, rw', p2, _⟩ := sqB_real I q2
    have hd : X.A.in1.handled = none := by have := I.ok.hd hc; exact this
    have G := GoesN.zip2 (prog := X.prog) (w := X.w) (A := X.A) (elts := elts) (x1 := kk) (pos := tpos) Z (drawsB c hd i1 a na its.toArray) (drawsB d hd i2 b nb jts.toArray)
    have l1 := rv.length
    have l2 := rw'.length
    have hm : min its.toArray.size jts.toArray.size = i := by simp; omega
    refine G.stops s _ E (by rw [hm]; exact ⟨g1, g2, g3, ⟨g4, p1⟩, ⟨g5, p2⟩⟩) fun h' tk hk htk => ?_
    exact I.turnedL (t' := tk) (ch := [z, TI, TO, i1, i2]) (fun p o hp q => hk p o (fun w => hp (by rcases (by simpa using w : p = z ∨ p = TO ∨ p = i1 ∨ p = i2) with e | e | e | e <;> simp [e])) q) hf
  self := fun A i s Q E st h => wpAny_pyIter_zip st.1 h
def iZipB (K : PySem.W.Frag) (ta : TA) : TI := fun σ H R => ta σ H fun vs H1 => ∃ (c d : Bool) (a b : Addr) (xs ys : List V), vs = [.ref a, .ref b] ∧ SqB K c H1 a xs ∧ SqB K d H1 b ys ∧ R (ItzB K c d a b (min xs.length ys.length)) H1
theorem pi_zipB {X : Cx} {e e2 : Expr} {ta : TA} {p pos tpos : Pos} {elts : List Expr} {kk : Nat} (hg : Gl X "zip") (hm : X.mg "zip" = none) (ha : PA X [e, e2] ta)
    (s1 : starEach [e, e2] X.env = (false, eval e X.env) :: starEach [e2] X.env := by rfl) (s2 : (backTo pos (starEach [e2] X.env)).any (·.1) = false := by rfl) :
    PI X (.Tuple elts kk tpos) (.Call (.Name "zip" p) [e, e2] [] pos) (iZipB X.K ta) := by
  refine ⟨fun pins s σ H R I h => ?_⟩
  refine PyProof.Rows.Call_ (ld_blt I hg hm PyProof.Rows.boot_zip (PyProof.Rows.callWith_type1 (thn (ha.run pos pins s σ H _ I h) fun us t ⟨vs, H1, I1, r1, q⟩ => ?_) s1 s2))
  obtain ⟨c, d, a, b, xs, ys, rfl, q1, q2, q⟩ := q
  obtain ⟨u1, u2, rfl, ra, rb⟩ := vals2 r1
  obtain rfl : u1 = Value.ref a := ra
  obtain rfl : u2 = Value.ref b := rb
  obtain ⟨its, rv, p1, la⟩ := sqB_real I1 q1
  obtain ⟨jts, rw', p2, lb⟩ := sqB_real I1 q2
  refine zip_begins2 (beginsB c a its.toArray) (beginsB d b jts.toArray) p1 p2 fun h' z1 z2 z3 o1 o2 hsz hk => wpAny_pyIter_zip z1 ?_
  have I2 : Inv X pins σ H1 { t with heap := h' } := I1.kept (t' := t.toks) hk
  have S := zip_sep2 (N := t.heap.objs.size) (fp1 := [a]) (fp2 := [b]) (by simpa using la) (by simpa using lb)
  refine ⟨_, [t.heap.objs.size + 4, t.heap.objs.size + 2, t.heap.objs.size + 3, t.heap.objs.size, t.heap.objs.size + 1], _, _, H1, rfl, I2, turn_zipB c d (min xs.length ys.length) S (Nat.ne_of_lt la) (Nat.ne_of_lt (Nat.lt_succ_of_lt lb)), ⟨z1, z2, ⟨_, _, z3⟩, itB0 o1, itB0 o2⟩, fun x hx => ?_, q⟩
  have hle : t.heap.objs.size ≤ x := by
    rcases (by simpa using hx : x = t.heap.objs.size + 4 ∨ x = t.heap.objs.size + 2 ∨ x = t.heap.objs.size + 3 ∨ x = t.heap.objs.size ∨ x = t.heap.objs.size + 1) with e | e | e | e | e <;> rw [e] <;> first | exact Nat.le_refl _ | exact Nat.le_add_right _ _
  exact I1.fpOk hle (I1.hok.fresh hle)
def gZipB : List D → Option (List D)
  | [x, y] => match seqD x, seqD y with
    | some xs, some ys => some ((xs.zip ys).map fun p => .tup [p.1, p.2])
    | _, _ => none
  | _ => none
@[simp] theorem gZipB_LL (xs ys : List D) : gZipB [.lst xs, .lst ys] = some ((xs.zip ys).map fun p => .tup [p.1, p.2]) := rfl
@[simp] theorem gZipB_TT (xs ys : List D) : gZipB [.tup xs, .tup ys] = some ((xs.zip ys).map fun p => .tup [p.1, p.2]) := rfl
@[simp] theorem gZipB_LT (xs ys : List D) : gZipB [.lst xs, .tup ys] = some ((xs.zip ys).map fun p => .tup [p.1, p.2]) := rfl
theorem seqB {B : Bs} {r : Addr} {O : List Addr} {H : Hp} {v : V} {x : D} {xs : List D} (e : seqD x = some xs) (rp : Rep B r (hid H O) v x) : ∃ (c : Bool) (a : Addr) (vs : List V), v = .ref a ∧ Reps B r (hid H O) vs xs ∧ SqB B.K c H a vs ∧ ∀ H' O', Same (hid H O) (hid H' O') → SqB B.K c H' a vs := by
  cases x <;> simp [seqD] at e
  · subst e
    obtain ⟨a, vs, rfl, h1, h2⟩ := rp.inv_tup
    exact ⟨false, a, vs, rfl, h2, sqT_le h1, fun H' O' sm => sqT_le (same_t sm h1)⟩
  · subst e
    obtain ⟨a, vs, rfl, h1, h2⟩ := rp.inv_lst
    exact ⟨true, a, vs, rfl, h2, SqL.of (hid_le _ _ h1), fun H' O' sm => SqL.of (hid_le _ _ (sm _ _ h1))⟩
theorem ri_zipB {B : Bs} {W : List Nat} {E : Option XK} {ta : TA} {f : En → M (List D)} (ha : RdA B W E ta f) : RdI B W E (iZipB B.K ta) (cItA gZipB f) := by
  intro r sa H0 O0 O σ δ s H gd R h
  refine ha gd _ (post_mono (post_bind h) (fun x s1 hx v H1 st ra rp => ?_) (fun _ _ z => z))
  obtain ⟨ds, e, hd⟩ := post_lift hx
  unfold gZipB at e
  split at e
  · rename_i x y
    split at e
    · rename_i xs ys ex ey
      cases e
      obtain ⟨v1, v2, rfl, r1, r2⟩ := rp.two
      obtain ⟨c, a, vs, rfl, h2, q1, k1⟩ := seqB ex r1
      obtain ⟨d, b, ws, rfl, h4, q2, k2⟩ := seqB ey r2
      have l1 := h2.length
      have l2 := h4.length
      refine ⟨c, d, a, b, vs, ws, rfl, q1, q2, hd _ H1 st ra ?_⟩
      intro O' H2 sm hdm
      have e1 := k1 _ _ sm
      have e2 := k2 _ _ sm
      have hn : ((xs.zip ys).map fun p => D.tup [p.1, p.2]).length = min vs.length ws.length := by rw [List.length_map, List.length_zip]; omega
      refine ⟨fun i hi => ?_, ⟨hn, vs, ws, e1, e2, rfl⟩, fun i x H3 d hi hy => ?_⟩
      · rw [hn] at hi
        exact ⟨hi, vs, ws, vs[i]'(by omega), ws[i]'(by omega), e1, e2, rfl, by simp [show i < vs.length by omega], by simp [show i < ws.length by omega]⟩
      · obtain ⟨T, x', y', rfl, hT, rfl, z1, z2⟩ := hy
        obtain ⟨dx, dy, i1, i2, rfl⟩ := zip_get hi
        obtain ⟨u1, u2, u3⟩ := h2.get i dx i1
        obtain ⟨w1, w2, w3⟩ := h4.get i dy i2
        have ex := (z1 vs e1).symm.trans u2; cases ex
        have ey := (z2 ws e2).symm.trans w2; cases ey
        exact new_pair hT hdm (u3.mono sm) (w3.mono sm)
    · cases e
  · cases e
/-! ### sorted of a tuple of ints -/
section
open PyProof.Rows
theorem sortTup {pr : Program} {ww : World} {AA : Around} {EE : Value → Shared → Prop} {ss : Shared} {aa : Addr} {vv : List Value} {nn : List Int} {QQ : Value → Shared → Prop} (ht : ss.heap.IsTuple aa vv.toArray) (zz : vv.length ≤ sizeLine) (ii : IntsAre vv nn)
    (fin : ∀ (h1 h' : Heap) (e : Nat) (out : List Value) (ms : List Int), (∀ b o, ss.heap.get? b = some o → h1.get? b = some o) → (∀ b o, h1.get? b = some o → h'.get? b = some o) → h'.get? h1.objs.size = some (seqObj "list" out.toArray e) → IntsAre out ms → ms.Perm nn → ms.Pairwise (· ≤ ·) → QQ (.ref h1.objs.size) { ss with heap := h' }) :
    wpAny (model pr ww) AA (call (.builtin "sorted") [.ref aa]) QQ EE ss := by
  obtain ⟨oo, ho, hc, nx, hd⟩ := ht
  refine Calls.call_function_entry kind_sorted plain_sorted entry_sorted (args_sorted1 _) (by
    unfold Builtin.«sorted»
    refine wpAny_bind (m := checkCount "sorted" 1 1 _) (wpAny_pure (wpAny_bind (wpAny_collect_seq aa (.inr rfl) ho hc hd (fun h1 k1 => ?_) (by simpa using zz))))
    refine wpAny_bind (wpAny_newList ?_ (by simpa using zz))
    have new : (h1.push (seqObj "list" vv.toArray 0)).get? h1.objs.size = some (seqObj "list" vv.toArray 0) := Heap.get?_push_size _ rfl
    refine wpAny_bind (wpAny_holding (wpAny_call_entry slot_list_sort ⟨_, new, rfl⟩ entry_list_sort (SrtO.list_sort_ord SrtO.swo_int new zz (fun two => SrtO.ints_sortable ii two) fun out g1 g2 => ⟨_, rfl, wpAny_pure ⟨_, rfl, ?_⟩⟩) (args_list_sort _)))
    obtain ⟨m1, m2, m3⟩ := SrtO.ints_out ii g1 g2
    obtain ⟨ep, he⟩ := sortedHeap_at (vs := vv) (out := out.toArray) new
    refine fin h1 _ ep out _ k1 (fun b o e => ?_) he m1 m2 m3
    have lt := Heap.lt_size e
    rw [sortedHeap_old (Nat.ne_of_lt lt) (by rw [size_push']; exact Nat.lt_succ_of_lt lt)]
    exact Heap.get?_push_of_some _ e)
end
def rSortedTI (K : PySem.W.Frag) : List V → Hp → VK → Prop := fun vs H Q => ∃ (a : Addr) (ns : List Int), vs = [V.ref a] ∧ SqT K H a (ns.map V.int) ∧
  ∀ (ms : List Int) (p : Addr), ms.Perm ns → ms.Pairwise (· ≤ ·) → H p = none → Q (.ref p) (upd H p (.lst (ms.map V.int)))
theorem cr_sortedTI {X : Cx} : CallR X (.builtin "sorted") (rSortedTI X.K) := by
  intro pins s σ H vs us Q I r h
  obtain ⟨a, ns, rfl, hs, q⟩ := h
  obtain ⟨its, rv, ht, hz⟩ := I.tuple hs
  obtain ⟨u, rfl, ru⟩ := vals1 r
  obtain rfl : u = Value.ref a := ru
  refine sortTup ht (by rw [← rv.length]; exact hz) rv.ints fun h1 h' e out ms k1 k2 hp m1 m2 m3 => ?_
  have I1 : Inv X pins σ H { s with heap := h1 } := I.kept (t' := s.toks) k1
  have len : (ms.map V.int).length ≤ sizeLine := by
    rw [List.length_map, m2.length_eq]
    simpa using hz
  exact ⟨.ref _, upd H h1.objs.size (.lst (ms.map V.int)), I1.laid (t' := s.toks) k2 (Nat.le_refl _) ⟨len, out, e, vals_of_ints m1, hp⟩, rfl, q _ _ m2 m3 (I1.hok.fresh (Nat.le_refl _))⟩
def rSortedV (K : PySem.W.Frag) : List V → Hp → VK → Prop := fun vs H Q => rSortedU K vs H Q ∨ rSortedTI K vs H Q
theorem cr_sortedV {X : Cx} : CallR X (.builtin "sorted") (rSortedV X.K) := by
  intro pins s σ H vs us Q I r h
  rcases h with h | h
  · exact cr_sortedU pins s σ H vs us Q I r h
  · exact cr_sortedTI pins s σ H vs us Q I r h
def gSortedV : List D → Option D
  | [.tup ds] => match asInts ds with
    | some ns => some (.lst ((sortI ns).map D.int))
    | none => none
  | l => gSorted l
@[simp] theorem gSortedV_L (ds : List D) : gSortedV [.lst ds] = gSorted [.lst ds] := rfl
theorem g_sortTI (ns : List Int) : gSortedV [.tup (ns.map D.int)] = some (.lst ((sortI ns).map D.int)) := by simp [gSortedV]
theorem cs_sortedV {B : Bs} : CaS B (rSortedV B.K) gSortedV := by
  intro r O H xs ds d Q hd rp e q
  unfold gSortedV at e
  split at e
  · rename_i ds
    obtain ⟨v, rfl, rq⟩ := rp.one
    obtain ⟨a, vs, rfl, h3, h4⟩ := rq.inv_tup
    split at e
    · rename_i ns h1
      cases e
      rw [asInts_some h1] at h4
      rw [h4.ints] at h3
      refine .inr ⟨a, ns, rfl, sqT_le h3, fun ns' p hp hs hn => ?_⟩
      have e := sortI_uniq hp hs
      subst e
      exact q _ _ (same_new hn) (new_lst hn hd (Reps.of_ints _))
    · cases e
  · exact .inl (cs_sorted _ _ _ _ _ _ _ hd rp e q)
end PV

namespace PV
open PySem L2
/-! ### no error comes out -/
def quiet {α : Type} : Out α → Out α
  | .err _ _ => .stuck
  | .ok a s => .ok a s
  | .stuck => .stuck
def cQ {α : Type} (f : En → M α) : En → M α := fun δ s => quiet (f δ s)
@[simp] theorem quiet_ok {α : Type} (a : α) (s : S) : quiet (.ok a s) = .ok a s := rfl
@[simp] theorem quiet_stuck {α : Type} : quiet (.stuck : Out α) = .stuck := rfl
@[simp] theorem quiet_err {α : Type} (e : Err) (s : S) : quiet (.err e s : Out α) = .stuck := rfl
@[simp] theorem e_q {α : Type} (f : En → M α) (δ : En) (s : S) : cQ f δ s = quiet (f δ s) := rfl
theorem post_quiet {α : Type} {o : Out α} {P : α → S → Prop} {R R' : Err → S → Prop} (h : (quiet o).post P R) : o.post P R' := by
  cases o with
  | stuck => exact h
  | ok a s => exact h
  | err e s => exact h.elim
section
variable {B : Bs} {W : List Nat} {E : Option XK}
theorem rd_q {t : TE} {f : En → M D} (h : RdE B W none t f) : RdE B W E t (cQ f) := by
  intro r sa H0 O0 O σ δ s H gd Q hp
  exact h gd Q (post_quiet hp)
theorem rt_q {t : TT} {f : En → M Bool} (h : RdT B W none t f) : RdT B W E t (cQ f) := by
  intro r sa H0 O0 O σ δ s H gd Q hp
  exact h gd Q (post_quiet hp)
theorem ra_q {t : TA} {f : En → M (List D)} (h : RdA B W none t f) : RdA B W E t (cQ f) := by
  intro r sa H0 O0 O σ δ s H gd Q hp
  exact h gd Q (post_quiet hp)
theorem ri_q {t : TI} {f : En → M (List D)} (h : RdI B W none t f) : RdI B W E t (cQ f) := by
  intro r sa H0 O0 O σ δ s H gd Q hp
  exact h gd Q (post_quiet hp)
theorem rl_q {t : TE} {f : En → M (List D)} (h : RdL B W none t f) : RdL B W E t (cQ f) := by
  intro r sa H0 O0 O σ δ s H gd Q hp
  exact h gd Q (post_quiet hp)
theorem rs_q {t : TS} {F : En → M Fl} (h : RdS B W none t F) : RdS B W E t (cQ F) := by
  intro r sa H0 O0 O σ δ s H gd D hp
  exact h gd D (post_quiet hp)
/-! ### defs that may raise -/
def spX (B : Bs) (np : Nat) (F : List D → M D) : Sp := fun vs H Q E => vs.length = np ∧ ∃ (r sa : Addr) (O : List Addr) (ds : List D) (s : S), RowAt B r sa H s ∧ r ∈ O ∧ (∀ p ∈ O, H p ≠ none) ∧ Reps B r (hid H O) vs ds ∧ (F ds s).post (OkV B r sa H O Q) (EPost B (some E) r sa H O)
/-- called where nothing is let out -/
theorem rd_callX {np : Nat} {F : List D → M D} {tr : TA} {fr : En → M (List D)} (ha : RdA B W none tr fr) : RdE B W none (tCall (spX B np F) [] E0 tr) (cCall np F fr) := by
  intro r sa H0 O0 O σ δ s H gd Q h
  refine ha gd _ (post_mono (post_bind h) (fun x s1 hx v H1 st ra rp => ?_) (fun _ _ z => z))
  split at hx
  · rename_i hl
    rw [List.append_nil]
    exact ⟨by rw [rp.length]; exact hl, r, sa, O, x, s1, ra, gd.rO, (gd.step st ra).dom, rp, post_mono hx (fun d s2 q w H2 st2 ra2 rp2 => q w H2 (st.trans st2) ra2 rp2) (fun _ _ z => z.elim)⟩
  · exact hx.elim
/-- called where it is let out -/
theorem rd_callS {np : Nat} {F : List D → M D} {tr : TA} {fr : En → M (List D)} {E : XK} (ha : RdA B W (some E) tr fr) : RdE B W (some E) (tCallS (spX B np F) (fun _ => E) tr) (cCall np F fr) := by
  intro r sa H0 O0 O σ δ s H gd Q h
  refine ha gd _ (post_mono (post_bind h) (fun x s1 hx v H1 st ra rp => ?_) (fun _ _ z => z))
  split at hx
  · rename_i hl
    exact ⟨by rw [rp.length]; exact hl, r, sa, O, x, s1, ra, gd.rO, (gd.step st ra).dom, rp, post_mono hx (fun d s2 q w H2 st2 ra2 rp2 => q w H2 (st.trans st2) ra2 rp2) (fun _ _ z => z.mono st)⟩
  · exact hx.elim
/-- a def that raises nothing, its arguments may -/
def cCallQ (np : Nat) (F : List D → M D) (fr : En → M (List D)) : En → M D := fun δ s => (fr δ s).bind fun ds s1 => if ds.length = np then quiet (F ds s1) else .stuck
theorem rd_callQ {np : Nat} {F : List D → M D} {tr : TA} {fr : En → M (List D)} (ha : RdA B W E tr fr) : RdE B W E (tCall (spD B np F) [] E0 tr) (cCallQ np F fr) := by
  intro r sa H0 O0 O σ δ s H gd Q h
  refine ha gd _ (post_mono (post_bind h) (fun x s1 hx v H1 st ra rp => ?_) (fun _ _ z => z))
  split at hx
  · rename_i hl
    rw [List.append_nil]
    exact ⟨by rw [rp.length]; exact hl, r, sa, O, x, s1, ra, gd.rO, (gd.step st ra).dom, rp, post_mono (post_quiet (R' := fun _ _ => False) hx) (fun d s2 q w H2 st2 ra2 rp2 => q w H2 (st.trans st2) ra2 rp2) (fun _ _ z => z)⟩
  · exact hx.elim
theorem fnx_ok {P : Program} {w : World} {mg : Str → Option Value} {base : Heap} {x qual : Str} {st : Stmt} {f : Addr} {fd : FuncData} {N ps : List Str} {k : Nat} {body : En → M Fl} (F : Fun B.K x qual st f fd) (Sc : FnScope N ps (defScope st)) (hW : (W.all fun i => decide (ps.length ≤ i)) = true)
    (hb : ∀ (cdv : Value) (A : Around) (outer : List Env) (s : Shared) (H : Hp) (E : XK), Room k (A.deeper (PyProof.Rows.envOfC qual (defScope st) s.heap.objs.size f cdv)) →
      ∃ t, PSs (cxOf (L2.CX P w) P w B.K mg base N qual (defScope st) f cdv A outer s H E) (defBody st) t ∧ RdS B W (some E) t body) : FnOk P w B.K mg base (L2.CX P w) (k + 1) f fd ps (spX B ps.length (runD ps.length N.length body)) := by
  refine F.okX Sc (fun vs H Q E h => h.1) (fun cdv A outer s H vs Q E hr h => ?_)
  obtain ⟨t, hP, hR⟩ := hb cdv A outer s H E hr
  obtain ⟨hl, r, sa, O, ds, s0, ra, hrO, hdom, rp, hp⟩ := h
  refine ⟨t, hP, ?_⟩
  have hds : ds.length = ps.length := by rw [← rp.length]; exact hl
  have hp : ((body (startD N.length ds) s0).bind endD).post (OkV B r sa H O Q) (EPost B (some E) r sa H O) := by
    have e : runD ps.length N.length body ds s0 = (body (startD N.length ds) s0).bind endD := by unfold runD; rw [if_pos hds]
    rw [← e]; exact hp
  have gd : Gd B r sa H O W O (L2.start N vs) (startD N.length ds) s0 H := by
    refine ⟨?_, ra, hrO, hdom, hdom, fun _ h => h, fun _ h => .inl h, Stp.refl H, fun i d hi q => ?_, fun i d hi q => ?_, fun i j p d e hi hj ne q => ?_⟩
    · unfold L2.start startD; simp [rp.length]
    · obtain ⟨v, h1, h2⟩ := rp.get i d (startD_some q)
      refine ⟨v, ?_, h2⟩
      rw [start_get, if_pos (List.getElem?_eq_some_iff.mp h1).1, h1]; rfl
    · have h1 := startD_some q
      have h2 := (List.getElem?_eq_some_iff.mp h1).1
      have h3 := of_decide_eq_true (List.all_eq_true.mp hW i hi)
      omega
    · have h1 := startD_some q
      have h2 := (List.getElem?_eq_some_iff.mp h1).1
      have h3 := of_decide_eq_true (List.all_eq_true.mp hW i hi)
      omega
  refine hR gd _ (post_mono (post_bind hp) (fun fl s1 hx => ?_) (fun _ _ z => z))
  cases fl with
  | next δ' => exact fun O' σ' H' g' _ => hx .non H' g'.stp g'.row .non
  | ret d => exact fun v H' st' ra' rp' => hx v H' st' ra' rp'
  | brk δ' => exact hx.elim
  | cont δ' => exact hx.elim
/-! ### raise -/
def cRaise (c : Str) (fr : En → M (List D)) : En → M Fl := fun δ s => (fr δ s).bind fun ds s1 => .err ⟨c, ds.reverse⟩ s1
@[simp] theorem e_raise (c : Str) (fr : En → M (List D)) (δ : En) (s : S) : cRaise c fr δ s = (fr δ s).bind fun ds s1 => .err ⟨c, ds.reverse⟩ s1 := rfl
theorem rs_raise0 {c : Str} {E : XK} : RdS B W (some E) (fun _ σ H => E (.ref (B.xc c)) none H) (cRaise c cNil) := by
  intro r sa H0 O0 O σ δ s H gd D h
  exact h _ _ H gd.stp gd.row ⟨rfl, .inl rfl⟩
end
/-! ### an own error class is made -/
/-- C.__init__(self), which calls its base's alone -/
def spI0 (C : Addr) : Sp := fun vs H Q _ => ∃ a : Addr, vs = [.ref a] ∧ H a = some (exo a C none) ∧ Q .non H
/-- C.__init__(self, f), which keeps f -/
def spI1 (C : Addr) (f : Str) : Sp := fun vs H Q _ => ∃ (a : Addr) (y : V), vs = [.ref a, y] ∧ H a = some (exo a C none) ∧ ∀ dx, H dx = none → dx ≠ a → Q .non (upd (upd H dx (exd dx [(f, y)])) a (exo a C (some dx)))
open PySem.Spec PyProof.Rows in
theorem pe_clinit {X : Cx} {e : Expr} {es : List Expr} {ta : TA} {p1 p2 pos : Pos} {x : Str} {CF : Addr} {pl : Sem Bool} (hg : Gl X x) (hm : X.mg x = some (.ref CF)) (hsp : PySem.W.specialIn X.K (.ref CF) "__getattribute__" = some (some (.builtin "type.__getattribute__")))
    (hty : PySem.W.typeIn X.K (.ref CF) = some (.type "type")) (hrd : PySem.W.readsIn X.K CF (.type "type") = true) (hfc : PySem.W.findCls X.K (.ref CF) (.type "type") "__init__" = some (.val (.builtin "ValueError.__init__"))) (ha : PA X (e :: es) ta)
    (hc : eval (.Call (.Attribute (.Name x p1) "__init__" p2) (e :: es) [] pos) X.env = (do
      let ov ← eval (.Name x p1) X.env
      standAt p2.atName
      let (f, first) ← holding [ov] (getMethod ov "__init__" pl)
      callWith pos f first (backTo pos (starEach (e :: es) X.env)) (backToKw pos (keywordEach [] X.env))) := by rfl)
    (hdb : (x == ("__debug__" : Str)) = false := by decide) (he : starEach (e :: es) X.env = (false, eval e X.env) :: starEach es X.env := by rfl) (hpl : (backTo pos (starEach es X.env)).any (·.1) = false := by rfl) :
    PE X (.Call (.Attribute (.Name x p1) "__init__" p2) (e :: es) [] pos) (tVeI X.K ta) := by
  refine ⟨fun pins s σ H Q I h => PySem.W.methodCall_KW (ld_glob I hg hm ?_ hdb) hc⟩
  obtain ⟨m, fr⟩ := I.fr
  refine PySem.W.method_of_cls fr I.ok.mod.kin hsp (PySem.W.cls_val fr I.ok.mod.kin hty hrd hfc (by decide +kernel) ?_)
  show wpAny _ _ (callWith pos (Value.builtin "ValueError.__init__") [] (backTo pos (starEach (e :: es) X.env)) []) _ _ _
  refine PyProof.Rows.callWith_method1 (thn (ha.run pos pins _ σ H _ (I.tok _) h) fun us s1 hz => ?_) he hpl
  obtain ⟨vs, H1, I1, r1, a, C, ws, ev, hl, T, ea, q⟩ := hz
  subst ev
  cases r1 with
  | @cons _ u0 _ ur ra rw' =>
    obtain rfl : u0 = Value.ref a := ra
    have hlen : ur.length ≤ sizeLine := by rw [← Paired.length rw', sizeLine_eq]; omega
    exact oinit_ok T I1 ea hlen fun s' J => ⟨.non, H1, J, rfl, q⟩
open PySem.Spec PyProof.Rows in
theorem pmk_x0 {X : Cx} {x : Str} {C fI : Addr} {k : Nat} {fd : FuncData} {ps : List Str} {p pos : Pos} (T : OexC X.K C) (iC : PySem.W.findIn X.K (.ref C) "__init__" = some (some (.ref fI))) (tI : PySem.W.typeIn X.K (.ref fI) = some (.type "function"))
    (F1 : FnOk X.prog X.w X.K X.mg X.base CX0 k fI fd ps (spI0 C)) (hr : Room (k + 1) X.A) (hb : Binds X.K fd ps []) (hg : Gl X x) (hm : X.mg x = some (.ref C)) (hdb : (x == ("__debug__" : Str)) = false := by decide) :
    PMk X (.Call (.Name x p) [] [] pos) (fun _ H Q => Q (.ref C) none H) := by
  intro pins s σ H Q I h
  obtain ⟨nm, q, N, bs, bm, sn, sub, ab, col, dd, k0, k1, k2, k3, k5, hC, hbm⟩ := T.cls
  refine wpAny_Call_Name_kw (ld_glob I hg hm ?_ hdb)
  refine PySem.W.callWith_K0 I.kIn T.kC ?_
  show wpAny _ _ (call (.ref C) []) _ _ _
  obtain ⟨hp, g, dr, tk, os⟩ := s
  have hsz : hp.objs.size ≤ hp.objs.size + 1 := Nat.le_succ _
  have hn : H (hp.objs.size + 1) = none := I.hok.fresh hsz
  have kk : ∀ b o, hp.get? b = some o → ((hp.push (PySem.W.kdv_tup [])).push (PySem.HandSPX.excO C hp.objs.size)).get? b = some o := fun b o e => Heap.get?_push_of_some _ (Heap.get?_push_of_some _ e)
  have hget : ((hp.push (PySem.W.kdv_tup [])).push (PySem.HandSPX.excO C hp.objs.size)).get? (hp.objs.size + 1) = some (PySem.HandSPX.excO C hp.objs.size) := by heap_get
  have I2 : Inv X pins σ (upd H (hp.objs.size + 1) (exo (hp.objs.size + 1) C none)) ⟨(hp.push (PySem.W.kdv_tup [])).push (PySem.HandSPX.excO C hp.objs.size), g, dr, tk, os⟩ :=
    I.laid (t' := tk) (a := hp.objs.size + 1) (o := exo (hp.objs.size + 1) C none) (h' := (hp.push (PySem.W.kdv_tup [])).push (PySem.HandSPX.excO C hp.objs.size)) kk hsz (exo_ok hget)
  have r2 : Vals [V.ref (hp.objs.size + 1)] [Value.ref (hp.objs.size + 1)] := .cons rfl .nil
  have hq : spI0 C [V.ref (hp.objs.size + 1)] (upd H (hp.objs.size + 1) (exo (hp.objs.size + 1) C none)) (fun v H2 => v = .non ∧ H2 = upd H (hp.objs.size + 1) (exo (hp.objs.size + 1) C none)) (fun _ _ _ => False) := ⟨_, rfl, upd_same, rfl, rfl⟩
  have hl : [Value.ref (hp.objs.size + 1)].length = ps.length := F1.len _ _ _ _ hq
  refine wpAny_call (PySem.HandSPX.call_own F.excBase_ValueError (fun Y => PySem.HandSPX.refsVE_contains Y bm hbm) (I.kIn _ _ hC) (PySem.W.looks_findIn I.kIn iC) (fun self => PySem.W.bind_fn I.kIn self tI) (by show 0 ≤ _; exact Nat.zero_le _)
    (codeAny_mono (F1.run _ X.stack _ _ ⟨[Value.ref (hp.objs.size + 1)], []⟩ [Value.ref (hp.objs.size + 1)] _ _ (fun _ _ _ => False) (hr.make C [] []) (I2.env0.make C [] []) (by have := hb _ [Value.ref (hp.objs.size + 1)] I2.kIn (by simpa using hl); simpa using this) r2 hq) fun r s' hq' => ?_))
  cases r with
  | error er => exact hq'.elim
  | ok fl =>
    cases fl with
    | ret u =>
      obtain ⟨v, H2, os2, bare2, un2, hok2, rv, ev, eH⟩ := hq'
      subst ev
      subst eH
      obtain ⟨h2, g2, d2, t2, os'⟩ := s'
      refine ⟨rv, ?_⟩
      generalize hea : hp.objs.size + 1 = a at *
      have ea : upd H a (exo a C none) a = some (exo a C none) := upd_same
      obtain ⟨t0, hoe⟩ := exo_at hok2 ea
      obtain ⟨G, g1', g2'⟩ := restrict h2 fun b => decide (b ≠ a)
      have gk : ∀ b, b ≠ a → G.get? b = h2.get? b := fun b hb => g1' b (decide_eq_true hb)
      have ge : G.get? a = none := g2' a (by simp)
      have nha : ∀ {b : Addr} {o : Obj}, hp.get? b = some o → b ≠ a := fun {b o} z => Nat.ne_of_lt (Nat.lt_of_lt_of_le (Heap.lt_size z) hsz)
      have up : ∀ {b : Addr}, b ≠ a → H b = none → upd H a (exo a C none) b = none := fun {b} hb n => by rw [upd_ne hb]; exact n
      have U : Un (frs X.stack) [] H H hp G := {
        keep := fun b o z n hf hx => by rw [gk b (nha z)]; exact un2.keep b o (kk b o z) (up (nha z) n) hf hx
        slot := fun b o z n hf hx => by rw [gk b (nha z)]; exact un2.slot b o (kk b o z) (up (nha z) n) hf hx
        free := fun b o z n hx => n
        there := fun b o z hx => by rw [gk b (nha z)]; exact un2.there b o (kk b o z) hx
        tups := fun b xs z => z
        frzs := fun b o v z => z
        tbls := fun b ps z => ⟨#[], by rw [z]; simp⟩ }
      have hok3 : HOk X.prog X.w H G := fun b o z => by
        have hba : b ≠ a := fun e => by rw [e, hn] at z; cases z
        have z' : upd H a (exo a C none) b = some o := by rw [upd_ne hba]; exact z
        have noa : ∀ {c : Addr}, upd H a (exo a C none) c = some (.own b) → c ≠ a := fun {c} hc => at_ne ea hc exo_own
        refine (hok2 b o z').stay (fun c v hc y => ?_) (fun c hc => ?_) (fun c xs hc => ?_)
        · have hca : c ≠ a := hc.elim (fun e => by rw [e]; exact hba) noa
          rw [gk c hca]; exact y
        · rw [upd_ne (noa hc)] at hc; exact hc
        · rw [upd_ne (at_ne ea hc exo_tup)] at hc; exact hc
      have J : Inv X pins σ H ⟨G, g2, d2, t2, os'⟩ := I.call' (ch := []) os2 U hok3 bare2 (fun b z => absurd z (by simp))
      exact ⟨a, _, _, ⟨G, g2, d2, t2, os'⟩, H, .ref C, none, rfl, J, fun b o z => by
        by_cases hba : b = a
        · rw [hba, ge] at z; cases z
        · exact (gk b hba).symm.trans z, ge, hoe, ⟨rfl, rfl⟩, rfl, rfl, hn, rfl, bare2, raises_own T.exC T.tyC, h⟩
    | next => exact hq'.elim
    | brk => exact hq'.elim
    | cont => exact hq'.elim
end PV

namespace PV
open PySem L2
/-! ### a statement that lets nothing out -/
theorem ps_nox {X : Cx} {st : Stmt} {t : TS} (h : PS X.nox st t) : PS X st t := ⟨fun pins s σ H D I hw =>
  wpAny_mono (h.run pins s σ H D (I.wish _) hw) (fun f s1 q => q.unwish) fun e s1 z => z.elim⟩
/-! ### the error classes -/
section
variable {P : Program} {w : World} {K : PySem.W.Frag} {mg : Str → Option Value} {base : Heap} {x qual : Str} {st : Stmt} {f : Addr} {fd : FuncData} {N ps : List Str} {k : Nat} {C : Addr}
theorem init0_ok {m : Str} (F : Fun K x qual st f fd) (Sc : FnScope N ps (defScope st)) (hN : N.length = 1) (hp : ps.length = 1) (T : OexC K C)
    (hb : ∀ (cdv : Value) (A : Around) (outer : List Env) (s : Shared) (H : Hp) (E : XK), Room k (A.deeper (PyProof.Rows.envOfC qual (defScope st) s.heap.objs.size f cdv)) →
      PSs (cxOf CX0 P w K mg base N qual (defScope st) f cdv A outer s H E).nox (defBody st) (tDrop (tVeI K (tCons (tVar 0) (tCons (tC (.str m)) tNil))))) : FnOk P w K mg base CX0 (k + 1) f fd ps (spI0 C) := by
  refine F.ok Sc (fun vs H Q E h => ?_) (fun cdv A outer s H vs Q E hr h => ⟨_, hb cdv A outer s H E hr, ?_⟩)
  · obtain ⟨a, rfl, _⟩ := h; exact hp.symm
  · obtain ⟨a, rfl, ha, q⟩ := h
    have hs : L2.start N [V.ref a] = [some (.ref a)] := by unfold L2.start; rw [hN]; rfl
    rw [hs]
    exact ⟨_, rfl, a, C, _, rfl, (by show 1 ≤ 1000; decide), T, ha, q⟩
theorem init1_ok {m fl : Str} (F : Fun K x qual st f fd) (Sc : FnScope N ps (defScope st)) (hN : N.length = 2) (hp : ps.length = 2) (T : OexC K C) (hno : PySem.W.findIn K (.ref C) fl = some none)
    (hb : ∀ (cdv : Value) (A : Around) (outer : List Env) (s : Shared) (H : Hp) (E : XK), Room k (A.deeper (PyProof.Rows.envOfC qual (defScope st) s.heap.objs.size f cdv)) →
      PSs (cxOf CX0 P w K mg base N qual (defScope st) f cdv A outer s H E).nox (defBody st) (tSeq (tDrop (tVeI K (tCons (tVar 0) (tCons (tC (.str m)) tNil)))) (tOst K fl (tVar 0) (tVar 1)))) : FnOk P w K mg base CX0 (k + 1) f fd ps (spI1 C fl) := by
  refine F.ok Sc (fun vs H Q E h => ?_) (fun cdv A outer s H vs Q E hr h => ⟨_, hb cdv A outer s H E hr, ?_⟩)
  · obtain ⟨a, y, rfl, _⟩ := h; exact hp.symm
  · obtain ⟨a, y, rfl, ha, q⟩ := h
    have hs : L2.start N [V.ref a, y] = [some (.ref a), some y] := by unfold L2.start; rw [hN]; rfl
    rw [hs]
    exact ⟨_, rfl, a, C, _, rfl, (by show 1 ≤ 1000; decide), T, ha, _, rfl, _, rfl, a, C, rfl, T, hno, .inl ⟨ha, fun dx h1 h2 => q dx h1 h2⟩⟩
end
section
variable {B : Bs} {W : List Nat} {E : Option XK}
/-- raise C(e) -/
theorem rs_raise1 {c fl : Str} {E : XK} {fa : En → M D} {te : TE} (hf : xFl c = [fl]) (ha : RdE B W none te fa) : RdS B W (some E) (fun _ σ H => tMkO (B.xc c) (spI1 (B.xc c) fl) [] (tCons te tNil) σ H fun cls d H' => E cls d H') (cRaise c (cQ (cCons fa cNil))) := by
  intro r sa H0 O0 O σ δ s H gd D h
  have h := post_quiet (o := cCons fa cNil δ s) (R' := fun _ _ => False) (P := fun (ds : List PV.D) s1 => (Out.err ⟨c, ds.reverse⟩ s1 : Out Fl).post (FlP B r sa H0 O0 W O H D) (EPost B (some E) r sa H0 O0)) (R := fun _ _ => False) (by
    cases q : cCons fa cNil δ s with
    | stuck => have z : (cRaise c (cQ (cCons fa cNil)) δ s) = .stuck := by unfold cRaise cQ; rw [q]; rfl
               rw [z] at h; exact h.elim
    | err e s1 => have z : (cRaise c (cQ (cCons fa cNil)) δ s) = .stuck := by unfold cRaise cQ; rw [q]; rfl
                  rw [z] at h; exact h.elim
    | ok ds s1 => have z : (cRaise c (cQ (cCons fa cNil)) δ s) = .err ⟨c, ds.reverse⟩ s1 := by unfold cRaise cQ; rw [q]; rfl
                  rw [z] at h; exact h)
  refine ha gd _ (post_mono (post_bind h) (fun x s1 hx v H1 st ra rp => ?_) (fun _ _ z => z))
  have hx : EPost B (some E) r sa H0 O0 ⟨c, [x]⟩ s1 := hx
  have gd1 := gd.step st ra
  refine ⟨(by show 1 ≤ 1000; decide), fun a hn => ⟨a, v, rfl, upd_same, fun dx h1 h2 => ⟨rfl, dx, [(fl, v)], upd_same, ?_, ?_, ?_⟩⟩⟩
  · rw [upd_ne h2, upd_same]
  · rw [upd_ne h2] at h1; exact h1
  · have n1 : H1 dx = none := by rw [upd_ne h2] at h1; exact h1
    have eH : upd (L2.del (upd (upd (upd H1 a (exo a (B.xc c) none)) dx (exd dx [(fl, v)])) a (exo a (B.xc c) (some dx))) a) dx (.xd [(fl, v)]) = upd H1 dx (.xd [(fl, v)]) := by
      funext b
      by_cases hb : b = dx
      · rw [hb, upd_same, upd_same]
      · rw [upd_ne hb, upd_ne hb]
        by_cases hb2 : b = a
        · rw [hb2, del_same, hn]
        · rw [del_ne hb2, upd_ne hb2, upd_ne hb, upd_ne hb2]
    have dO : dx ∉ O0 := fun z => gd1.dom dx (gd1.sub dx z) n1
    have dr : dx ≠ r := fun z => dO (z ▸ gd.r0)
    show E (.ref (B.xc c)) (some dx) _
    rw [eH]
    have st1 : Stp r H0 (upd H1 dx (.xd [(fl, v)])) := (gd.stp.trans st).trans (Stp.new n1)
    refine hx _ _ _ st1 (ra.new n1) ⟨rfl, .inr ⟨dx, _, [v], rfl, by rw [hid_out dO, upd_same], by rw [hf]; rfl, .cons (rp.mono ?_) .nil⟩⟩
    exact (hid_sub gd1.sub).trans (hid_same (same_new n1))
end
/-! ### try: .. except C: .. except D as n: .. -/
abbrev endAs (D : Ends) (i : Nat) : Ends := { nx := fun σ' H' => D.nx (σ'.set i none) H', rt := D.rt, bk := fun σ' H' => D.bk (σ'.set i none) H', ct := fun σ' H' => D.ct (σ'.set i none) H' }
abbrev Hd1 := Value × Option Nat × (Addr → Value → Option Addr → TS)
def hdGo (ts : Addr → Value → Option Addr → TS) (D : Ends) (a : Addr) (cls : Value) (d : Option Addr) (σ : St) (H : Hp) : Option Nat → Prop
  | none => ts a cls d D σ H
  | some i => ts a cls d (endAs D i) (σ.set i (some (.ref a))) H
def wMix (K : PySem.W.Frag) (Wo : WX) (D : Ends) : List Hd1 → WX
  | [] => Wo
  | h :: r => fun cls d σ H => ∃ b, PySem.W.exmOne K cls h.1 = some b ∧ (b = true → ∀ a, H a = none → hdGo h.2.2 D a cls d σ H h.2.1) ∧ (b = false → wMix K Wo D r cls d σ H)
inductive HdX (X : Cx) : List ExceptHandler → List Hd1 → Prop
  | nil : HdX X [] []
  | bare {x : Str} {c : Value} {ts : Addr → Value → Option Addr → TS} {b0 : Stmt} {su : List Stmt} {np pp : Pos} {hds : List ExceptHandler} {l : List Hd1} (hc : Names X x c)
      (hsu : ∀ (a : Addr) (oe : Obj) (cls : Value) (d : Option Addr) (pn : List (Addr × Obj)), Zc cls d oe → (∃ vs, oe.data = .fields vs) → PSs (X.suite a ((a, oe) :: pn)) (b0 :: su) (ts a cls d)) (r : HdX X hds l) :
      HdX X (.ExceptHandler (some (.Name x np)) none (b0 :: su) pp :: hds) ((c, none, ts) :: l)
  | named {x n : Str} {i : Nat} {c : Value} {ts : Addr → Value → Option Addr → TS} {b0 : Stmt} {su : List Stmt} {np pp : Pos} {hds : List ExceptHandler} {l : List Hd1} (hN : X.N.Nodup) (hi : X.N[i]? = some n) (hln : X.env.kindOf n = some .local) (hc : Names X x c)
      (hsu : ∀ (a : Addr) (oe : Obj) (cls : Value) (d : Option Addr) (pn : List (Addr × Obj)), Zc cls d oe → (∃ vs, oe.data = .fields vs) → PSs (X.suite a ((a, oe) :: pn)) (b0 :: su) (ts a cls d)) (r : HdX X hds l) :
      HdX X (.ExceptHandler (some (.Name x np)) (some n) (b0 :: su) pp :: hds) ((c, some i, ts) :: l)
open PySem.Spec PyProof.Rows in
theorem ps_try_mix {X : Cx} {body : List Stmt} {h0 : ExceptHandler} {hds : List ExceptHandler} {l : List Hd1} {pos : Pos} {tb : WX → TS} {Wo : WX} (hs : X.stack = X.env :: X.outer) (hf : X.env.frame = some X.env.locals) (tk : Takes X Wo)
    (hb : ∀ (W : WX) (pn : List (Addr × Obj)) (xe : Value → Shared → Prop), Takes (X.tr pn xe) W → PassesOwn (model X.prog X.w) X.A X.env xe → PSs (X.tr pn xe) body (tb W))
    (hh : HdX X (h0 :: hds) l) : PS X (.Try body (h0 :: hds) [] [] pos) (fun D σ H => tb (wMix X.K Wo D l) D σ H) := by
  refine ⟨fun pins s σ H D I h => ?_⟩
  have ok := I.ok
  have hfr : X.A.frames = some (X.env :: X.outer) := by rw [ok.frames, hs]
  refine wpAny_Try_except (wpAny_mono ((hb (wMix X.K Wo D l) (X.pn ++ pins) (fun e t1 => wpAny (model X.prog X.w) X.A (noteFrame e X.env) (fun _ t2 => wpAny (model X.prog X.w) X.A (setFlight e none) (fun _ t3 =>
    wpAny (model X.prog X.w) X.A (handleBy e X.env (h0 :: hds)) (SP X pins D) X.xe t3) X.xe t2) X.xe t1) (fun u s' xx => ?_) PassesOwn.looking).run [] s σ H D (I.toTry _) h) (fun f s1 hsp => ?_) (fun e s1 he => he))
  · obtain ⟨a, G, sI, pins', σ', H', cls, d, rfl, J', nb, up, sky, na, os, ag, w⟩ := xx
    have J : Inv X pins σ' H' sI := J'.ofTry ok
    have skyX : Sky G (X.env :: X.outer) a (Zc cls d) X.env.locals s'.heap := by rw [← hs]; exact sky
    show wpAny (model X.prog X.w) X.A (noteFrame (.ref a) X.env) _ _ _
    refine Sky.land Zc.steady hfr hf skyX fun g3 ff3 uu3 => ?_
    have J3 : Inv X pins σ' H' { s' with heap := g3 } := J.landed nb ff3.1 (up.trans uu3) os ag
    obtain ⟨oe3, vs3, he3, hz3, hd3⟩ := ff3.there
    have nfr : a ∉ frs (X.env :: X.outer) := fun hm => by
      obtain ⟨_, o', e', hnf⟩ := Heap.FunFrames.mem ff3.2.2.1 hm
      rw [he3] at e'; cases e'
      exact hnf _ hd3
    have nL : a ≠ X.env.locals := fun z => nfr (List.mem_filterMap.mpr ⟨X.env, List.mem_cons_self, by rw [hf, z]⟩)
    have nF : a ∉ X.fs := fun hm => by
      obtain ⟨e, he, q⟩ := List.mem_filterMap.mp hm
      exact nfr (List.mem_filterMap.mpr ⟨e, List.mem_cons_of_mem _ he, q⟩)
    have S3 := J3.suite he3 hd3 na nL nF
    have LT : PySem.W.Looks (model X.prog X.w) g3 (typeOf (.ref a)) cls := fun A Q E s k q => wpAny_typeOf_ref (k _ _ he3) (by rw [hz3.1]; exact q)
    have test : ∀ {x : Str} {c : Value} {np : Pos}, Names X x c → ∀ {Q : Value → Shared → Prop} {E : Value → Shared → Prop}, Q c { s' with heap := g3 } → wpAny (model X.prog X.w) (X.A.mark (some (.ref a))) (eval (.Name x np) X.env) Q E { s' with heap := g3 } := fun {x c np} hc {Q E} q => by
      obtain ⟨hg, hdbg, hm | ⟨hm, hv, hnn⟩⟩ := hc
      · exact ld_glob (X := X.suite a ((a, oe3) :: (X.pn ++ pins))) S3 hg hm q hdbg
      · exact ld_blt (X := X.suite a ((a, oe3) :: (X.pn ++ pins))) S3 hg hm hv q hnn hdbg
    have go : ∀ {hs2 : List ExceptHandler} {l2 : List Hd1}, HdX X hs2 l2 → wMix X.K Wo D l2 cls d σ' H' → wpAny (model X.prog X.w) X.A (handleBy (.ref a) X.env hs2) (SP X pins D) X.xe { s' with heap := g3 } := by
      intro hs2 l2 hk
      induction hk with
      | nil =>
        intro w
        refine wpAny_handleBy_nil ?_
        obtain ⟨k1, k2, k3, oe, vs, T, oT, tz, he, hz, hd, h1, hr⟩ := id ff3
        unfold PySem.passOn
        refine wpAny_bind (wpAny_field he hd h1 ?_)
        rw [if_neg (show ¬ ((Value.ref T == Value.none) = true) from by simp)]
        have fin : wpAny (model X.prog X.w) X.A (setFlight (.ref a) X.env.frame) (fun _ s4 => wpAny (model X.prog X.w) X.A (throw (.ref a) : Sem Flow) (SP X pins D) X.xe s4) X.xe { s' with heap := g3 } := by
          rw [hf]
          exact HandSPX.setFlight_upZ ff3 fun h4 hh4 up4 => wpAny_throw (tk _ _ ⟨a, G, sI, pins, σ', H', cls, d, rfl, J, nb, (up.trans uu3).trans up4, .inr (.inr (by rw [hs]; exact hh4)), na, os, ag, w⟩)
        first
          | exact wpAny_bind (wpAny_pure (wpAny_bind fin))
          | exact wpAny_bind fin
      | @bare x c ts b0 su np pp hds2 l3 hc hsu r ih =>
        intro w
        obtain ⟨b, hb1, hyes, hno⟩ := w
        refine wpAny_handleBy_cons (codeAny_handlers_test ?_) (by intro q; cases q)
        refine test hc ((PySem.W.exm_one (M := model X.prog X.w) (J3.kIn) LT hb1).here ?_)
        cases b with
        | false => exact ih (hno rfl)
        | true =>
          refine codeAny_handlers_suite (HandSPX.lands_againZ ff3 fun g4 ff4 uu4 => ?_)
          have J4 : Inv X pins σ' H' { s' with heap := g4 } := J.landed nb ff4.1 ((up.trans uu3).trans uu4) os ag
          obtain ⟨oe4, vs4, he4, hz4, hd4⟩ := ff4.there
          refine wpAny_mono ((hsu a oe4 cls d (X.pn ++ pins) hz4 ⟨_, hd4⟩).run [] _ _ H' _ (J4.suite he4 hd4 na nL nF) (hyes rfl a na)) (fun f s6 hsp => ?_) (fun _ _ z => False.elim z)
          cases f with
          | next => obtain ⟨σ6, H6, S6, q6⟩ := hsp; exact ⟨_, _, S6.unsuite ok, q6⟩
          | brk => obtain ⟨σ6, H6, S6, q6⟩ := hsp; exact ⟨_, _, S6.unsuite ok, q6⟩
          | cont => obtain ⟨σ6, H6, S6, q6⟩ := hsp; exact ⟨_, _, S6.unsuite ok, q6⟩
          | ret u => obtain ⟨v6, σ6, H6, S6, r6, q6⟩ := hsp; exact ⟨_, _, _, S6.unsuite ok, r6, q6⟩
      | @named x n i c ts b0 su np pp hds2 l3 hN hi hln hc hsu r ih =>
        intro w
        obtain ⟨b, hb1, hyes, hno⟩ := w
        refine wpAny_handleBy_cons (codeAny_handlers_test ?_) (by intro q; cases q)
        refine test hc ((PySem.W.exm_one (M := model X.prog X.w) (J3.kIn) LT hb1).here ?_)
        cases b with
        | false => exact ih (hno rfl)
        | true =>
          have hloc : Loc X.env.scope n := .inl hln
          refine codeAny_handlers_suite_as (HandSPX.lands_againZ ff3 fun g4 ff4 uu4 => ?_)
          have J4 : Inv X pins σ' H' { s' with heap := g4 } := J.landed nb ff4.1 ((up.trans uu3).trans uu4) os ag
          obtain ⟨oe4, vs4, he4, hz4, hd4⟩ := ff4.there
          refine store_ok (X := X.suite a ((a, oe4) :: (X.pn ++ pins))) (v := .ref a) (J4.suite he4 hd4 na nL nF) hN hi hloc rfl (fun s5 S5 => ?_) (.inr hln)
          refine wpAny_mono ((hsu a oe4 cls d (X.pn ++ pins) hz4 ⟨_, hd4⟩).run [] s5 _ H' _ S5 (hyes rfl a na)) (fun f s6 hsp => ?_) (fun _ _ z => False.elim z)
          have goes : ∀ {σ6 : L2.St} {H6 : Hp} {Q : Shared → Prop}, Inv (X.suite a ((a, oe4) :: (X.pn ++ pins))) [] σ6 H6 s6 → (∀ s7, Inv X pins (σ6.set i none) H6 s7 → Q s7) →
              wpAny (model X.prog X.w) X.A (do bindName X.env n .none; unbindBehindTheSuite X.env n pp) (fun _ s7 => Q s7) X.xe s6 := fun {σ6 H6 Q} S6 hq => gone_ok (S6.unsuite ok) hN hi hln hq
          cases f with
          | next => obtain ⟨σ6, H6, S6, q6⟩ := hsp; exact goes S6 fun s7 J7 => ⟨_, _, J7, q6⟩
          | brk => obtain ⟨σ6, H6, S6, q6⟩ := hsp; exact goes S6 fun s7 J7 => ⟨_, _, J7, q6⟩
          | cont => obtain ⟨σ6, H6, S6, q6⟩ := hsp; exact goes S6 fun s7 J7 => ⟨_, _, J7, q6⟩
          | ret u => obtain ⟨v6, σ6, H6, S6, r6, q6⟩ := hsp; exact goes S6 fun s7 J7 => ⟨_, _, _, J7, r6, q6⟩
    exact go hh w
  · cases f with
    | next => obtain ⟨σ', H', J', q⟩ := hsp; exact wpAny_execs_nil ⟨σ', H', J'.ofTry ok, q⟩
    | brk => obtain ⟨σ', H', J', q⟩ := hsp; exact ⟨σ', H', J'.ofTry ok, q⟩
    | cont => obtain ⟨σ', H', J', q⟩ := hsp; exact ⟨σ', H', J'.ofTry ok, q⟩
    | ret u => obtain ⟨v, σ', H', J', r, q⟩ := hsp; exact ⟨v, σ', H', J'.ofTry ok, r, q⟩
end PV

namespace PV
open PySem L2
/-! ### errors caught -/
def isA (x c : Str) : Bool := decide (x = c) || decide (c = "FloorError")
structure ExmF (B : Bs) (XS CS : List Str) : Prop where
  ex : ∀ x ∈ XS, ∀ c ∈ CS, PySem.W.exmOne B.K (.ref (B.xc x)) (.ref (B.xc c)) = some (isA x c)
abbrev HL := List (Str × (Err → En → M Fl))
def tryH : HL → Err → En → M Fl
  | [], _, _, _ => .stuck
  | (c, F) :: r, e, δ, s => if isA e.cls c then F e δ s else tryH r e δ s
def tryO (XS : List Str) (hl : HL) (δ : En) : Out D → Out Fl
  | .stuck => .stuck
  | .ok _ s1 => .ok (.next δ) s1
  | .err e s1 => if e.cls ∈ XS then tryH hl e δ s1 else .stuck
def cTry (XS : List Str) (f : En → M D) (hl : HL) : En → M Fl := fun δ s => tryO XS hl δ (f δ s)
@[simp] theorem e_try (XS : List Str) (f : En → M D) (hl : HL) (δ : En) (s : S) : cTry XS f hl δ s = tryO XS hl δ (f δ s) := rfl
@[simp] theorem tryO_ok (XS : List Str) (hl : HL) (δ : En) (d : D) (s : S) : tryO XS hl δ (.ok d s) = .ok (.next δ) s := rfl
@[simp] theorem tryO_err (XS : List Str) (hl : HL) (δ : En) (e : Err) (s : S) : tryO XS hl δ (.err e s) = if e.cls ∈ XS then tryH hl e δ s else .stuck := rfl
@[simp] theorem tryH_cons (c : Str) (F : Err → En → M Fl) (r : HL) (e : Err) (δ : En) (s : S) : tryH ((c, F) :: r) e δ s = if isA e.cls c then F e δ s else tryH r e δ s := rfl
section
variable {B : Bs} {W : List Nat}
/-- an except suite -/
def RdH (B : Bs) (W : List Nat) (o : Option Nat) (ts : Addr → Value → Option Addr → TS) (F : Err → En → M Fl) : Prop :=
  ∀ {r sa : Addr} {H0 : Hp} {O0 O : List Addr} {σ : St} {δ : En} {s : S} {H : Hp} (a : Addr) (cls : Value) (d : Option Addr) (e : Err), Gd B r sa H0 O0 W O σ δ s H → H a = none → XRep B r (hid H O) e cls d →
    ∀ D : Ends, (F e δ s).post (FlP B r sa H0 O0 W O H D) (fun _ _ => False) → hdGo ts D a cls d σ H o
inductive RdHs (B : Bs) (W : List Nat) (CS : List Str) : List Hd1 → HL → Prop
  | nil : RdHs B W CS [] []
  | cons {c : Str} {o : Option Nat} {ts : Addr → Value → Option Addr → TS} {F : Err → En → M Fl} {l : List Hd1} {hl : HL} : RdH B W o ts F → RdHs B W CS l hl → (hc : decide (c ∈ CS) = true := by decide) → RdHs B W CS ((.ref (B.xc c), o, ts) :: l) ((c, F) :: hl)
theorem wmix_of {XS CS : List Str} (X : ExmF B XS CS) {r sa : Addr} {H0 : Hp} {O0 O : List Addr} {σ : St} {δ : En} {s : S} {H H1 : Hp} {d : Option Addr} {e : Err} {D : Ends} (gd : Gd B r sa H0 O0 W O σ δ s H) (sm : Same (hid H1 O) (hid H O)) (he : e.cls ∈ XS) (xr : XRep B r (hid H O) e (.ref (B.xc e.cls)) d) :
    ∀ {l : List Hd1} {hl : HL}, RdHs B W CS l hl → (tryH hl e δ s).post (FlP B r sa H0 O0 W O H1 D) (fun _ _ => False) → wMix B.K (fun _ _ _ _ => False) D l (.ref (B.xc e.cls)) d σ H
  | _, _, .nil, h => h
  | _, _, .cons (c := c) hF hr hc, h => by
    refine ⟨isA e.cls c, X.ex _ he _ (of_decide_eq_true hc), fun q a na => ?_, fun q => ?_⟩
    · rw [tryH_cons, if_pos q] at h
      exact hF a _ d e gd na xr D (post_mono h (fun fl s1 z => z.mono sm) (fun _ _ z => z))
    · rw [tryH_cons, if_neg (by rw [q]; decide)] at h
      exact wmix_of X gd sm he xr hr h
theorem rs_try {XS CS : List Str} {l : List Hd1} {hl : HL} {f : En → M D} {te : XK → TE} {tE : (St → XK) → TE} (X : ExmF B XS CS) (hE : ∀ (Wx : St → XK) σ H Q, te (Wx σ) σ H Q → tE Wx σ H Q) (hb : ∀ E : XK, RdE B W (some E) (te E) f) (hh : RdHs B W CS l hl) :
    RdS B W none (fun D σ H => tDrop (tE (WE (wMix B.K (fun _ _ _ _ => False) D l))) D σ H) (cTry XS f hl) := by
  intro r sa H0 O0 O σ δ s H gd D h
  refine hE _ σ H _ (hb _ gd _ ?_)
  have h : (tryO XS hl δ (f δ s)).post (FlP B r sa H0 O0 W O H D) (EPost B none r sa H0 O0) := h
  cases q : f δ s with
  | stuck => rw [q] at h; exact h
  | ok x s1 =>
    rw [q] at h
    exact fun v H1 st ra rp => h O σ H1 (gd.step st ra) (st.hid gd.rO)
  | err e s1 =>
    rw [q, tryO_err] at h
    intro cl d H1 st ra xr
    split at h
    · rename_i he
      have ec := xr.1
      subst ec
      exact wmix_of X (gd.step st ra) (st.hid gd.rO) he xr hh (post_mono h (fun _ _ z => z) (fun _ _ z => z))
    · exact h.elim
theorem rh_s {t : TS} {F : En → M Fl} (h : RdS B W none t F) : RdH B W none (fun _ _ _ => t) (fun _ => F) := by
  intro r sa H0 O0 O σ δ s H a cls d e gd na xr D hp
  exact h gd D (post_mono hp (fun _ _ z => z) (fun _ _ z => z))
/-- a slot that holds nothing told -/
theorem Gd.hole {r sa : Addr} {H0 : Hp} {O0 O : List Addr} {σ : St} {δ : En} {s : S} {H : Hp} {i : Nat} {x : Option V} (g : Gd B r sa H0 O0 W O σ δ s H) (hd : ∀ d, δ[i]? ≠ some (some d)) : Gd B r sa H0 O0 W O (σ.set i x) δ s H := by
  have key : ∀ j d, δ[j]? = some (some d) → (σ.set i x)[j]? = σ[j]? := fun j d q => List.getElem?_set_ne (fun z => by subst z; exact hd d q)
  refine ⟨by rw [List.length_set]; exact g.len, g.row, g.r0, g.dom, g.dom0, g.sub, g.frsh, g.stp, fun j d hj q => ?_, fun j d hj q => ?_, fun j k p d e hj hk ne q1 q2 q3 q4 => ?_⟩
  · rw [key j d q]; exact g.val j d hj q
  · rw [key j d q]; exact g.own j d hj q
  · rw [key j d q1] at q3
    rw [key k e q2] at q4
    exact g.inj j k p d e hj hk ne q1 q2 q3 q4
theorem Gd.drop {r sa : Addr} {H0 : Hp} {O0 O : List Addr} {σ : St} {δ : En} {s : S} {H : Hp} {i : Nat} (g : Gd B r sa H0 O0 W O σ δ s H) : Gd B r sa H0 O0 W O σ (δ.set i none) s H := by
  have key : ∀ j d, (δ.set i none)[j]? = some (some d) → δ[j]? = some (some d) := fun j d q => by
    by_cases z : i = j
    · subst z
      rw [List.getElem?_set] at q
      split at q
      · split at q <;> cases q
      · rename_i z; exact absurd rfl z
    · rw [List.getElem?_set_ne z] at q; exact q
  exact ⟨by rw [List.length_set]; exact g.len, g.row, g.r0, g.dom, g.dom0, g.sub, g.frsh, g.stp, fun j d hj q => g.val j d hj (key j d q), fun j d hj q => g.own j d hj (key j d q), fun j k p d e hj hk ne q1 q2 q3 q4 => g.inj j k p d e hj hk ne (key j d q1) (key k e q2) q3 q4⟩
theorem set_hole {δ : En} {i : Nat} (d : D) : (δ.set i none)[i]? ≠ some (some d) := fun q => by
  rw [List.getElem?_set] at q
  split at q
  · split at q <;> cases q
  · rename_i z; exact absurd rfl z
/-- an expression of a suite that knows its error -/
def RdX (B : Bs) (W : List Nat) (i : Nat) (a : Addr) (cls : Value) (d : Option Addr) (t : TE) (f : Err → En → M D) : Prop :=
  ∀ {r sa : Addr} {H0 : Hp} {O0 O : List Addr} {σ : St} {δ : En} {s : S} {H : Hp} {e : Err}, Gd B r sa H0 O0 W O σ δ s H → σ[i]? = some (some (.ref a)) → XRep B r (hid H O) e cls d → ∀ Q : VK, (f e δ s).post (OkV B r sa H O Q) (fun _ _ => False) → t σ H Q
def RdXA (B : Bs) (W : List Nat) (i : Nat) (a : Addr) (cls : Value) (d : Option Addr) (t : TA) (f : Err → En → M (List D)) : Prop :=
  ∀ {r sa : Addr} {H0 : Hp} {O0 O : List Addr} {σ : St} {δ : En} {s : S} {H : Hp} {e : Err}, Gd B r sa H0 O0 W O σ δ s H → σ[i]? = some (some (.ref a)) → XRep B r (hid H O) e cls d → ∀ Q : List V → Hp → Prop, (f e δ s).post (OkA B r sa H O Q) (fun _ _ => False) → t σ H Q
variable {i : Nat} {a : Addr} {cls : Value} {d : Option Addr}
theorem rx_e {t : TE} {f : En → M D} (h : RdE B W none t f) : RdX B W i a cls d t (fun _ => f) := by
  intro r sa H0 O0 O σ δ s H e gd hi xr Q hp
  exact h gd Q (post_mono hp (fun _ _ z => z) (fun _ _ z => z))
def fldOf (fl : Str) (e : Err) : Option D := ((xFl e.cls).zip e.val).lookup fl
theorem lookup_zip {r : Addr} {H : Hp} {fl : Str} {y : D} : ∀ {ns : List Str} {vs : List V} {ds : List D}, Reps B r H vs ds → (ns.zip ds).lookup fl = some y → ∃ v, (ns.zip vs).lookup fl = some v ∧ Rep B r H v y
  | [], _, _, _, e => by simp at e
  | n :: ns, _, _, .nil, e => by simp at e
  | n :: ns, _, _, .cons (v := v) (d := dd) h hs, e => by
    rw [List.zip_cons_cons, List.lookup_cons] at e
    rw [List.zip_cons_cons, List.lookup_cons]
    cases q : fl == n with
    | true => rw [q] at e; cases e; exact ⟨v, rfl, h⟩
    | false => rw [q] at e; exact lookup_zip hs e
def cFld (c fl : Str) : Err → En → M D := fun e _ s => if e.cls = c then lift (fldOf fl e) s else .stuck
@[simp] theorem e_fld (c fl : Str) (e : Err) (δ : En) (s : S) : cFld c fl e δ s = if e.cls = c then lift (fldOf fl e) s else .stuck := rfl
theorem rx_fld {c fl : Str} : RdX B W i a cls d (tXf a cls d (B.xc c) fl (tVar i)) (cFld c fl) := by
  intro r sa H0 O0 O σ δ s H e gd hi xr Q hp
  rw [e_fld] at hp
  split at hp
  · rename_i he
    obtain ⟨y, ey, hp⟩ := post_lift hp
    obtain ⟨ec, xr⟩ := xr
    rcases xr with z | ⟨dx, fs, vs, h1, h2, h3, h4⟩
    · unfold fldOf at ey; rw [z] at ey; simp at ey
    · obtain ⟨v, q1, q2⟩ := lookup_zip h4 ey
      exact ⟨_, hi, rfl, by rw [ec, he], dx, fs, v, h1, hid_le _ _ h2, by rw [h3]; exact q1, hp v H (Stp.refl H) gd.row q2⟩
  · exact hp.elim
def xNil : Err → En → M (List D) := fun _ _ s => .ok [] s
def xCons (f : Err → En → M D) (g : Err → En → M (List D)) : Err → En → M (List D) := fun e δ s => (f e δ s).bind fun x s1 => (g e δ s1).bind fun xs s2 => .ok (x :: xs) s2
def xLst (g : Err → En → M (List D)) : Err → En → M D := fun e δ s => (g e δ s).bind fun ds s1 => if ds.length ≤ 100000 then .ok (.lst ds) s1 else .stuck
@[simp] theorem e_xnil (e : Err) (δ : En) (s : S) : xNil e δ s = .ok [] s := rfl
@[simp] theorem e_xcons (f : Err → En → M D) (g : Err → En → M (List D)) (e : Err) (δ : En) (s : S) : xCons f g e δ s = (f e δ s).bind fun x s1 => (g e δ s1).bind fun xs s2 => .ok (x :: xs) s2 := rfl
@[simp] theorem e_xlst (g : Err → En → M (List D)) (e : Err) (δ : En) (s : S) : xLst g e δ s = (g e δ s).bind fun ds s1 => if ds.length ≤ 100000 then .ok (.lst ds) s1 else .stuck := rfl
theorem rx_nil : RdXA B W i a cls d tNil xNil := by
  intro r sa H0 O0 O σ δ s H e gd hi xr Q hp
  exact hp [] H (Stp.refl H) gd.row .nil
theorem rx_cons {te : TE} {tr : TA} {f : Err → En → M D} {g : Err → En → M (List D)} (h : RdX B W i a cls d te f) (h' : RdXA B W i a cls d tr g) : RdXA B W i a cls d (tCons te tr) (xCons f g) := by
  intro r sa H0 O0 O σ δ s H e gd hi xr Q hp
  refine h gd hi xr _ (post_mono (post_bind hp) (fun x s1 hx v H1 st ra rp => ?_) (fun _ _ z => z))
  refine h' (gd.step st ra) hi (xr.mono (st.hid gd.rO)) _ (post_mono (post_bind hx) (fun y s2 hy w H2 st2 ra2 rp2 => ?_) (fun _ _ z => z))
  exact hy _ _ (st.trans st2) ra2 (.cons (rp.mono (st2.hid gd.rO)) rp2)
theorem rx_lst {tr : TA} {g : Err → En → M (List D)} (h : RdXA B W i a cls d tr g) : RdX B W i a cls d (tLst tr) (xLst g) := by
  intro r sa H0 O0 O σ δ s H e gd hi xr Q hp
  refine h gd hi xr _ (post_mono (post_bind hp) (fun x s1 hx v H1 st ra rp => ?_) (fun _ _ z => z))
  split at hx
  · rename_i hl
    refine ⟨Evl.sz_of (by rw [rp.length]; exact hl), fun p hp => ?_⟩
    have ⟨a1, a2⟩ := hid_new (O := O) (o := .lst v) hp (gd.step st ra).dom
    exact hx _ _ (st.trans (Stp.new hp)) (ra.new hp) (.lst a2 (rp.mono a1))
  · exact hx.elim
def cHdAs (i j : Nat) (f : Err → En → M D) : Err → En → M Fl := fun e δ s => if i < δ.length then (f e (δ.set i none) s).bind fun x s1 => .ok (.next ((δ.set i none).set j (some x))) s1 else .stuck
@[simp] theorem e_hdAs (i j : Nat) (f : Err → En → M D) (e : Err) (δ : En) (s : S) : cHdAs i j f e δ s = if i < δ.length then (f e (δ.set i none) s).bind fun x s1 => .ok (.next ((δ.set i none).set j (some x))) s1 else .stuck := rfl
theorem rh_as {i j : Nat} {te : Addr → Value → Option Addr → TE} {f : Err → En → M D} (h : ∀ a cls d, RdX B W i a cls d (te a cls d) f) (hij : decide (i ≠ j ∧ j ∉ W) = true := by decide) : RdH B W (some i) (fun a cls d => tAsg (te a cls d) (gName j)) (cHdAs i j f) := by
  intro r sa H0 O0 O σ δ s H a cls d e gd na xr D hp
  obtain ⟨nij, jW⟩ := of_decide_eq_true hij
  rw [e_hdAs] at hp
  split at hp
  · rename_i hlt
    have g1 : Gd B r sa H0 O0 W O (σ.set i (some (.ref a))) (δ.set i none) s H := (gd.drop (i := i)).hole set_hole
    refine h a cls d g1 (by rw [List.getElem?_set_self (by rw [gd.len]; exact hlt)]) xr _ (post_mono (post_bind hp) (fun x s1 hx v H1 st ra rp => ?_) (fun _ _ z => z))
    have g2 := (g1.step st ra).set (i := j) jW rp
    have g3 := g2.hole (i := i) (x := none) (fun d q => set_hole d (by rw [List.getElem?_set_ne (Ne.symm nij)] at q; exact q))
    exact hx O _ H1 g3 (st.hid gd.rO)
  · exact hp.elim
/-! ### a def picked out of some -/
end
open PySem.Spec PyProof.Rows in
/-- f(e, ..), f an expression that gives a def -/
def tPick (Tb : Addr → Sp → Prop) (E : L2.St → XK) (tf : TE) (t : TA) : TE := fun σ H Q => tf σ H fun y H1 => ∃ (f : Addr) (sp : Sp), y = .ref f ∧ Tb f sp ∧ t σ H1 fun vs H2 => sp vs H2 Q (E σ)
structure HeldX (P : Program) (w : World) (K : PySem.W.Frag) (mg : Str → Option Value) (base : Heap) (k : Nat) (f : Addr) (sp : Sp) : Prop where
  ex : ∃ (fd : FuncData) (ps : List Str), FnOk P w K mg base (L2.CX P w) k f fd ps sp ∧ PySem.W.keepIn K (.ref f) = true ∧ Binds K fd ps []
open PySem.Spec PyProof.Rows in
theorem pe_pick {X : Cx} {fe e : Expr} {es : List Expr} {pos : Pos} {tf : TE} {t : TA} {k : Nat} {Tb : Addr → Sp → Prop} {E : L2.St → XK} (hf : PE X fe tf) (A : ∀ f sp, Tb f sp → HeldX X.prog X.w X.K X.mg X.base k f sp) (hr : Room k X.A) (hx : ∀ σ, PassesAt (L2.CX X.prog X.w) X σ (E σ)) (ha : PA X (e :: es) t)
    (ht : eval (.Call fe (e :: es) [] pos) X.env = (do callWith pos (← eval fe X.env) [] (backTo pos (starEach (e :: es) X.env)) (backToKw pos (keywordEach [] X.env))) := by rfl)
    (he : starEach (e :: es) X.env = (false, eval e X.env) :: starEach es X.env := by rfl) (hpl : (backTo pos (starEach es X.env)).any (·.1) = false := by rfl) : PE X (.Call fe (e :: es) [] pos) (tPick Tb E tf t) := by
  refine ⟨fun pins s σ H Q I h => Call_ (thn (hf.run pins s σ H _ I h) fun u s1 hz => ?_) ht⟩
  obtain ⟨y, H1, I1, ry, f, sp, ey, tb, q⟩ := hz
  subst ey
  obtain rfl : u = Value.ref f := ry
  obtain ⟨fd, ps, F, hk, hb⟩ := (A f sp tb).ex
  refine PySem.W.callWith_K (h₀ := X.base) I1.ok.mod.kin hk (thn (ha.run pos pins s1 σ H1 _ I1 q) fun us s2 hz => ?_) he hpl
  obtain ⟨vs, H2, I2, r, q2⟩ := hz
  exact ⟨I2.kIn, run_fnS F hr hb (hx σ) I2 r q2⟩
section
variable {B : Bs} {W : List Nat}
abbrev FT := List (Str × (List D → M D))
def pickF (ft : FT) : D → Option (List D → M D) | .fn x => ft.lookup x | _ => none
@[simp] theorem pickF_fn (ft : FT) (x : Str) : pickF ft (.fn x) = ft.lookup x := rfl
def cPick (np : Nat) (ft : FT) (ff : En → M D) (fr : En → M (List D)) : En → M D := fun δ s => (ff δ s).bind fun d s1 => (lift (pickF ft d) s1).bind fun F s2 => (fr δ s2).bind fun ds s3 => if ds.length = np then F ds s3 else .stuck
@[simp] theorem e_pick (np : Nat) (ft : FT) (ff : En → M D) (fr : En → M (List D)) (δ : En) (s : S) : cPick np ft ff fr δ s = (ff δ s).bind fun d s1 => (lift (pickF ft d) s1).bind fun F s2 => (fr δ s2).bind fun ds s3 => if ds.length = np then F ds s3 else .stuck := rfl
def tabX (B : Bs) (np : Nat) (ft : FT) : Addr → Sp → Prop := fun a sp => ∃ x F, ft.lookup x = some F ∧ a = B.xc x ∧ sp = spX B np F
theorem rd_pick {np : Nat} {ft : FT} {tf : TE} {tr : TA} {ff : En → M D} {fr : En → M (List D)} {E : XK} (hf : RdE B W (some E) tf ff) (ha : RdA B W (some E) tr fr) : RdE B W (some E) (tPick (tabX B np ft) (fun _ => E) tf tr) (cPick np ft ff fr) := by
  intro r sa H0 O0 O σ δ s H gd Q h
  refine hf gd _ (post_mono (post_bind h) (fun d s1 hx v H1 st ra rp => ?_) (fun _ _ z => z))
  obtain ⟨F, e, hz⟩ := post_lift (post_bind hx)
  clear hx
  cases d with
  | fn x =>
    cases rp
    refine ⟨_, _, rfl, ⟨x, F, e, rfl, rfl⟩, ha (gd.step st ra) _ (post_mono (post_bind hz) (fun ds s2 hy w H2 st2 ra2 rp2 => ?_) (fun _ _ z => EPost.mono st z))⟩
    split at hy
    · rename_i hl
      have st12 := st.trans st2
      exact ⟨by rw [rp2.length]; exact hl, r, sa, O, ds, s2, ra2, gd.rO, (gd.step st12 ra2).dom, rp2, post_mono hy (fun d s3 q w' H3 st3 ra3 rp3 => q w' H3 (st12.trans st3) ra3 rp3) (fun _ _ z => z.mono st12)⟩
    · exact hy.elim
  | _ => cases e
/-- the table holds -/
theorem tabX_nil {P : Program} {w : World} {mg : Str → Option Value} {base : Heap} {k np : Nat} : ∀ f sp, tabX B np [] f sp → HeldX P w B.K mg base k f sp := fun _ _ ⟨x, F, e, _⟩ => by cases e
theorem tabX_cons {P : Program} {w : World} {mg : Str → Option Value} {base : Heap} {j k np : Nat} {x : Str} {F : List D → M D} {ft : FT} {f : Addr} {fd : FuncData} {ps : List Str} (G : FnOk P w B.K mg base (L2.CX P w) j f fd ps (spX B np F)) (hj : j ≤ k) (hk : PySem.W.keepIn B.K (.ref f) = true) (hb : Binds B.K fd ps []) (hf : f = B.xc x)
    (hr : ∀ f sp, tabX B np ft f sp → HeldX P w B.K mg base k f sp) : ∀ f sp, tabX B np ((x, F) :: ft) f sp → HeldX P w B.K mg base k f sp := fun g sp ⟨y, F', e, ea, es⟩ => by
  rw [List.lookup_cons] at e
  cases q : y == x with
  | true =>
    rw [q] at e
    cases e
    have : y = x := by simpa using q
    subst this
    subst es ea
    rw [← hf]
    exact ⟨fd, ps, G.mono hj, hk, hb⟩
  | false =>
    rw [q] at e
    exact hr g sp ⟨y, F', e, ea, es⟩
end
end PV

namespace PV
open PySem L2
theorem ca_nil {P : Str → Prop} : ∀ c ∈ ([] : List Str), P c := fun _ h => by cases h
theorem ca_cons {P : Str → Prop} {x : Str} {l : List Str} (h : P x) (r : ∀ c ∈ l, P c) : ∀ c ∈ x :: l, P c := fun c hc => (List.mem_cons.mp hc).elim (fun e => by rw [e]; exact h) (r c)
/-- a map of names -/
theorem xc_ex : ∀ l : List (Str × Addr), (l.map (·.1)).Nodup → ∃ xc : Str → Addr, ∀ p ∈ l, xc p.1 = p.2
  | [], _ => ⟨fun _ => 0, fun _ h => by cases h⟩
  | (n, a) :: l, h => by
    obtain ⟨h1, h2⟩ := List.nodup_cons.mp h
    obtain ⟨xc, q⟩ := xc_ex l h2
    refine ⟨fun x => if x = n then a else xc x, fun p hp => ?_⟩
    rcases List.mem_cons.mp hp with e | e
    · subst e; simp
    · have : p.1 ≠ n := fun z => h1 (z ▸ List.mem_map.mpr ⟨p, e, rfl⟩)
      show (if p.1 = n then a else xc p.1) = p.2
      rw [if_neg this]; exact q p e
/-! ### facts of the error classes -/
structure XcF (B : Bs) (mg : Str → Option Value) (x q : Str) (st : Stmt) (ps : List Str) where
  f : Addr
  d : FuncData
  F : Fun B.K "__init__" q st f d
  m : mg x = some (.ref (B.xc x))
  o : OexC B.K (B.xc x)
  i : PySem.W.findIn B.K (.ref (B.xc x)) "__init__" = some (some (.ref f))
  t : PySem.W.typeIn B.K (.ref f) = some (.type "function")
  b : Binds B.K d ps []
structure FeF (B : Bs) (mg : Str → Option Value) : Prop where
  m : mg "FloorError" = some (.ref (B.xc "FloorError"))
  sp : PySem.W.specialIn B.K (.ref (B.xc "FloorError")) "__getattribute__" = some (some (.builtin "type.__getattribute__"))
  ty : PySem.W.typeIn B.K (.ref (B.xc "FloorError")) = some (.type "type")
  rd : PySem.W.readsIn B.K (B.xc "FloorError") (.type "type") = true
  fc : PySem.W.findCls B.K (.ref (B.xc "FloorError")) (.type "type") "__init__" = some (.val (.builtin "ValueError.__init__"))
theorem exm_pair {K : PySem.W.Frag} {x c : Addr} {b : Bool} (h1 : PySem.W.subIn K (.ref c) (.type "BaseException") = some true) (h2 : PySem.W.isClsIn K c = true) (h3 : PySem.W.typeIn K (.ref c) = some (.type "type")) (h4 : PySem.W.subIn K (.ref x) (.ref c) = some b) :
    PySem.W.exmOne K (.ref x) (.ref c) = some b := by
  have e1 : (PySem.W.subIn K (.ref c) (.type "BaseException") == some true) = true := by rw [h1] <;> rfl
  have h2' : (PySem.W.clsIn K c).isSome = true := h2
  have e2 : ((PySem.W.clsIn K c).isSome && PySem.W.typeIn K (.ref c) == some (.type "type")) = true := by rw [h2', h3] <;> rfl
  show (if (PySem.W.subIn K (.ref c) (.type "BaseException") == some true) = true then (if ((PySem.W.clsIn K c).isSome && PySem.W.typeIn K (.ref c) == some (.type "type")) = true then PySem.W.subIn K (.ref x) (.ref c) else none) else none) = some b
  rw [if_pos e1, if_pos e2]; exact h4
/-- a table of classes -/
theorem ExmF.nil {B : Bs} {CS : List Str} : ExmF B [] CS := ⟨fun x hx => by cases hx⟩
theorem ExmF.row {B : Bs} {x : Str} {XS CS : List Str} (h : ∀ c ∈ CS, PySem.W.exmOne B.K (.ref (B.xc x)) (.ref (B.xc c)) = some (isA x c)) (r : ExmF B XS CS) : ExmF B (x :: XS) CS := ⟨fun y hy c hc => by
  rcases List.mem_cons.mp hy with e | e
  · subst e; exact h c hc
  · exact r.ex y e c hc⟩
section
variable {B : Bs} {W : List Nat} {E : Option XK}
theorem rs_tryC {XS CS : List Str} {l : List Hd1} {hl : HL} {np : Nat} {F : List D → M D} {tr : TA} {fr : En → M (List D)} (X : ExmF B XS CS) (ha : ∀ E : XK, RdA B W (some E) tr fr) (hh : RdHs B W CS l hl) :
    RdS B W none (fun D σ H => tDrop (tCallS (spX B np F) (WE (wMix B.K (fun _ _ _ _ => False) D l)) tr) D σ H) (cTry XS (cCall np F fr) hl) :=
  rs_try (te := fun E => tCallS (spX B np F) (fun _ => E) tr) (tE := fun Wx => tCallS (spX B np F) Wx tr) X (fun _ _ _ _ h => h) (fun E => rd_callS (ha E)) hh
theorem rs_tryP {XS CS : List Str} {l : List Hd1} {hl : HL} {np : Nat} {ft : FT} {tf : TE} {ff : En → M D} {tr : TA} {fr : En → M (List D)} (X : ExmF B XS CS) (hf : ∀ E : XK, RdE B W (some E) tf ff) (ha : ∀ E : XK, RdA B W (some E) tr fr) (hh : RdHs B W CS l hl) :
    RdS B W none (fun D σ H => tDrop (tPick (tabX B np ft) (WE (wMix B.K (fun _ _ _ _ => False) D l)) tf tr) D σ H) (cTry XS (cPick np ft ff fr) hl) :=
  rs_try (te := fun E => tPick (tabX B np ft) (fun _ => E) tf tr) (tE := fun Wx => tPick (tabX B np ft) Wx tf tr) X (fun _ _ _ _ h => h) (fun E => rd_pick (hf E) (ha E)) hh
/-! ### {} -/
def cDic0 : En → M D := fun _ s => .ok (.dic [] []) s
@[simp] theorem e_dic0 (δ : En) (s : S) : cDic0 δ s = .ok (.dic [] []) s := rfl
theorem rd_dic0 : RdE B W E tDNewK cDic0 := by
  intro r sa H0 O0 O σ δ s H gd Q h p hp
  have ⟨a1, a2⟩ := hid_new (O := O) (o := .dK []) hp gd.dom
  exact h _ _ (Stp.new hp) (gd.row.new hp) (.dic a2 rfl rfl .nil)
/-! ### list(range(..)), tuple(range(..)) -/
def gLR1 : List D → Option D | [.int j] => if -(2 ^ 62) ≤ j ∧ j < 2 ^ 62 ∧ j.toNat ≤ 100000 then some (.lst (upto 0 j.toNat)) else none | _ => none
def gTR1 : List D → Option D | [.int j] => if -(2 ^ 62) ≤ j ∧ j < 2 ^ 62 ∧ j.toNat ≤ 100000 then some (.tup (upto 0 j.toNat)) else none | _ => none
def gTR2 : List D → Option D | [.int i, .int j] => if -(2 ^ 62) ≤ i ∧ i < 2 ^ 62 ∧ -(2 ^ 62) ≤ j ∧ j < 2 ^ 62 ∧ (j - i).toNat ≤ 100000 then some (.tup (upto i (j - i).toNat)) else none | _ => none
theorem rg_reps {r : Addr} {H : Hp} (a b : Int) : Reps B r H (rgV a b) (upto a (b - a).toNat) := by
  unfold rgV upto
  generalize (b - a).toNat = n
  have key : ∀ l : List Nat, Reps B r H (l.map fun (i : Nat) => V.int (a + (i : Int))) (l.map fun (i : Nat) => D.int (a + (i : Int))) := by
    intro l
    induction l with
    | nil => exact .nil
    | cons i l ih => exact .cons (.int _) ih
  exact key _
theorem rd_lr1 {te : TE} {f : En → M D} (ha : RdE B W E te f) : RdE B W E (tLstRg (tRg1 te)) (cB gLR1 (cCons f cNil)) := by
  intro r sa H0 O0 O σ δ s H gd Q h
  refine ha gd _ (post_mono (post_bind (post_bind h)) (fun x s1 hx v H1 st ra rp => ?_) (fun _ _ z => z))
  obtain ⟨d, e, hd⟩ := post_lift hx
  unfold gLR1 at e
  split at e
  · rename_i j hz
    cases hz
    cases rp
    split at e
    · rename_i hj
      cases e
      refine ⟨_, rfl, ⟨by decide, by decide, hj.1, hj.2.1, by have := hj.2.2; simp; omega⟩, fun p hp => ?_⟩
      have := new_lst (B := B) (r := r) (O := O) hp (gd.step st ra).dom (rg_reps 0 j)
      rw [Int.sub_zero] at this
      exact hd _ _ (st.trans (Stp.new hp)) (ra.new hp) this
    · cases e
  · cases e
theorem rd_tr1 {te : TE} {f : En → M D} (ha : RdE B W E te f) : RdE B W E (tTupRg (tRg1 te)) (cB gTR1 (cCons f cNil)) := by
  intro r sa H0 O0 O σ δ s H gd Q h
  refine ha gd _ (post_mono (post_bind (post_bind h)) (fun x s1 hx v H1 st ra rp => ?_) (fun _ _ z => z))
  obtain ⟨d, e, hd⟩ := post_lift hx
  unfold gTR1 at e
  split at e
  · rename_i j hz
    cases hz
    cases rp
    split at e
    · rename_i hj
      cases e
      refine ⟨_, rfl, ⟨by decide, by decide, hj.1, hj.2.1, by have := hj.2.2; simp; omega⟩, fun p hp => ?_⟩
      have := new_tup (B := B) (r := r) (O := O) hp (gd.step st ra).dom (rg_reps 0 j)
      rw [Int.sub_zero] at this
      exact hd _ _ (st.trans (Stp.new hp)) (ra.new hp) this
    · cases e
  · cases e
end
/-! ### isinstance, by kinds -/
@[simp] theorem isi_int_non  : gIsi "int" .non = some (.bl false) := by rfl
@[simp] theorem isi_int_bl (b : Bool) : gIsi "int" (.bl b) = some (.bl true) := by rfl
@[simp] theorem isi_int_int (i : Int) : gIsi "int" (.int i) = some (.bl true) := by rfl
@[simp] theorem isi_int_str (x : Str) : gIsi "int" (.str x) = some (.bl false) := by rfl
@[simp] theorem isi_int_tup (l : List D) : gIsi "int" (.tup l) = some (.bl false) := by rfl
@[simp] theorem isi_int_lst (l : List D) : gIsi "int" (.lst l) = some (.bl false) := by rfl
@[simp] theorem isi_int_dic (k : List Str) (l : List D) : gIsi "int" (.dic k l) = some (.bl false) := by rfl
@[simp] theorem isi_bool_non  : gIsi "bool" .non = some (.bl false) := by rfl
@[simp] theorem isi_bool_bl (b : Bool) : gIsi "bool" (.bl b) = some (.bl true) := by rfl
@[simp] theorem isi_bool_int (i : Int) : gIsi "bool" (.int i) = some (.bl false) := by rfl
@[simp] theorem isi_bool_str (x : Str) : gIsi "bool" (.str x) = some (.bl false) := by rfl
@[simp] theorem isi_bool_tup (l : List D) : gIsi "bool" (.tup l) = some (.bl false) := by rfl
@[simp] theorem isi_bool_lst (l : List D) : gIsi "bool" (.lst l) = some (.bl false) := by rfl
@[simp] theorem isi_bool_dic (k : List Str) (l : List D) : gIsi "bool" (.dic k l) = some (.bl false) := by rfl
@[simp] theorem isi_tuple_non  : gIsi "tuple" .non = some (.bl false) := by rfl
@[simp] theorem isi_tuple_bl (b : Bool) : gIsi "tuple" (.bl b) = some (.bl false) := by rfl
@[simp] theorem isi_tuple_int (i : Int) : gIsi "tuple" (.int i) = some (.bl false) := by rfl
@[simp] theorem isi_tuple_str (x : Str) : gIsi "tuple" (.str x) = some (.bl false) := by rfl
@[simp] theorem isi_tuple_tup (l : List D) : gIsi "tuple" (.tup l) = some (.bl true) := by rfl
@[simp] theorem isi_tuple_lst (l : List D) : gIsi "tuple" (.lst l) = some (.bl false) := by rfl
@[simp] theorem isi_tuple_dic (k : List Str) (l : List D) : gIsi "tuple" (.dic k l) = some (.bl false) := by rfl
@[simp] theorem isi_list_non  : gIsi "list" .non = some (.bl false) := by rfl
@[simp] theorem isi_list_bl (b : Bool) : gIsi "list" (.bl b) = some (.bl false) := by rfl
@[simp] theorem isi_list_int (i : Int) : gIsi "list" (.int i) = some (.bl false) := by rfl
@[simp] theorem isi_list_str (x : Str) : gIsi "list" (.str x) = some (.bl false) := by rfl
@[simp] theorem isi_list_tup (l : List D) : gIsi "list" (.tup l) = some (.bl false) := by rfl
@[simp] theorem isi_list_lst (l : List D) : gIsi "list" (.lst l) = some (.bl true) := by rfl
@[simp] theorem isi_list_dic (k : List Str) (l : List D) : gIsi "list" (.dic k l) = some (.bl false) := by rfl
@[simp] theorem isi_str_non  : gIsi "str" .non = some (.bl false) := by rfl
@[simp] theorem isi_str_bl (b : Bool) : gIsi "str" (.bl b) = some (.bl false) := by rfl
@[simp] theorem isi_str_int (i : Int) : gIsi "str" (.int i) = some (.bl false) := by rfl
@[simp] theorem isi_str_str (x : Str) : gIsi "str" (.str x) = some (.bl true) := by rfl
@[simp] theorem isi_str_tup (l : List D) : gIsi "str" (.tup l) = some (.bl false) := by rfl
@[simp] theorem isi_str_lst (l : List D) : gIsi "str" (.lst l) = some (.bl false) := by rfl
@[simp] theorem isi_str_dic (k : List Str) (l : List D) : gIsi "str" (.dic k l) = some (.bl false) := by rfl
end PV

namespace PV
open PySem L2
/-! ### Sale(..) that may be refused -/
section
variable {B : Bs} {W : List Nat}
def spInitX (B : Bs) (F : Addr → List D → M D) : Sp := fun vs H Q E => ∃ (x : Addr) (vs' : List V), vs = .ref x :: vs' ∧ vs'.length = 2 ∧ ∃ (r sa : Addr) (O : List Addr) (ds : List D) (s : S) (dx : Addr), H x = some (.ins B.cs dx []) ∧ x ∉ O ∧ RowAt B r sa H s ∧ r ∈ O ∧ (∀ p ∈ O, H p ≠ none) ∧ Reps B r (hid H (x :: O)) vs' ds ∧
  (F x ds s).post (fun d s' => ∀ H', (∀ a o, a ≠ r → a ≠ x → H a = some o → H' a = some o) → RowAt B r sa H' s' → Rep B r (hid H' O) (.ref x) d → Q .non H') (EPost B (some E) r sa H (x :: O))
theorem init_okX {P : Program} {w : World} {mg : Str → Option Value} {base : Heap} {x qual : Str} {st : Stmt} {f : Addr} {fd : FuncData} {N ps : List Str} {k : Nat} {b1 b2 b3 : En → M Fl} (F : Fun B.K x qual st f fd) (Sc : FnScope N ps (defScope st)) (hN : 3 ≤ N.length) (hps : ps.length = 3) (SF : SaleF B) (hW : W = [])
    (hb : ∀ (cdv : Value) (A : Around) (outer : List Env) (s : Shared) (H : Hp) (E : XK), Room k (A.deeper (PyProof.Rows.envOfC qual (defScope st) s.heap.objs.size f cdv)) →
      ∃ t1 t2 t3, PSs (cxOf (L2.CX P w) P w B.K mg base N qual (defScope st) f cdv A outer s H E) (defBody st) (tSeq t1 (tSeq t2 (tSeq t3 (tSeq (sFld B.K (tVar 0) (tVar 1) "crowd") (sFld B.K (tVar 0) (tVar 2) "stock"))))) ∧ RdS B W (some E) t1 b1 ∧ RdS B W (some E) t2 b2 ∧ RdS B W (some E) t3 b3) :
    FnOk P w B.K mg base (L2.CX P w) (k + 1) f fd ps (spInitX B (saleX N.length (cSeq b1 (cSeq b2 b3)))) := by
  refine F.okX Sc (fun vs H Q E h => ?_) (fun cdv A outer s H vs Q E hr h => ?_)
  · obtain ⟨a, vs', rfl, hl, _⟩ := h; simp [hl, hps]
  obtain ⟨t1, t2, t3, hP, h1, h2, h3⟩ := hb cdv A outer s H E hr
  obtain ⟨a, vs', rfl, hl, r, sa, O, ds, s0, dx, hx, nO, ra, hrO, hdom, rp, hp⟩ := h
  refine ⟨_, hP, ?_⟩
  have hR : RdS B W (some E) (tSeq t1 (tSeq t2 t3)) (cSeq b1 (cSeq b2 b3)) := rs_seq h1 (rs_seq h2 h3)
  have nar : a ≠ r := fun z => nO (z ▸ hrO)
  have hds : ds.length = 2 := by rw [← rp.length]; exact hl
  subst hW
  have gd : Gd B r sa H (a :: O) [] (a :: O) (L2.start N (.ref a :: vs')) (startD N.length (.obj a :: ds)) s0 H := by
    refine ⟨?_, ra, List.mem_cons_of_mem _ hrO, fun p hp => ?_, fun p hp => ?_, fun _ h => h, fun _ h => .inl h, Stp.refl H, fun i d hi q => ?_, fun i d hi q => (by cases hi), fun i j p d e hi hj ne q => (by cases hi)⟩
    · unfold L2.start startD; simp [rp.length]
    · rcases List.mem_cons.mp hp with z | z
      · rw [z, hx]; exact fun z => nomatch z
      · exact hdom p z
    · rcases List.mem_cons.mp hp with z | z
      · rw [z, hx]; exact fun z => nomatch z
      · exact hdom p z
    · obtain ⟨v, h1, h2⟩ := (Reps.cons (Rep.obj a) rp).get i d (startD_some q)
      refine ⟨v, ?_, h2⟩
      rw [start_get, if_pos (List.getElem?_eq_some_iff.mp h1).1, h1]; rfl
  show (tSeq t1 (tSeq t2 t3)) { nx := fun σ' H' => (tSeq (sFld B.K (tVar 0) (tVar 1) "crowd") (sFld B.K (tVar 0) (tVar 2) "stock")) { nx := fun _ H' => Q .non H', rt := Q } σ' H', rt := Q } _ H
  refine hR gd _ ?_
  have e : saleX N.length (cSeq b1 (cSeq b2 b3)) a ds s0 = (cSeq b1 (cSeq b2 b3) (startD N.length (.obj a :: ds)) s0).bind (saleE a) := by unfold saleX; rw [if_pos hds]
  rw [e] at hp
  refine post_mono (post_bind hp) (fun fl s1 hq => ?_) (fun _ _ z => z)
  cases fl with
  | ret d => exact hq.elim
  | brk d => exact hq.elim
  | cont d => exact hq.elim
  | next δ' =>
    intro O' σ' H' g' sm
    obtain ⟨_, e0, hq⟩ := post_lift (post_bind hq)
    obtain ⟨c, e1, hq⟩ := post_lift (post_bind hq)
    obtain ⟨n, e2, hq⟩ := post_lift (post_bind hq)
    obtain ⟨d0, e00, e01⟩ := Option.bind_eq_some_iff.mp e0
    have hd0 : d0 = .obj a := by
      unfold isOb at e01
      split at e01
      · split at e01
        · rename_i z; rw [z]
        · cases e01
      · cases e01
    subst hd0
    obtain ⟨v0, s00, r0⟩ := g'.val 0 _ (by simp) (join_some e00)
    obtain ⟨v1, s01, r1⟩ := g'.val 1 _ (by simp) (join_some e1)
    obtain ⟨v2, s02, r2⟩ := g'.val 2 _ (by simp) (join_some e2)
    cases r0
    have hx' : H' a = some (.ins B.cs dx []) := g'.stp a _ nar hx
    refine ⟨v1, s01, _, s00, a, B.cs, dx, [], rfl, hx', SF.cl, SF.nc, by decide, ?_⟩
    refine ⟨v2, s02, _, s00, a, B.cs, dx, _, rfl, upd_same, SF.cl, SF.ns, (by show 1 < 1000; decide), ?_⟩
    have aO : a ∈ O' := g'.sub a List.mem_cons_self
    have sm2 : ∀ u u', Same (hid H' O') (hid (upd (upd H' a u) a u') O) := fun u u' b o e => by
      have ⟨h1, h2⟩ := hid_some e
      have nb : b ≠ a := fun z => h1 (z ▸ aO)
      rw [hid_out (fun z => h1 (g'.sub b (List.mem_cons_of_mem _ z))), upd_ne nb, upd_ne nb]; exact h2
    refine hq _ (fun b o n1 n2 e => ?_) ⟨?_, ?_⟩ (.sal (dx := dx) (by rw [hid_out nO, upd_same]; rfl) (r1.mono (sm2 _ _)) (r2.mono (sm2 _ _)))
    · rw [upd_ne n2, upd_ne n2]; exact g'.stp b o n1 e
    · rw [upd_ne (Ne.symm nar), upd_ne (Ne.symm nar)]; exact g'.row.1
    · exact g'.row.2.elim (fun ⟨o, q⟩ => .inl ⟨o, by rw [upd_ne (ne_of q hx' (fun z => nomatch z)), upd_ne (ne_of q hx' (fun z => nomatch z))]; exact q⟩) .inr
theorem rd_makeS {F : Addr → List D → M D} {tr : TA} {fr : En → M (List D)} {E : XK} (hx : ∀ x ds s, F x ds s = F 0 ds s) (ha : RdA B W (some E) tr fr) : RdE B W (some E) (tMake B.cs (spInitX B F) [] E tr) (cCall 2 (F 0) fr) := by
  intro r sa H0 O0 O σ δ s H gd Q h
  refine ha gd _ (post_mono (post_bind h) (fun ds s1 hd v H1 st ra rp => ?_) (fun _ _ z => z))
  split at hd
  · rename_i hl
    intro x dx nx ndx ne
    have gd1 := gd.step st ra
    have xO : x ∉ O := fun z => gd1.dom x z nx
    have hnew : ∀ a o, H1 a = some o → upd (upd H1 dx (.own x)) x (.ins B.cs dx []) a = some o := fun a o e => by
      rw [upd_ne (ne_of_none e nx), upd_ne (ne_of_none e ndx)]; exact e
    rw [List.append_nil]
    refine ⟨x, v, rfl, by rw [rp.length]; exact hl, r, sa, O, ds, s1, dx, upd_same, xO, ra.same hnew, gd.rO, fun p hp => ?_, rp.mono fun a o e => ?_, ?_⟩
    · cases q : H1 p with
      | none => exact absurd q (gd1.dom p hp)
      | some o => rw [hnew p o q]; exact fun z => nomatch z
    · have ⟨h1, h2⟩ := hid_some e
      have na : a ≠ x := ne_of_none h2 nx
      rw [hid_out (by simp [na, h1])]; exact hnew a o h2
    · rw [hx]
      refine post_mono hd (fun d s2 q H' k ra' rp' => ⟨rfl, q _ H' (fun a o na e => ?_) ra' rp'⟩) (fun e s2 z cl d H' st' ra' xr => z cl d H' (fun a o na e => ?_) ra' (xr.mono (hid_sub fun a h => List.mem_cons_of_mem _ h)))
      · have e1 := st a o na e
        exact k a o na (ne_of_none e1 nx) (hnew a o e1)
      · exact st' a o na (hnew a o (st a o na e))
  · exact hd.elim
theorem rd_makeX {F : Addr → List D → M D} {tr : TA} {fr : En → M (List D)} (hx : ∀ x ds s, F x ds s = F 0 ds s) (ha : RdA B W none tr fr) : RdE B W none (tMake B.cs (spInitX B F) [] E0 tr) (cCall 2 (F 0) fr) := by
  intro r sa H0 O0 O σ δ s H gd Q h
  have ha' : RdA B W (some E0) tr (cQ fr) := ra_q ha
  refine rd_makeS (E := E0) hx ha' gd Q ?_
  show ((cCall 2 (F 0) (cQ fr)) δ s).post _ _
  have h : ((fr δ s).bind fun ds s1 => if ds.length = 2 then F 0 ds s1 else .stuck).post (OkV B r sa H O Q) (fun _ _ => False) := h
  show ((quiet (fr δ s)).bind fun ds s1 => if ds.length = 2 then F 0 ds s1 else .stuck).post _ _
  cases q : fr δ s with
  | stuck => rw [q] at h; exact h
  | err e s1 => rw [q] at h; exact h.elim
  | ok ds s1 => rw [q] at h; exact post_mono h (fun _ _ z => z) (fun _ _ z => z.elim)
end
/-! ### where self stands tells nothing -/
def Blind {α : Type} (f : En → M α) : Prop := ∀ (a b : Option D) (δ : En) (s : S), f (a :: δ) s = f (b :: δ) s
def R0 (x y : Addr) (o o' : Out Fl) : Prop := (∃ δ s, o = .ok (.next (some (.obj x) :: δ)) s ∧ o' = .ok (.next (some (.obj y) :: δ)) s) ∨ (o = .stuck ∧ o' = .stuck) ∨ ∃ e s, o = .err e s ∧ o' = .err e s
def Ins0 (F : En → M Fl) : Prop := ∀ (x y : Addr) (δ : En) (s : S), R0 x y (F (some (.obj x) :: δ) s) (F (some (.obj y) :: δ) s)
def TgB (tg : D → En → Option En) : Prop := ∀ (d : D) (a b : Option D) (δ : En), (tg d (a :: δ) = none ∧ tg d (b :: δ) = none) ∨ ∃ δ', tg d (a :: δ) = some (a :: δ') ∧ tg d (b :: δ) = some (b :: δ')
def TgBs (tg : List D → En → Option En) : Prop := ∀ (d : List D) (a b : Option D) (δ : En), (tg d (a :: δ) = none ∧ tg d (b :: δ) = none) ∨ ∃ δ', tg d (a :: δ) = some (a :: δ') ∧ tg d (b :: δ) = some (b :: δ')
theorem tgb_name {i : Nat} : TgB (tgName (i + 1)) := fun d a b δ => .inr ⟨δ.set i (some d), rfl, rfl⟩
theorem tgb_nil : TgBs tgNil := fun d a b δ => by cases d with | nil => exact .inr ⟨δ, rfl, rfl⟩ | cons _ _ => exact .inl ⟨rfl, rfl⟩
theorem tgb_cons {t : D → En → Option En} {u : List D → En → Option En} (h : TgB t) (hs : TgBs u) : TgBs (tgCons t u) := fun d a b δ => by
  cases d with
  | nil => exact .inl ⟨rfl, rfl⟩
  | cons x xs =>
    show (((t x (a :: δ)).bind fun δ' => u xs δ') = none ∧ ((t x (b :: δ)).bind fun δ' => u xs δ') = none) ∨ ∃ δ', ((t x (a :: δ)).bind fun δ' => u xs δ') = some (a :: δ') ∧ ((t x (b :: δ)).bind fun δ' => u xs δ') = some (b :: δ')
    rcases h x a b δ with ⟨h1, h2⟩ | ⟨δ', h1, h2⟩
    · rw [h1, h2]; exact .inl ⟨rfl, rfl⟩
    · rw [h1, h2]; exact hs xs a b δ'
theorem tgb_tup {n : Nat} {u : List D → En → Option En} (hs : TgBs u) : TgB (tgTup n u) := fun d a b δ => by
  unfold tgTup
  cases d with
  | tup l =>
    dsimp only
    split
    · exact hs l a b δ
    · exact .inl ⟨rfl, rfl⟩
  | lst l =>
    dsimp only
    split
    · exact hs l a b δ
    · exact .inl ⟨rfl, rfl⟩
  | _ => exact .inl ⟨rfl, rfl⟩
theorem ins_next : Ins0 cNext := fun x y δ s => .inl ⟨δ, s, rfl, rfl⟩
theorem ins_stuck : Ins0 cStuck := fun x y δ s => .inr (.inl ⟨rfl, rfl⟩)
theorem ins_q {F : En → M Fl} (h : Ins0 F) : Ins0 (cQ F) := fun x y δ s => by
  show R0 x y (quiet (F (some (.obj x) :: δ) s)) (quiet (F (some (.obj y) :: δ) s))
  rcases h x y δ s with ⟨δ', s', h1, h2⟩ | ⟨h1, h2⟩ | ⟨e, s', h1, h2⟩
  · rw [h1, h2]; exact .inl ⟨δ', s', rfl, rfl⟩
  · rw [h1, h2]; exact .inr (.inl ⟨rfl, rfl⟩)
  · rw [h1, h2]; exact .inr (.inl ⟨rfl, rfl⟩)
theorem ins_raise {c : Str} {fr : En → M (List D)} (h : Blind fr) : Ins0 (cRaise c fr) := fun x y δ s => by
  show R0 x y ((fr (some (.obj x) :: δ) s).bind fun ds s1 => .err ⟨c, ds.reverse⟩ s1) ((fr (some (.obj y) :: δ) s).bind fun ds s1 => .err ⟨c, ds.reverse⟩ s1)
  rw [h (some (.obj x)) (some (.obj y)) δ s]
  cases fr (some (.obj y) :: δ) s with
  | stuck => exact .inr (.inl ⟨rfl, rfl⟩)
  | ok a s1 => exact .inr (.inr ⟨_, _, rfl, rfl⟩)
  | err e s1 => exact .inr (.inr ⟨_, _, rfl, rfl⟩)
theorem ins_ite {c : En → M Bool} {F G : En → M Fl} (hc : Blind c) (h1 : Ins0 F) (h2 : Ins0 G) : Ins0 (cIte c F G) := fun x y δ s => by
  show R0 x y ((c (some (.obj x) :: δ) s).bind fun b s1 => if b then F (some (.obj x) :: δ) s1 else G (some (.obj x) :: δ) s1) ((c (some (.obj y) :: δ) s).bind fun b s1 => if b then F (some (.obj y) :: δ) s1 else G (some (.obj y) :: δ) s1)
  rw [hc (some (.obj x)) (some (.obj y)) δ s]
  cases c (some (.obj y) :: δ) s with
  | stuck => exact .inr (.inl ⟨rfl, rfl⟩)
  | err e s1 => exact .inr (.inr ⟨_, _, rfl, rfl⟩)
  | ok b s1 =>
    cases b with
    | true => exact h1 x y δ s1
    | false => exact h2 x y δ s1
theorem ins_seq {F G : En → M Fl} (h1 : Ins0 F) (h2 : Ins0 G) : Ins0 (cSeq F G) := fun x y δ s => by
  unfold cSeq
  rcases h1 x y δ s with ⟨δ', s', e1, e2⟩ | ⟨e1, e2⟩ | ⟨e, s', e1, e2⟩
  · rw [e1, e2]; exact h2 x y δ' s'
  · rw [e1, e2]; exact .inr (.inl ⟨rfl, rfl⟩)
  · rw [e1, e2]; exact .inr (.inr ⟨e, s', rfl, rfl⟩)
theorem ins_forL {tg : D → En → Option En} {F : En → M Fl} (ht : TgB tg) (h : Ins0 F) (x y : Addr) : ∀ (ds : List D) (δ : En) (s : S), R0 x y (forL tg F ds (some (.obj x) :: δ) s) (forL tg F ds (some (.obj y) :: δ) s)
  | [], δ, s => .inl ⟨δ, s, rfl, rfl⟩
  | d :: ds, δ, s => by
    unfold forL
    rcases ht d (some (.obj x)) (some (.obj y)) δ with ⟨h1, h2⟩ | ⟨δ', h1, h2⟩
    · rw [h1, h2]; exact .inr (.inl ⟨rfl, rfl⟩)
    · rw [h1, h2, lift_some, bind_ok, lift_some, bind_ok]
      rcases h x y δ' s with ⟨δ2, s', e1, e2⟩ | ⟨e1, e2⟩ | ⟨e, s', e1, e2⟩
      · rw [e1, e2, bind_ok, bind_ok]; exact ins_forL ht h x y ds δ2 s'
      · rw [e1, e2]; exact .inr (.inl ⟨rfl, rfl⟩)
      · rw [e1, e2]; exact .inr (.inr ⟨e, s', rfl, rfl⟩)
theorem ins_for {src : En → M (List D)} {tg : D → En → Option En} {F : En → M Fl} (hs : Blind src) (ht : TgB tg) (h : Ins0 F) : Ins0 (cFor src tg F) := fun x y δ s => by
  show R0 x y ((src (some (.obj x) :: δ) s).bind fun ds s1 => forL tg F ds (some (.obj x) :: δ) s1) ((src (some (.obj y) :: δ) s).bind fun ds s1 => forL tg F ds (some (.obj y) :: δ) s1)
  rw [hs (some (.obj x)) (some (.obj y)) δ s]
  cases src (some (.obj y) :: δ) s with
  | stuck => exact .inr (.inl ⟨rfl, rfl⟩)
  | err e s1 => exact .inr (.inr ⟨_, _, rfl, rfl⟩)
  | ok ds s1 => exact ins_forL ht h x y ds δ s1
theorem sale_hx {n : Nat} {body : En → M Fl} (h : Ins0 body) (x : Addr) (ds : List D) (s : S) : saleX n body x ds s = saleX n body 0 ds s := by
  unfold saleX
  split
  · have e : ∀ z : Addr, startD n (.obj z :: ds) = some (.obj z) :: (ds.map some ++ List.replicate (n - (ds.length + 1)) none) := fun z => rfl
    rw [e, e]
    rcases h x 0 (ds.map some ++ List.replicate (n - (ds.length + 1)) none) s with ⟨δ', s', e1, e2⟩ | ⟨e1, e2⟩ | ⟨e, s', e1, e2⟩
    · rw [e1, e2, bind_ok, bind_ok]
      unfold saleE
      simp [isOb]
    · rw [e1, e2]; rfl
    · rw [e1, e2]; rfl
  · rfl
/-! ### an owned list is let go -/
def cEnd (F : En → M Fl) : En → M Fl := fun δ s => (match F δ s with | .ok (.ret d) s1 => .ok (.ret d) s1 | .err e s1 => .err e s1 | _ => .stuck)
def endO : Out Fl → Out Fl
  | .ok (.ret d) s1 => .ok (.ret d) s1
  | .err e s1 => .err e s1
  | _ => .stuck
@[simp] theorem e_end (F : En → M Fl) (δ : En) (s : S) : cEnd F δ s = endO (F δ s) := by
  unfold cEnd endO
  cases F δ s with
  | stuck => rfl
  | err e s1 => rfl
  | ok fl s1 => cases fl <;> rfl
@[simp] theorem endO_ret (d : D) (s : S) : endO (.ok (.ret d) s) = .ok (.ret d) s := rfl
section
variable {B : Bs} {W : List Nat} {E : Option XK}
theorem rs_rel {i : Nat} {W' : List Nat} {t : TS} {F : En → M Fl} (hW : W.filter (· != i) = W') (h : RdS B W' E t F) : RdS B W E t (cEnd F) := by
  intro r sa H0 O0 O σ δ s H gd D hp
  rw [e_end] at hp
  obtain ⟨O', gd', sub⟩ := gd.peek (i := i)
  rw [hW] at gd'
  refine h gd' D ?_
  cases q : F δ s with
  | stuck => rw [q] at hp; exact hp
  | err e s1 => rw [q] at hp; exact hp
  | ok fl s1 =>
    rw [q] at hp
    cases fl with
    | ret d => exact hp
    | next δ' => exact hp.elim
    | brk δ' => exact hp.elim
    | cont δ' => exact hp.elim
/-- x + e, x owned: a new list -/
def cAddO (i : Nat) (f : En → M D) : En → M (List D) := fun δ s => (lift (ownL δ i) s).bind fun ds s0 => (f δ s0).bind fun d s1 => (lift (asLst d) s1).bind fun es s2 => if ds.length + es.length ≤ 100000 then .ok (ds ++ es) s2 else .stuck
@[simp] theorem e_addO (i : Nat) (f : En → M D) (δ : En) (s : S) : cAddO i f δ s = (lift (ownL δ i) s).bind fun ds s0 => (f δ s0).bind fun d s1 => (lift (asLst d) s1).bind fun es s2 => if ds.length + es.length ≤ 100000 then .ok (ds ++ es) s2 else .stuck := rfl
theorem rl_addO {i : Nat} {te : TE} {f : En → M D} (h : RdE B W E te f) (hi : decide (i ∈ W) = true := by rfl) : RdL B W E (tOp (rAddU B.K) (tVar i) te) (cAddO i f) := by
  intro r sa H0 O0 O σ δ s H gd Q hp
  obtain ⟨ds, e0, hp⟩ := post_lift (post_bind hp)
  have e1 := ownL_some e0
  obtain ⟨p, vs, ds', h1, h2, h3, h4, h5, h6⟩ := gd.own i _ (of_decide_eq_true hi) e1
  cases h1
  refine ⟨_, h2, h gd _ (post_mono (post_bind hp) (fun d s1 hx v H1 st ra rp => ?_) (fun _ _ z => z))⟩
  obtain ⟨es, e2, hy⟩ := post_lift (post_bind hx)
  cases asLst_some e2
  obtain ⟨b, ws, rfl, hb, hw⟩ := rp.inv_lst
  split at hy
  · rename_i hl
    have h5' := st p _ (fun z => h4 (z ▸ gd.r0)) h5
    have sm := st.hid gd.rO
    refine .inr (.inl ⟨p, b, vs, ws, rfl, rfl, h5', hid_le _ _ hb, Evl.sz_of (by rw [h6.length, hw.length]; exact hl), fun q hq => ?_⟩)
    have n0 : H q = none := by
      cases z : H q with
      | none => rfl
      | some u =>
        by_cases w : q = r
        · subst w; rw [ra.1] at hq; cases hq
        · rw [st q u w z] at hq; cases hq
    refine hy q (vs ++ ws) _ (st.trans (Stp.new hq)) (ra.new hq) n0 upd_same (((h6.mono sm).append hw).mono fun a u e => ?_)
    have ⟨k1, k2⟩ := hid_some e
    have na : a ≠ q := ne_of_none k2 hq
    rw [hid_out (by simp [na, k1]), upd_ne na]; exact k2
  · exact hy.elim
/-! ### isinstance(x, (S, T)) -/
def gIsi2 (S T : String) (d : D) : Option D := match tyD d with | some t => (match kitB t S, kitB t T with | some a, some b => some (.bl (a || b)) | _, _ => none) | none => none
theorem rd_isi2 {ta : TE} {fa : En → M D} {S T : String} (ha : RdE B W E ta fa) : RdE B W E (tCB (rIsiT B.K) (tCons ta (tCons (tTup (tCons (tC (.ty S)) (tCons (tC (.ty T)) tNil))) tNil))) (cUn (gIsi2 S T) fa) := by
  intro r sa H0 O0 O σ δ s H gd Q h
  refine ha gd _ (post_mono (post_bind h) (fun x s1 hx v H1 st ra rp => ?_) (fun _ _ z => z))
  obtain ⟨d, e, hd⟩ := post_lift hx
  unfold gIsi2 at e
  split at e
  · rename_i t ht
    split at e
    · rename_i a b k1 k2
      cases e
      refine ⟨(by show 2 ≤ sizeLine; decide), fun p hp => ?_⟩
      have rp' := rp.mono (hid_new (O := O) (o := .tup [V.ty S, .ty T]) hp (gd.step st ra).dom).1
      refine ⟨v, p, [.ty S, .ty T], .type t, [.type S, .type T], a || b, rfl, upd_same, .cons (.ty S) (.cons (.ty T) .nil), rep_ty (rp'.mono hid_le) ht, ?_, hd _ _ (st.trans (Stp.new hp)) (ra.new hp) (.bl _)⟩
      refine kitAny_cons (kit_ty k1) (fun z => ?_) (fun z => by rw [z]; rfl)
      rw [z, Bool.false_or]
      refine kitAny_cons (kit_ty k2) (fun z => ?_) (fun z => z)
      rw [z]; exact kitAny_nil
    · cases e
  · cases e
end
end PV

namespace PV
open PySem L2
/-! ### range(i, j, -1) -/
def dwn (lo : Int) (n : Nat) : List D := (List.range n).map fun (i : Nat) => D.int (lo - (i : Int))
def gR3 : List D → Option (List D) | [.int i, .int j, .int k] => if -(2 ^ 62) ≤ i ∧ i < 2 ^ 62 ∧ -(2 ^ 62) ≤ j ∧ j < 2 ^ 62 ∧ k = -1 then some (dwn i (i - j).toNat) else none | _ => none
section
variable {B : Bs} {W : List Nat} {E : Option XK}
theorem dwn_get {lo : Int} {n i : Nat} {d : D} (h : (dwn lo n)[i]? = some d) : i < n ∧ d = .int (lo - (i : Int)) := by
  unfold dwn at h
  rw [List.getElem?_map] at h
  obtain ⟨j, h1, h2⟩ := Option.map_eq_some_iff.mp h
  obtain ⟨h3, h4⟩ := List.getElem?_eq_some_iff.mp h1
  rw [List.length_range] at h3
  rw [List.getElem_range] at h4
  subst h4
  exact ⟨h3, h2.symm⟩
@[simp] theorem dwn_len {lo : Int} {n : Nat} : (dwn lo n).length = n := by unfold dwn; simp
theorem wk_down {r : Addr} {O : List Addr} {H1 : Hp} {lo : Int} {n : Nat} : Wk B r O H1 (Itc lo (-1) n) (dwn lo n) := by
  intro O' H2 sm hd
  refine ⟨fun i hi => by rw [dwn_len] at hi; exact hi, by rw [dwn_len]; exact Nat.le_refl n, fun i x H3 d hi hy => ?_⟩
  obtain ⟨rfl, rfl⟩ := hy
  obtain ⟨_, rfl⟩ := dwn_get hi
  refine ⟨Same.refl _, ?_⟩
  rw [show lo + (i : Int) * (-1) = lo - (i : Int) by omega]
  exact .int _
theorem ri_r3 {ta : TA} {f : En → M (List D)} (ha : RdA B W E ta f) : RdI B W E (iRng3 ta) (cItA gR3 f) := by
  intro r sa H0 O0 O σ δ s H gd R h
  refine ha gd _ (post_mono (post_bind h) (fun x s1 hx v H1 st ra rp => ?_) (fun _ _ z => z))
  obtain ⟨ds, e, hd⟩ := post_lift hx
  unfold gR3 at e
  split at e
  · split at e
    · rename_i hj
      obtain ⟨h1, h2, h3, h4, rfl⟩ := hj
      cases e
      cases rp with | cons r1 r2 => cases r1; cases r2 with | cons r1 r2 => cases r1; cases r2 with | cons r1 r2 => cases r1; cases r2; exact ⟨_, _, _, _, rfl, RgC.neg h1 h2 h3 h4, hd _ H1 st ra wk_down⟩
    · cases e
  · cases e
/-! ### an owned list is let go, and its name is forgotten behind the rest of a loop's suite -/
def relO (i : Nat) : Out Fl → Out Fl
  | .ok (.next δ') s1 => .ok (.next (δ'.set i none)) s1
  | .ok (.ret d) s1 => .ok (.ret d) s1
  | .err e s1 => .err e s1
  | _ => .stuck
def cRelN (i : Nat) (F : En → M Fl) : En → M Fl := fun δ s => relO i (F δ s)
@[simp] theorem e_relN (i : Nat) (F : En → M Fl) (δ : En) (s : S) : cRelN i F δ s = relO i (F δ s) := rfl
@[simp] theorem relO_next (i : Nat) (δ : En) (s : S) : relO i (.ok (.next δ) s) = .ok (.next (δ.set i none)) s := rfl
@[simp] theorem relO_ret (i : Nat) (d : D) (s : S) : relO i (.ok (.ret d) s) = .ok (.ret d) s := rfl
theorem same_sub {H : Hp} {O O' : List Addr} (sub : ∀ a ∈ O', a ∈ O) : Same (hid H O) (hid H O') := by
  intro a o h
  unfold hid at h ⊢
  split at h
  · cases h
  · rename_i n
    rw [if_neg (fun z => n (sub a z))]; exact h
theorem Gd.unname {r sa : Addr} {H0 : Hp} {O0 O : List Addr} {σ : St} {δ : En} {s : S} {H : Hp} {i : Nat} (g : Gd B r sa H0 O0 (W.filter (· != i)) O σ δ s H) : Gd B r sa H0 O0 W O σ (δ.set i none) s H := by
  have key : ∀ j d, (δ.set i none)[j]? = some (some d) → j ≠ i ∧ δ[j]? = some (some d) := fun j d q => by
    by_cases z : i = j
    · subst z
      rw [List.getElem?_set] at q
      split at q
      · split at q <;> cases q
      · rename_i z; exact absurd rfl z
    · rw [List.getElem?_set_ne z] at q; exact ⟨fun w => z w.symm, q⟩
  refine ⟨by rw [List.length_set]; exact g.len, g.row, g.r0, g.dom, g.dom0, g.sub, g.frsh, g.stp, fun j d hj q => ?_, fun j d hj q => ?_, fun j k p d e hj hk ne q1 q2 q3 q4 => ?_⟩
  · obtain ⟨a, b⟩ := key j d q
    exact g.val j d (fun z => hj (List.mem_filter.mp z).1) b
  · obtain ⟨a, b⟩ := key j d q
    exact g.own j d (List.mem_filter.mpr ⟨hj, by simp [a]⟩) b
  · obtain ⟨a1, b1⟩ := key j d q1
    obtain ⟨a2, b2⟩ := key k e q2
    exact g.inj j k p d e (List.mem_filter.mpr ⟨hj, by simp [a1]⟩) (List.mem_filter.mpr ⟨hk, by simp [a2]⟩) ne b1 b2 q3 q4
theorem rs_relN {i : Nat} {W' : List Nat} {t : TS} {F : En → M Fl} (hW : W.filter (· != i) = W') (h : RdS B W' E t F) : RdS B W E t (cRelN i F) := by
  intro r sa H0 O0 O σ δ s H gd D hp
  rw [e_relN] at hp
  obtain ⟨O', gd', sub⟩ := gd.peek (i := i)
  rw [hW] at gd'
  refine h gd' D ?_
  cases q : F δ s with
  | stuck => rw [q] at hp; exact hp
  | err e s1 => rw [q] at hp; exact hp
  | ok fl s1 =>
    rw [q] at hp
    cases fl with
    | ret d => exact hp
    | next δ' =>
      intro O2 σ2 H2 g sm
      subst hW
      exact hp O2 σ2 H2 g.unname ((same_sub sub).trans sm)
    | brk δ' => exact hp.elim
    | cont δ' => exact hp.elim
end
end PV

namespace PV
open PySem L2
/-! ### a dict keyed by tuples of ints: reading -/
def intsD : List D → Option (List Int)
  | [] => some []
  | .int i :: ds => (intsD ds).map (i :: ·)
  | _ :: _ => none
theorem intsD_some : ∀ {ds : List D} {key : List Int}, intsD ds = some key → ds = key.map D.int
  | [], key, e => by cases e; rfl
  | d :: ds, key, e => by
    cases d with
    | int i =>
      obtain ⟨l, h1, h2⟩ := Option.map_eq_some_iff.mp (show (intsD ds).map (i :: ·) = some key from e)
      subst h2
      rw [intsD_some h1]; rfl
    | _ => cases e
@[simp] theorem intsD_map : ∀ (key : List Int), intsD (key.map D.int) = some key
  | [] => rfl
  | i :: key => by simp [intsD, intsD_map key]
def dGet : List (List Int) → List D → List Int → Option D
  | k :: ks, d :: ds, key => if k = key then some d else dGet ks ds key
  | _, _, _ => none
def gGetT : D → D → Option D
  | .dct ks ds, .tup es => (intsD es).bind fun key => dGet ks ds key
  | _, _ => none
section
variable {B : Bs} {W : List Nat} {E : Option XK}
theorem reps_ints {r : Addr} {H : Hp} : ∀ {key : List Int} {us : List V}, Reps B r H us (key.map D.int) → us = (kI key).map kV
  | [], _, .nil => rfl
  | i :: key, _, .cons h hs => by
    cases h
    rw [reps_ints hs]; rfl
theorem kI_inj : ∀ {a b : List Int}, kI a = kI b → a = b
  | [], [], _ => rfl
  | [], _ :: _, h => by cases h
  | _ :: _, [], h => by cases h
  | x :: a, y :: b, h => by
    have h' : (Sum.inl x : Key) :: kI a = Sum.inl y :: kI b := h
    injection h' with h1 h2
    injection h1 with h1
    rw [h1, kI_inj h2]
theorem dGet_val {r : Addr} {H : Hp} {key : List Int} : ∀ {ks : List (List Int)} {vs : List V} {ds : List D} {d : D}, ks.length = vs.length → Reps B r H vs ds → dGet ks ds key = some d → ∃ v, valV ((ks.map kI).zip vs) (kI key) = some v ∧ Rep B r H v d
  | [], [], _, d, _, .nil, e => by cases e
  | [], _ :: _, _, _, hl, _, _ => by simp at hl
  | _ :: _, [], _, _, hl, _, _ => by simp at hl
  | k :: ks, w :: vs, _, d, hl, .cons (d := d0) (ds := ds0) h hs, e => by
    unfold dGet at e
    by_cases z : k = key
    · rw [if_pos z] at e
      cases e
      refine ⟨w, ?_, h⟩
      unfold valV
      rw [List.map_cons, List.zip_cons_cons, List.find?_cons, z]
      simp
    · rw [if_neg z] at e
      obtain ⟨v, h1, h2⟩ := dGet_val (by simpa using hl) hs e
      refine ⟨v, ?_, h2⟩
      have ne : ¬ kI k = kI key := fun q => z (kI_inj q)
      unfold valV at h1 ⊢
      rw [List.map_cons, List.zip_cons_cons, List.find?_cons]
      simp only [decide_eq_true_eq, ne, decide_false]
      exact h1
theorem rd_dgetT (hB : B.lit = false) {td ty : TE} {fa fb : En → M D} (ha : RdE B W E td fa) (hb : RdE B W E ty fb) : RdE B W E (tDGet td ty) (cOp gGetT fa fb) := by
  intro r sa H0 O0 O σ δ s H gd Q h
  refine ha gd _ (post_mono (post_bind h) (fun x s1 hx v H1 st ra rp => ?_) (fun _ _ z => z))
  have gd1 := gd.step st ra
  refine hb gd1 _ (post_mono (post_bind hx) (fun y s2 hy w H2 st2 ra2 rq => ?_) (fun _ _ z => z.mono st))
  obtain ⟨d, e, hd⟩ := post_lift hy
  have rp2 := rp.mono (st2.hid gd.rO)
  cases x with
  | dct ks ds =>
    cases y with
    | tup es =>
      obtain ⟨key, h1, h2⟩ := Option.bind_eq_some_iff.mp (show (intsD es).bind (fun key => dGet ks ds key) = some d from e)
      have he := intsD_some h1
      subst he
      obtain ⟨b, us, rfl, hA, hs⟩ := rq.inv_tupA
      have tr : hid H2 O b = some (.tup us) := hA.elim id fun z => by rw [hB] at z; cases z.1
      cases rp2 with
      | dct g1 g2 g3 g4 =>
        subst g2
        obtain ⟨v', k1, k2⟩ := dGet_val g3 g4 h2
        refine ⟨_, v', rfl, .inr ⟨_, kI key, b, .inl (hid_le _ _ g1), rfl, ?_, k1.symm⟩, hd v' H2 (st.trans st2) ra2 k2⟩
        rw [← reps_ints hs]
        exact hid_le _ _ tr
    | _ => cases e
  | _ => cases e
/-! ### a dict that is filled in one loop -/
theorem Gd.takeIn {r sa : Addr} {H0 : Hp} {O0 O : List Addr} {σ : St} {δ : En} {s : S} {H : Hp} {p : Addr} {o : HO} (g : Gd B r sa H0 O0 W O σ δ s H) (hn : H p = none) : Gd B r sa H0 O0 W (p :: O) σ δ s (upd H p o) ∧ Same (hid H O) (hid (upd H p o) (p :: O)) := by
  have far : ∀ {a : Addr} {u : HO}, H a = some u → a ≠ p := fun e => ne_of_none e hn
  have sm : Same (hid H O) (hid (upd H p o) (p :: O)) := fun a u e => by
    have ⟨h1, h2⟩ := hid_some e
    have np := far h2
    rw [hid_out (fun z => by rcases List.mem_cons.mp z with z | z; exact np z; exact h1 z), upd_ne np]; exact h2
  refine ⟨⟨g.len, g.row.new hn, g.r0, fun q hq => ?_, g.dom0, fun q hq => List.mem_cons_of_mem _ (g.sub q hq), fun q hq => ?_, g.stp.trans (Stp.new hn), fun j d hj e => ?_, fun j d hj e => ?_, g.inj⟩, sm⟩
  · rcases List.mem_cons.mp hq with rfl | z
    · rw [upd_same]; simp
    · have np : q ≠ p := fun w => g.dom q z (w ▸ hn)
      rw [upd_ne np]; exact g.dom q z
  · rcases List.mem_cons.mp hq with rfl | z
    · refine .inr ?_
      cases e : H0 q with
      | none => rfl
      | some u =>
        have nr : q ≠ r := fun w => g.dom r g.rO (w ▸ hn)
        rw [g.stp q u nr e] at hn; cases hn
    · exact g.frsh q z
  · obtain ⟨v, h1, h2⟩ := g.val j d hj e
    exact ⟨v, h1, h2.mono sm⟩
  · obtain ⟨q, vs, ds, h1, h2, h3, h4, h5, h6⟩ := g.own j d hj e
    exact ⟨q, vs, ds, h1, h2, List.mem_cons_of_mem _ h3, h4, by rw [upd_ne (far h5)]; exact h5, h6.mono sm⟩
theorem Gd.rewrite {r sa : Addr} {H0 : Hp} {O0 O : List Addr} {σ : St} {δ : En} {s : S} {H : Hp} {p : Addr} {k k' : List (List Key × V)} (g : Gd B r sa H0 O0 W O σ δ s H) (hp : p ∈ O) (h0 : p ∉ O0) (hk : H p = some (.dT k)) : Gd B r sa H0 O0 W O σ δ s (upd H p (.dT k')) ∧ hid (upd H p (.dT k')) O = hid H O := by
  have eh : hid (upd H p (.dT k')) O = hid H O := hid_upd hp
  have npr : p ≠ r := fun z => h0 (z ▸ g.r0)
  refine ⟨⟨g.len, ⟨by rw [upd_ne (Ne.symm npr)]; exact g.row.1, g.row.2.elim (fun ⟨o, q⟩ => .inl ⟨o, by rw [upd_ne (ne_of q hk (fun z => nomatch z))]; exact q⟩) .inr⟩, g.r0, fun q hq => ?_, g.dom0, g.sub, g.frsh, fun a u na e => ?_, fun j d hj e => ?_, fun j d hj e => ?_, g.inj⟩, eh⟩
  · by_cases z : q = p
    · subst z; rw [upd_same]; simp
    · rw [upd_ne z]; exact g.dom q hq
  · have np : a ≠ p := fun z => by
      subst z
      rcases g.frsh a hp with w | w
      · exact h0 w
      · rw [w] at e; cases e
    rw [upd_ne np]; exact g.stp a u na e
  · rw [eh]; exact g.val j d hj e
  · obtain ⟨q, vs, ds, h1, h2, h3, h4, h5, h6⟩ := g.own j d hj e
    exact ⟨q, vs, ds, h1, h2, h3, h4, by rw [upd_ne (ne_of h5 hk (fun z => nomatch z))]; exact h5, by rw [eh]; exact h6⟩
theorem Gd.letOut {r sa : Addr} {H0 : Hp} {O0 O : List Addr} {σ : St} {δ : En} {s : S} {H : Hp} {p : Addr} {k : List (List Key × V)} (g : Gd B r sa H0 O0 W (p :: O) σ δ s H) (h0 : p ∉ O0) (hk : H p = some (.dT k)) : Gd B r sa H0 O0 W O σ δ s H := by
  have sm : Same (hid H (p :: O)) (hid H O) := hid_sub fun a z => List.mem_cons_of_mem _ z
  refine ⟨g.len, g.row, g.r0, fun q hq => g.dom q (List.mem_cons_of_mem _ hq), g.dom0, fun q hq => ?_, fun q hq => g.frsh q (List.mem_cons_of_mem _ hq), g.stp, fun j d hj e => ?_, fun j d hj e => ?_, g.inj⟩
  · rcases List.mem_cons.mp (g.sub q hq) with z | z
    · exact absurd (z ▸ hq) h0
    · exact z
  · obtain ⟨v, h1, h2⟩ := g.val j d hj e
    exact ⟨v, h1, h2.mono sm⟩
  · obtain ⟨q, vs, ds, h1, h2, h3, h4, h5, h6⟩ := g.own j d hj e
    refine ⟨q, vs, ds, h1, h2, ?_, h4, h5, h6.mono sm⟩
    rcases List.mem_cons.mp h3 with z | z
    · subst z; rw [hk] at h5; cases h5
    · exact z
def asKey : D → Option (List Int)
  | .tup es => intsD es
  | _ => none
def fillL (tg : D → En → Option En) (fk fv : En → M D) : List D → List (List Int) → List D → En → M (En × List (List Int) × List D)
  | [], ks, ds, δ, s => .ok (δ, ks, ds) s
  | d :: xs, ks, ds, δ, s => (lift (tg d δ) s).bind fun δ1 s1 => (fv δ1 s1).bind fun v s2 => (fk δ1 s2).bind fun k s3 => (lift (asKey k) s3).bind fun key s4 => if key ∉ ks ∧ ks.length < 100000 then fillL tg fk fv xs (ks ++ [key]) (ds ++ [v]) δ1 s4 else .stuck
def cFill (i : Nat) (src : En → M (List D)) (tg : D → En → Option En) (fk fv : En → M D) : En → M Fl := fun δ s => if i < δ.length then (src (δ.set i none) s).bind fun xs s1 => (fillL tg fk fv xs [] [] (δ.set i none) s1).bind fun q s2 => .ok (.next (q.1.set i (some (.dct q.2.1 q.2.2)))) s2 else .stuck
theorem valV_no {key : List Int} : ∀ {ks : List (List Int)} {vs : List V}, key ∉ ks → valV ((ks.map kI).zip vs) (kI key) = none
  | [], vs, _ => by simp [valV]
  | k :: ks, [], _ => by simp [valV]
  | k :: ks, w :: vs, h => by
    have ih := valV_no (key := key) (ks := ks) (vs := vs) (fun z => h (List.mem_cons_of_mem _ z))
    have ne : ¬ kI k = kI key := fun q => h (by rw [kI_inj q]; exact List.mem_cons_self)
    unfold valV at ih ⊢
    rw [List.map_cons, List.zip_cons_cons, List.find?_cons]
    simp only [decide_eq_true_eq, ne, decide_false]
    exact ih
theorem rs_fill {i : Nat} {wi : TI} {src : En → M (List D)} {ts : List Nat} {g : TG} {tg : D → En → Option En} {tk tv : TE} {fk fv : En → M D} (hB : B.lit = false) (hi : RdI B W E wi src) (hg : RdG B W ts g tg) (hk : RdE B W E tk fk) (hv : RdE B W E tv fv) (hii : decide (i ∉ W ∧ i ∉ ts) = true := by decide) :
    RdS B W E (tSeq (tAsg tDNewT (gName i)) (tFor wi g (sDPut (tVar i) tk tv))) (cFill i src tg fk fv) := by
  intro r sa H0 O0 O σ δ s H gd D h
  obtain ⟨iW, its⟩ := of_decide_eq_true hii
  have h : (if i < δ.length then (src (δ.set i none) s).bind fun xs s1 => (fillL tg fk fv xs [] [] (δ.set i none) s1).bind fun q s2 => .ok (.next (q.1.set i (some (.dct q.2.1 q.2.2)))) s2 else .stuck : Out Fl).post (FlP B r sa H0 O0 W O H D) (EPost B E r sa H0 O0) := h
  split at h
  · rename_i hlen
    intro p hn
    obtain ⟨g1, sm1⟩ := gd.takeIn (o := .dT []) hn
    have g2 := (g1.drop (i := i)).hole (i := i) (x := some (.ref p)) (fun d => set_hole d)
    have p0 : p ∉ O0 := (gd.fresh0 hn).2
    have pO : p ∉ O := (gd.fresh0 hn).1
    have npr : p ≠ r := fun z => p0 (z ▸ gd.r0)
    refine hi g2 _ (post_mono (post_bind h) (fun xs s1 hx J H1 st ra wk => ?_) (fun _ _ z => z.up g2))
    have g3 := g2.step st ra
    refine ⟨fun n mm σ2 H2 => mm = xs.length - n ∧ n ≤ xs.length ∧ ∃ δ2 s2 ks vs ds, Gd B r sa H0 O0 W (p :: O) σ2 δ2 s2 H2 ∧ Same (hid H1 (p :: O)) (hid H2 (p :: O)) ∧ H2 p = some (.dT ((ks.map kI).zip vs)) ∧ ks.length = vs.length ∧ Reps B r (hid H2 (p :: O)) vs ds ∧ σ2[i]? = some (some (.ref p)) ∧ (fillL tg fk fv (xs.drop n) ks ds δ2 s2).post (fun q s' => FlP B r sa H0 O0 W O H D (.next (q.1.set i (some (.dct q.2.1 q.2.2)))) s') (EPost B E r sa H0 O0),
      ⟨xs.length, by omega, by omega, δ.set i none, s1, [], [], [], g3, Same.refl _, st p _ npr upd_same, rfl, .nil, List.getElem?_set_self (by rw [gd.len]; exact hlen), by rw [List.drop_zero]; exact post_bind hx⟩, ?_⟩
    rintro n mm σ2 H2 ⟨rfl, hle, δ2, s2, ks, vs, ds, gd2, sm, hD, hl, hr, hσ, hp⟩
    obtain ⟨w1, w2, w3⟩ := wk (p :: O) H2 sm gd2.dom
    by_cases hlt : n < xs.length
    · refine .inr ⟨w1 n hlt, fun σ' H' => ∃ δ3 s3 ks vs ds, Gd B r sa H0 O0 W (p :: O) σ' δ3 s3 H' ∧ Same (hid H1 (p :: O)) (hid H' (p :: O)) ∧ H' p = some (.dT ((ks.map kI).zip vs)) ∧ ks.length = vs.length ∧ Reps B r (hid H' (p :: O)) vs ds ∧ σ'[i]? = some (some (.ref p)) ∧ (fillL tg fk fv (xs.drop (n + 1)) ks ds δ3 s3).post (fun q s' => FlP B r sa H0 O0 W O H D (.next (q.1.set i (some (.dct q.2.1 q.2.2)))) s') (EPost B E r sa H0 O0),
        fun σ' H' q => ⟨xs.length - (n + 1), by omega, rfl, by omega, q⟩, fun x H' hy => ?_⟩
      obtain ⟨sm3, rp⟩ := w3 n x H' xs[n] (by simp [hlt]) hy
      have gd3 := gd2.step (Stp.of sm3) (gd2.row.same sm3)
      have smh := hid_same (O := p :: O) sm3
      rw [List.drop_eq_getElem_cons hlt] at hp
      obtain ⟨δ3, e, hp⟩ := post_lift (post_bind hp)
      refine hg gd3 rp e _ fun σ3 gd4 keep _ => ?_
      have hσ3 : σ3[i]? = some (some (.ref p)) := (keep i its).trans hσ
      refine hv gd4 _ (post_mono (post_bind hp) (fun dv s4 hq v H4 st4 ra4 rv => ?_) (fun _ _ z => z.up gd4))
      refine ⟨.ref p, hσ3, ?_⟩
      have gd5 := gd4.step st4 ra4
      refine hk gd5 _ (post_mono (post_bind hq) (fun dk s5 hq2 y H5 st5 ra5 rk => ?_) (fun _ _ z => z.up gd5))
      obtain ⟨key, ek, hq3⟩ := post_lift (post_bind hq2)
      have gd6 := gd5.step st5 ra5
      split at hq3
      · rename_i hc
        cases dk with
        | tup es =>
          have he := intsD_some (show intsD es = some key from ek)
          subst he
          obtain ⟨b, us, rfl, hA, hs⟩ := rk.inv_tupA
          have tr : hid H5 (p :: O) b = some (.tup us) := hA.elim id fun z => by rw [hB] at z; cases z.1
          have hb : H5 b = some (.tup ((kI key).map kV)) := by rw [← reps_ints hs]; exact hid_le _ _ tr
          have hD6 : H5 p = some (.dT ((ks.map kI).zip vs)) := st5 p _ npr (st4 p _ npr (sm3 _ _ hD))
          have hr6 : Reps B r (hid H5 (p :: O)) vs ds := ((hr.mono smh).mono (st4.hid gd4.rO)).mono (st5.hid gd5.rO)
          have rv6 := rv.mono (st5.hid gd5.rO)
          have hz : ((ks.map kI).zip vs).length + 1 ≤ sizeLine := by
            refine Evl.sz_of ?_
            rw [List.length_zip, List.length_map, ← hl, Nat.min_self]
            exact hc.2
          refine ⟨p, _, rfl, DPut.t hD6 hb hz, ?_⟩
          rw [putK_new v (valV_no hc.1)]
          obtain ⟨g7, eh⟩ := gd6.rewrite (k' := (ks.map kI).zip vs ++ [(kI key, v)]) (by simp) p0 hD6
          have ez : (ks.map kI).zip vs ++ [(kI key, v)] = ((ks ++ [key]).map kI).zip (vs ++ [v]) := by
            rw [List.map_append, List.zip_append (by rw [List.length_map]; exact hl)]; rfl
          refine ⟨δ3, s5, ks ++ [key], vs ++ [v], ds ++ [dv], g7, ?_, ?_, ?_, ?_, hσ3, hq3⟩
          · rw [eh]; exact ((sm.trans smh).trans (st4.hid gd4.rO)).trans (st5.hid gd5.rO)
          · rw [upd_same, ez]
          · simp [hl]
          · rw [eh]; exact hr6.append (.cons rv6 .nil)
        | _ => cases ek
      · exact hq3.elim
    · have e : n = xs.length := by omega
      subst e
      rw [List.drop_length] at hp
      refine .inl ⟨w2, ?_⟩
      have gF := (gd2.letOut p0 hD).set (i := i) (v := .ref p) (d := .dct ks ds) iW (.dct (by rw [hid_out pO]; exact hD) rfl hl (hr.mono (hid_sub fun a z => List.mem_cons_of_mem _ z)))
      have es : σ2.set i (some (.ref p)) = σ2 := by
        refine List.ext_getElem? fun j => ?_
        rw [List.getElem?_set]
        split
        · rename_i z
          subst z
          rw [hσ]
          have : i < σ2.length := (List.getElem?_eq_some_iff.mp hσ).1
          rw [if_pos this]
        · rfl
      rw [es] at gF
      exact hp O σ2 H2 gF (((sm1.trans (st.hid g2.rO)).trans sm).trans (hid_sub fun a z => List.mem_cons_of_mem _ z))
  · exact h.elim
theorem rs_fill2 {i : Nat} {wi : TI} {src : En → M (List D)} {ts : List Nat} {g : TG} {tg : D → En → Option En} {tk tv : TE} {fk fv : En → M D} {t : TS} {F : En → M Fl} (hB : B.lit = false) (hi : RdI B W E wi src) (hg : RdG B W ts g tg) (hk : RdE B W E tk fk) (hv : RdE B W E tv fv) (h : RdS B W E t F) (hii : decide (i ∉ W ∧ i ∉ ts) = true := by decide) :
    RdS B W E (tSeq (tAsg tDNewT (gName i)) (tSeq (tFor wi g (sDPut (tVar i) tk tv)) t)) (cSeq (cFill i src tg fk fv) F) := by
  have key : RdS B W E (tSeq (tSeq (tAsg tDNewT (gName i)) (tFor wi g (sDPut (tVar i) tk tv))) t) (cSeq (cFill i src tg fk fv) F) := rs_seq (rs_fill hB hi hg hk hv hii) h
  intro r sa H0 O0 O σ δ s H gd D hp
  exact key gd D hp
@[simp] theorem e_fill (i src tg fk fv) (δ : En) (s : S) : cFill i src tg fk fv δ s = if i < δ.length then (src (δ.set i none) s).bind fun xs s1 => (fillL tg fk fv xs [] [] (δ.set i none) s1).bind fun q s2 => .ok (.next (q.1.set i (some (.dct q.2.1 q.2.2)))) s2 else .stuck := rfl
end
end PV

namespace PV
open PySem L2 PySem.Spec
/-! ### {k: v for target in iter}, the keys being tuples -/
def tDcT (wi : TI) (g : TG) (tk tv : TE) (vs : List Nat) : TE := fun σ H Q => wi σ H fun J H1 => ∀ D, H1 D = none →
  ∃ P : Nat → Nat → Hp → Prop, (∃ m, P 0 m (upd H1 D (.dT []))) ∧ ∀ i m G, P i m G →
    (J.stop i G ∧ Q (.ref D) G) ∨ (J.go i G ∧ ∀ x G1, J.yld i G x G1 → g x (wipe σ vs) G1 fun σ1 G2 => wipe σ1 vs = wipe σ vs ∧
      tk σ1 G2 fun y G3 => tv σ1 G3 fun z G4 => ∃ b kvs k, y = .ref b ∧ G4 b = some (.tup (k.map kV)) ∧ G4 D = some (.dT kvs) ∧ kvs.length < sizeLine ∧ ∃ m', m' < m ∧ P (i + 1) m' (upd G4 D (.dT (putK kvs k z))))
theorem set_dT {X : Cx} {pins : List (Addr × Obj)} {σ : L2.St} {H : Hp} {s : Shared} {E : Value → Shared → Prop} {D b : Addr} {kvs : List (List Key × V)} {k : List Key} {v : V} {r : Value} {Q : Unit → Shared → Prop}
    (room : X.A.units < cLine) (inv : L2.Inv X pins σ H s) (here : H D = some (.dT kvs)) (tup : H b = some (.tup (k.map kV))) (few : kvs.length < sizeLine) (rv : RelV v r)
    (go : ∀ t, L2.Inv X pins σ (upd H D (.dT (putK kvs k v))) t → Q () t) : wpAny (model X.prog X.w) X.A (dictSet D (.ref b) r) Q E s := by
  obtain ⟨_, nsys, xs, pairs, lies⟩ := dt_of inv.hok here
  have few' : xs.length ≤ sizeLine := by have := Paired.length pairs; omega
  refine wpAny_dictSet_heap (hsz := few') (show (tupleKind (mixKind X.prog X.w)).room X.A from room) (key_of inv.hok tup) lies ?_
  rintro h' ⟨q, es, ep, c1, c2, c3, c4, _, c5⟩ same
  apply go
  have big := length_putK kvs k v
  refine d_write inv (by rw [here]; trivial) same ⟨q, c1⟩ ⟨by omega, nsys, _, (pairs.put k tup rv).keeps ?_, q, es, ep, c1, c2, c3, c4, c5⟩
  intro c ys ec
  have : c ≠ D := ne_of ec here (fun z => nomatch z)
  rw [upd_ne this]; exact ec
section
variable {Y : Cx} {kx vx tg iter : Expr} {scope : Scope} {pos : Pos} {g : TG} {tk tv : TE} {vs : List Nat} {J : It} {fp : List Addr} {it D : Addr} {tn : Nat → Heap → Prop} {σ : L2.St} {Fin : Hp → Prop} {R : Result → Shared → Prop} {P : Nat → Nat → Hp → Prop}
/-- the turns of the block -/
theorem dcT_turns (room : Y.A.units < cLine) (calm : Y.calm = true) (quiet : Y.xe = fun _ _ => False) (T : Turn Y.prog Y.w Y.K tg J fp it tn) (tgt : PG Y tg g) (key : PE Y kx tk) (val : PE Y vx tv)
    (loose : ∀ {τ : L2.St} {G : Hp} {t : Shared}, L2.Inv Y [] τ G t → (∀ b ∈ fp, G b = none) → ∀ b ∈ fp, FpOk Y [] G b)
    (turn : ∀ i m G, P i m G → (J.stop i G ∧ Fin G) ∨ (J.go i G ∧ ∀ x G1, J.yld i G x G1 → g x (wipe σ vs) G1 fun σ1 G2 => wipe σ1 vs = wipe σ vs ∧
      tk σ1 G2 fun y G3 => tv σ1 G3 fun z G4 => ∃ b kvs k, y = .ref b ∧ G4 b = some (.tup (k.map kV)) ∧ G4 D = some (.dT kvs) ∧ kvs.length < sizeLine ∧ ∃ m', m' < m ∧ P (i + 1) m' (upd G4 D (.dT (putK kvs k z)))))
    (fin : ∀ G t, L2.Inv Y [] (wipe σ vs) G t → Fin G → R (.ok .next) t) {G0 : Hp} {t0 : Shared} {m0 : Nat} (p0 : P 0 m0 G0) (i0 : L2.Inv Y [] (wipe σ vs) G0 t0) (a0 : tn 0 t0.heap) (f0 : ∀ b ∈ fp, G0 b = none) :
    codeAny (model Y.prog Y.w) Y.A (.compLoop (.DictComp kx vx [⟨tg, iter, [], 0⟩] scope pos) 0 (.ref it) (.ref D) Y.env) R t0 := by
  apply compLoop_anyD (fun m t => ∃ i G, P i m G ∧ L2.Inv Y [] (wipe σ vs) G t ∧ tn i t.heap ∧ ∀ b ∈ fp, G b = none)
  case h => exact ⟨0, G0, p0, i0, a0, f0⟩
  rintro m t ⟨i, G, p, inv, at', free⟩
  cases turn i m G p with
  | inl over =>
    refine thnF (T.done Y rfl rfl rfl calm i [] t _ G (fun _ _ => False) inv (loose inv free) at' over.1) ?_
    rintro r t1 ⟨rfl, inv1⟩
    exact fin G t1 inv1 over.2
  | inr more =>
    refine thnF (T.item Y rfl rfl rfl calm i [] t _ G (fun _ _ => False) inv (loose inv free) at' more.1) ?_
    rintro r t1 ⟨u, rfl, rest⟩
    refine thnF rest ?_
    rintro _ t2 ⟨x, G1, inv2, ru, yl, at2, free2⟩
    have inv3 := inv2.pinned (loose inv2 free2) (T.obj _ _ at2)
    have stepT := tgt.run _ t2 _ G1 x u _ inv3 ru (more.2 x G1 yl)
    rw [quiet] at stepT
    refine thnF stepT ?_
    rintro _ t3 ⟨σ1, G2, inv4, wp, hk⟩
    refine wpAny_pure ?_
    rw [if_pos rfl]
    have stepK := key.run _ t3 σ1 G2 _ inv4 hk
    rw [quiet] at stepK
    refine thnF stepK ?_
    rintro kv t4 ⟨y, G3, inv5, rk, hv⟩
    have stepV := val.run _ t4 σ1 G3 _ inv5 hv
    rw [quiet] at stepV
    refine thnF stepV ?_
    rintro vv t5 ⟨z, G4, inv6, rz, b, kvs, k, rfl, hb, hD, few, m', less, p'⟩
    cases (show kv = Value.ref b from rk)
    refine set_dT room inv6 hD hb few rz ?_
    intro t6 inv7
    have stays : ∀ c ∈ fp, ∀ o, t2.heap.get? c = some o → t6.heap.get? c = some o ∧ upd G4 D (.dT (putK kvs k z)) c = none := by
      intro c hc o e
      have := inv7.pin (c, o) (List.mem_append_right _ (List.mem_append_right _ (mem_pinsAt hc e)))
      exact ⟨this.1, this.2.1⟩
    refine ⟨m', less, i + 1, _, p', (inv7.unpinned (pins := [])).weak (by rw [← wp, wipe_length]) ?_, T.keep _ _ _ at2 fun c hc o e => (stays c hc o e).1, ?_⟩
    · intro j v e
      rw [← wp] at e
      exact (wipe_some e).1
    · intro c hc
      obtain ⟨o, e, _⟩ := T.obj _ _ at2 c hc
      exact (stays c hc o e).2
end
section
variable {X : Cx} {kx vx tg iter : Expr} {scope : Scope} {own : List (Str × Nat)} {pos : Pos} {wi : TI} {g : TG} {tk tv : TE}
/-- the block as a whole; use: what is done with the dict ahead of the block's end -/
theorem dcT_whole {at' : Pos} {use : Option (Value → Sem Unit)} {Out : Value → Shared → Prop} {pins : List (Addr × Obj)} {s : Shared} {σ : L2.St} {H : Hp} {Q : VK} (room : X.A.units + 1 < cLine) (calm : X.calm = true) (nd : X.N.Nodup) (src : PI X tg iter wi) (blk : BlkOk X.N X.env.scope scope own)
    (tgt : ∀ (t : Shared) (G : Hp) (L : Addr) (cs : List (Str × Addr)) (fp : List Addr), PG (X.blk t G scope (compEnvC scope cs L X.env) fp) tg g)
    (key : ∀ (t : Shared) (G : Hp) (L : Addr) (cs : List (Str × Addr)) (fp : List Addr), PE (X.blk t G scope (compEnvC scope cs L X.env) fp) kx tk)
    (val : ∀ (t : Shared) (G : Hp) (L : Addr) (cs : List (Str × Addr)) (fp : List Addr), PE (X.blk t G scope (compEnvC scope cs L X.env) fp) vx tv)
    (plain : ∀ x, foldedSetIterable iter X.env x = pure x) (inv : L2.Inv X pins σ H s) (h : tDcT wi g tk tv (own.map (·.2)) σ H Q)
    (last : ∀ D L t ns G, L2.Inv X pins σ G t → Q (.ref D) G → t.heap.Ns L ns → FpOk X pins G L → compPost (model X.prog X.w) X.A X.xe use Out (.ref D) L (.ok .next) t) :
    wpAny (model X.prog X.w) X.A (comprehension (.DictComp kx vx [⟨tg, iter, [], 0⟩] scope pos) scope X.env at' newDict false (eval iter X.env) use) Out X.xe s := by
  have outs : ∀ y ∈ scope.names, y.2 = .free → ∃ c, X.env.cells.lookup y.1 = some c := fun y hy e => (blk.free y hy e).elim (fun k => inv.ok.has _ (.inl k)) (fun k => inv.ok.has _ (.inr k))
  refine wpAny_comprehension_free rfl plain (closure_ok outs) blk.kind (fun y hy e => (blk.uniq y hy).trans (congrArg some e)) ?_
  refine thn (src.run pins s σ H _ inv h) fun _ _ hx => thn hx fun _ s2 got => ?_
  obtain ⟨it, fp, tn, J, H2, rfl, I2, T, at0, away, q⟩ := got
  refine wpAny_newObj_type ?_
  refine newEnv_comp ?_
  have fresh : H2 s2.heap.objs.size = none := I2.hok.fresh (Nat.le_refl _)
  obtain ⟨P, ⟨m0, p0⟩, turn⟩ := q _ fresh
  suffices key' : ∀ t3 : Shared, t3 = { s2 with heap := s2.heap.push { cls := .type "dict", data := .dict #[] } } → codeAny (model X.prog X.w) X.A (.compStart (.DictComp kx vx [⟨tg, iter, [], 0⟩] scope pos) 0 (.ref it) (.ref s2.heap.objs.size) (compEnvC scope (cellsFrom (t3.heap.objs.size + 1) scope.names (cloFrom X.env.cells scope.names [])) t3.heap.objs.size X.env))
      (compPost (model X.prog X.w) X.A X.xe use Out (.ref s2.heap.objs.size) t3.heap.objs.size) { t3 with heap := pushCells (t3.heap.push { cls := .type "dict", data := .dict #[] }) scope.names } from key' _ rfl
  intro t3 e3
  have eh : t3.heap = s2.heap.push { cls := .type "dict", data := .dict #[] } := by rw [e3]
  have I3 : L2.Inv X pins σ (upd H2 s2.heap.objs.size (.dT [])) t3 := by
    rw [e3]
    exact I2.laid (t' := s2.toks) (fun b o e => Heap.get?_push_of_some _ e) (Nat.le_refl _) (dt_empty s2.heap I2.big)
  have iter0 : ∀ b ∈ fp, FpOk X pins (upd H2 s2.heap.objs.size (.dT [])) b ∧ b < t3.heap.objs.size := by
    intro b hb
    obtain ⟨o, e, _⟩ := T.obj _ _ at0 b hb
    have low := Heap.lt_size e
    refine ⟨⟨?_, (away b hb).2⟩, by rw [eh, Heap.size_push]; exact Nat.lt_succ_of_lt low⟩
    rw [upd_ne (Nat.ne_of_lt low)]; exact (away b hb).1
  have I4 := block_start I3 blk nd iter0
  have tg' := tgt t3 (upd H2 s2.heap.objs.size (.dT [])) t3.heap.objs.size (cellsFrom (t3.heap.objs.size + 1) scope.names (cloFrom X.env.cells scope.names [])) fp
  have ky' := key t3 (upd H2 s2.heap.objs.size (.dT [])) t3.heap.objs.size (cellsFrom (t3.heap.objs.size + 1) scope.names (cloFrom X.env.cells scope.names [])) fp
  have vl' := val t3 (upd H2 s2.heap.objs.size (.dT [])) t3.heap.objs.size (cellsFrom (t3.heap.objs.size + 1) scope.names (cloFrom X.env.cells scope.names [])) fp
  have hL : (compEnvC scope (cellsFrom (t3.heap.objs.size + 1) scope.names (cloFrom X.env.cells scope.names [])) t3.heap.objs.size X.env).locals = t3.heap.objs.size := rfl
  generalize compEnvC scope (cellsFrom (t3.heap.objs.size + 1) scope.names (cloFrom X.env.cells scope.names [])) t3.heap.objs.size X.env = ce at *
  have at4 : tn 0 (pushCells (t3.heap.push { cls := .type "dict", data := .dict #[] }) scope.names) := T.keep _ _ _ at0 fun b _ o e => pushCells_keeps _ _ _ _ (Heap.get?_push_of_some _ (by rw [eh]; exact Heap.get?_push_of_some _ e))
  have turns := dcT_turns (Y := X.blk t3 (upd H2 s2.heap.objs.size (.dT [])) scope ce fp) (iter := iter) (scope := scope) (pos := pos) (R := compPost (model X.prog X.w) X.A X.xe use Out (.ref s2.heap.objs.size) t3.heap.objs.size)
    (Nat.lt_of_succ_lt room) calm rfl T tg' ky' vl'
    (fun {τ G t} inv' gone b hb => ⟨gone b hb, (inv'.ok.exf b hb).1, inv'.ok.exfs b hb, .inl hb, fun x c e => (inv'.ok.exf b hb).2 x c e, fun p hp => absurd (show p ∈ ([] : List (Addr × Obj)) ++ [] from hp) (by simp)⟩)
    turn (fun G t inv' done => by
      have back : L2.Inv X pins σ G t := I3.call' (ch := fp) inv'.os inv'.base inv'.hok inv'.bare fun b hb => by
        obtain ⟨⟨_, c1, _, c2, c3, c4⟩, _⟩ := iter0 b hb
        exact ⟨c2, c1, c3, c4⟩
      obtain ⟨ns, hn, _⟩ := inv'.loc
      have hn : t.heap.Ns ce.locals ns := hn
      have none' : G ce.locals = none := inv'.free
      rw [hL] at hn none'
      exact last _ _ t ns G back done hn (I3.fpOk (H' := G) (Nat.le_refl _) none')) p0 I4 at4 fun b hb => (iter0 b hb).1.1
  exact codeAny_compStart_dict turns (T.self X.A 0 _ _ _ at4 turns)
theorem pe_dcT (room : X.A.units + 1 < cLine) (calm : X.calm = true) (nd : X.N.Nodup) (src : PI X tg iter wi) (blk : BlkOk X.N X.env.scope scope own)
    (tgt : ∀ (t : Shared) (G : Hp) (L : Addr) (cs : List (Str × Addr)) (fp : List Addr), PG (X.blk t G scope (compEnvC scope cs L X.env) fp) tg g)
    (key : ∀ (t : Shared) (G : Hp) (L : Addr) (cs : List (Str × Addr)) (fp : List Addr), PE (X.blk t G scope (compEnvC scope cs L X.env) fp) kx tk)
    (val : ∀ (t : Shared) (G : Hp) (L : Addr) (cs : List (Str × Addr)) (fp : List Addr), PE (X.blk t G scope (compEnvC scope cs L X.env) fp) vx tv)
    (plain : ∀ x, foldedSetIterable iter X.env x = pure x := by intro _; rfl) : PE X (.DictComp kx vx [⟨tg, iter, [], 0⟩] scope pos) (tDcT wi g tk tv (own.map (·.2))) := by
  constructor
  intro pins s σ H Q inv h
  rw [arm_eval_DictComp]
  refine dcT_whole room calm nd src blk tgt key val plain inv h ?_
  rintro D L t ns G inv' q hn ⟨d0, d1, d2, d3, d4, d5⟩
  exact ⟨ns, hn, fun h2 sb => ⟨.ref D, G, inv'.turned (t' := t.toks) (fun b o hb e => (sb.2 b hb).trans e) d0 d1 d3 d4 d5, rfl, q⟩⟩
/-- y = {..}: the name is bound ahead of the block's end -/
theorem ps_setDcT {i : Nat} {y : Str} {py spos : Pos} (room : X.A.units + 1 < cLine) (calm : X.calm = true) (nd : X.N.Nodup) (hy : X.N[i]? = some y) (loc : X.env.scope.names.lookup y = some .local) (sw : swapsWith (.DictComp kx vx [⟨tg, iter, [], 0⟩] scope pos) (some (.Name y py)) spos.line X.env = pure true)
    (src : PI X tg iter wi) (blk : BlkOk X.N X.env.scope scope own)
    (tgt : ∀ (t : Shared) (G : Hp) (L : Addr) (cs : List (Str × Addr)) (fp : List Addr), PG (X.blk t G scope (compEnvC scope cs L X.env) fp) tg g)
    (key : ∀ (t : Shared) (G : Hp) (L : Addr) (cs : List (Str × Addr)) (fp : List Addr), PE (X.blk t G scope (compEnvC scope cs L X.env) fp) kx tk)
    (val : ∀ (t : Shared) (G : Hp) (L : Addr) (cs : List (Str × Addr)) (fp : List Addr), PE (X.blk t G scope (compEnvC scope cs L X.env) fp) vx tv)
    (plain : ∀ x, foldedSetIterable iter X.env x = pure x := by intro _; rfl) : PS X (.Assign [.Name y py] (.DictComp kx vx [⟨tg, iter, [], 0⟩] scope pos) spos) (tAsg (tDcT wi g tk tv (own.map (·.2))) (gName i)) := by
  constructor
  intro pins s σ H D inv h
  rw [exec_Assign_Name_used _ _ _ _ sw]
  have h : tDcT wi g tk tv (own.map (·.2)) σ H (fun x G => gName i x σ G D.nx) := h
  have whole := dcT_whole (pos := pos) (at' := firstIterPos [⟨tg, iter, [], 0⟩] pos) (use := some (assign (.Name y py) X.env)) (Out := fun _ t => SP X pins D .next t) room calm nd src blk tgt key val plain inv h (by
    rintro D' L t ns G inv' q hn ⟨d0, d1, d2, d3, d4, d5⟩
    show wpAny _ _ (assign (.Name y py) X.env (.ref D')) _ _ _
    apply wpAny_assign_Name
    refine store_ok2 (v := V.ref D') inv' nd hy (.inl loc) rfl ?_ (.inr loc)
    rintro t2 inv2 ⟨c, same, where'⟩
    have apart : L ≠ c := where'.elim (fun z => z ▸ d1) (fun z e => d4 y c z e.symm)
    exact ⟨ns, hn.sameBut same apart, fun h3 sb => ⟨_, G, inv2.turned (t' := t2.toks) (fun b o hb e => (sb.2 b hb).trans e) d0 d1 d3 d4 d5, q⟩⟩)
  apply wpAny_bind
  apply wpAny_standAt
  apply wpAny_bind
  show wpAny _ X.A (do let _ ← comprehension (.DictComp kx vx [⟨tg, iter, [], 0⟩] scope pos) scope X.env (firstIterPos [⟨tg, iter, [], 0⟩] pos) newDict false (eval iter X.env) (some (assign (.Name y py) X.env))) _ _ s
  exact wpAny_bind (thn whole fun _ t hq => wpAny_pure (wpAny_pure hq))
end
theorem swD {kx vx : Expr} {gs : List Comprehension} {scope : Scope} {pos py : Pos} {y : Str} {l : Nat} {env : Env} (fn : env.scope.kind = .function) (loc : env.scope.names.lookup y = some .local) (row : (py.line == pos.line) = true)
    (free : (scope.names.any fun (n, k) => n == y && (k == .local || k == .cell)) = false) : swapsWith (.DictComp kx vx gs scope pos) (some (.Name y py)) l env = pure true := by
  have k1 : env.kindOf y = some .local := loc
  have k2 : env.blockKind = .function := by rw [Env.blockKind, fn]; rfl
  simp only [swapsWith, k1, k2, free, Expr.pos, row]
  rfl
def dcL (tg : D → En → Option En) (fk fv : En → M D) (δ : En) : List D → List (List Int) → List D → M (List (List Int) × List D)
  | [], ks, ds, s => .ok (ks, ds) s
  | d :: xs, ks, ds, s => (lift (tg d δ) s).bind fun δ1 s1 => (fk δ1 s1).bind fun k s2 => (lift (asKey k) s2).bind fun key s3 => (fv δ1 s3).bind fun v s4 => if key ∉ ks ∧ ks.length < 100000 then dcL tg fk fv δ xs (ks ++ [key]) (ds ++ [v]) s4 else .stuck
def cDc (vs : List Nat) (src : En → M (List D)) (tg : D → En → Option En) (fk fv : En → M D) : En → M D := fun δ s => (src δ s).bind fun xs s1 => (dcL tg fk fv (wipeD δ vs) xs [] [] s1).bind fun q s2 => .ok (.dct q.1 q.2) s2
@[simp] theorem e_dc (vs src tg fk fv) (δ : En) (s : S) : cDc vs src tg fk fv δ s = (src δ s).bind fun xs s1 => (dcL tg fk fv (wipeD δ vs) xs [] [] s1).bind fun q s2 => .ok (.dct q.1 q.2) s2 := rfl
section
variable {B : Bs} {W : List Nat} {E : Option XK}
theorem rd_dc (hB : B.lit = false) {wi : TI} {src : En → M (List D)} {ts vs : List Nat} {g : TG} {tg : D → En → Option En} {tk tv : TE} {fk fv : En → M D} (hi : RdI B W none wi src) (hg : RdG B W ts g tg) (hk : RdE B W none tk fk) (hv : RdE B W none tv fv) (hs : (ts.all fun i => decide (i ∈ vs)) = true := by rfl) :
    RdE B W none (tDcT wi g tk tv vs) (cDc vs src tg fk fv) := by
  intro r sa H0 O0 O σ δ s H gd Q h
  refine hi gd _ (post_mono (post_bind h) (fun xs s1 hx J H1 st ra wk Dl hD => ?_) (fun _ _ z => z))
  have gd1 := gd.step st ra
  obtain ⟨g1, sm1⟩ := gd1.takeIn (o := .dT []) hD
  have ⟨nO, n0⟩ := gd1.fresh0 hD
  have nr : Dl ≠ r := fun z => nO (z ▸ gd.rO)
  have nH : ∀ {a : Addr} {o : HO}, a ≠ r → H a = some o → a ≠ Dl := fun na e z => by
    have := st _ _ na e
    rw [z, hD] at this; cases this
  refine ⟨fun i m G => m = xs.length - i ∧ i ≤ xs.length ∧ ∃ s2 ks us ds, Gd B r sa H0 O0 W (Dl :: O) σ δ s2 G ∧ G Dl = some (.dT ((ks.map kI).zip us)) ∧ ks.length = us.length ∧ Reps B r (hid G (Dl :: O)) us ds ∧ Same (hid H1 O) (hid G (Dl :: O)) ∧ Stp r H G ∧
      (dcL tg fk fv (wipeD δ vs) (xs.drop i) ks ds s2).post (fun q s' => OkV B r sa H O Q (.dct q.1 q.2) s') (fun _ _ => False),
    ⟨xs.length, by omega, by omega, s1, [], [], [], g1, upd_same, rfl, .nil, sm1, st.trans (Stp.new hD), by rw [List.drop_zero]; exact post_bind hx⟩, ?_⟩
  rintro i m G ⟨rfl, hle, s2, ks, us, ds, g2, hD2, hl, hr, sm, st2, hp⟩
  obtain ⟨w1, w2, w3⟩ := wk (Dl :: O) G sm g2.dom
  by_cases hlt : i < xs.length
  · refine .inr ⟨w1 i hlt, fun x G1 hy => ?_⟩
    obtain ⟨sm3, rp⟩ := w3 i x G1 xs[i] (by simp [hlt]) hy
    have g3 := g2.step (Stp.of sm3) (g2.row.same sm3)
    rw [List.drop_eq_getElem_cons hlt] at hp
    obtain ⟨δ3, e, hp⟩ := post_lift (post_bind hp)
    refine hg (g3.wipe vs) rp e _ fun σ3 g4 ag lg => ?_
    refine ⟨by rw [wipe_ext lg fun j hj => ag j fun z => hj (of_decide_eq_true (List.all_eq_true.mp hs j z)), wipe_ext (wipe_length σ vs) fun j hj => wipe_get hj], ?_⟩
    refine hk g4 _ (post_mono (post_bind hp) (fun dk s3 hq y G3 st3 ra3 rk => ?_) (fun _ _ z => z))
    obtain ⟨key, ek, hq⟩ := post_lift (post_bind hq)
    have g5 := g4.step st3 ra3
    refine hv g5 _ (post_mono (post_bind hq) (fun dv s4 hq2 z G4 st4 ra4 rv => ?_) (fun _ _ z => z))
    have all : Stp r G G4 := ((Stp.of sm3).trans st3).trans st4
    have g6 := g2.step all ra4
    split at hq2
    · rename_i hc
      cases dk with
      | tup es =>
        have he := intsD_some (show intsD es = some key from ek)
        subst he
        obtain ⟨b, ws, rfl, hA, hs'⟩ := (rk.mono (st4.hid g4.rO)).inv_tupA
        have tr : hid G4 (Dl :: O) b = some (.tup ws) := hA.elim id fun z => by rw [hB] at z; cases z.1
        have hb : G4 b = some (.tup ((kI key).map kV)) := by rw [← reps_ints hs']; exact hid_le _ _ tr
        have hD4 := all Dl _ nr hD2
        have hz : ((ks.map kI).zip us).length < sizeLine := by
          refine Evl.sz_lt ?_
          rw [List.length_zip, List.length_map, ← hl, Nat.min_self]
          exact hc.2
        refine ⟨b, _, kI key, rfl, hb, hD4, hz, xs.length - (i + 1), by omega, rfl, by omega, ?_⟩
        rw [putK_new z (valV_no hc.1)]
        have ez : (ks.map kI).zip us ++ [(kI key, z)] = ((ks ++ [key]).map kI).zip (us ++ [z]) := by
          rw [List.map_append, List.zip_append (by rw [List.length_map]; exact hl)]; rfl
        obtain ⟨g7, eh⟩ := g6.rewrite (k' := (ks.map kI).zip us ++ [(kI key, z)]) (by simp) n0 hD4
        have smA : Same (hid G (Dl :: O)) (hid G4 (Dl :: O)) := all.hid g2.rO
        refine ⟨s4, ks ++ [key], us ++ [z], ds ++ [dv], g7, by rw [upd_same, ez], by simp [hl], ?_, ?_, ?_, hq2⟩
        · rw [eh]; exact (hr.mono smA).append (.cons rv .nil)
        · rw [eh]; exact sm.trans smA
        · intro a o na ha
          rw [upd_ne (nH na ha)]
          exact (st2.trans all) a o na ha
      | _ => cases ek
    · exact hq2.elim
  · have atEnd : i = xs.length := by omega
    subst atEnd
    rw [List.drop_length] at hp
    refine .inl ⟨w2, hp (.ref Dl) G st2 g2.row (.dct (by rw [hid_out nO]; exact hD2) rfl hl (hr.mono (hid_sub fun a z => List.mem_cons_of_mem _ z)))⟩
end
/-! ### list(x) as a list of one's own -/
def seqA : List D → Option (List D) | [.lst es] => some es | [.tup es] => some es | _ => none
def cListL (fr : En → M (List D)) : En → M (List D) := fun δ s => (fr δ s).bind fun ds s1 => lift (seqA ds) s1
@[simp] theorem e_listL (fr : En → M (List D)) (δ : En) (s : S) : cListL fr δ s = (fr δ s).bind fun ds s1 => lift (seqA ds) s1 := rfl
@[simp] theorem seqA_lst (es : List D) : seqA [.lst es] = some es := rfl
@[simp] theorem seqA_tup (es : List D) : seqA [.tup es] = some es := rfl
theorem rl_list {B : Bs} {W : List Nat} {E : Option XK} {tr : TA} {fr : En → M (List D)} (ha : RdA B W E tr fr) :
    RdL B W E (tCB (fun xs H Q => ∃ p ys, xs = [.ref p] ∧ (SqL B.K H p ys ∨ SqT B.K H p ys) ∧ ∀ l, H l = none → Q (.ref l) (upd H l (.lst ys))) tr) (cListL fr) := by
  intro r sa H0 O0 O σ δ s H gd Q h
  refine ha gd _ (post_mono (post_bind h) (fun xs s1 hx v H1 st ra rp => ?_) (fun _ _ z => z))
  obtain ⟨es, e, hx⟩ := post_lift hx
  have gd1 := gd.step st ra
  have far : ∀ l, H1 l = none → H l = none := fun l hl => by
    cases q : H l with
    | none => rfl
    | some u =>
      have nr : l ≠ r := fun z => by rw [z, ra.1] at hl; cases hl
      rw [st l u nr q] at hl; cases hl
  have fin : ∀ (ys : List V), Reps B r (hid H1 O) ys es → ∀ l, H1 l = none → Q (.ref l) (upd H1 l (.lst ys)) := fun ys hr l hl =>
    hx l ys _ (st.trans (Stp.new hl)) (ra.new hl) (far l hl) upd_same (hr.mono (gd1.takeIn (o := .lst ys) hl).2)
  unfold seqA at e
  split at e
  · cases e
    obtain ⟨w, rfl, rq⟩ := rp.one
    obtain ⟨a, vs, rfl, h3, h4⟩ := rq.inv_lst
    exact ⟨a, vs, rfl, .inl (SqL.of (hid_le _ _ h3)), fin vs h4⟩
  · cases e
    obtain ⟨w, rfl, rq⟩ := rp.one
    obtain ⟨a, vs, rfl, h3, h4⟩ := rq.inv_tup
    exact ⟨a, vs, rfl, .inr (sqT_le h3), fin vs h4⟩
  · cases e
/-! ### tuple(range(i, j)) -/
theorem rd_tr2 {B : Bs} {W : List Nat} {E : Option XK} {ta tb : TE} {fa fb : En → M D} (ha : RdE B W E ta fa) (hb : RdE B W E tb fb) : RdE B W E (tTupRg (tRg2 ta tb)) (cB gTR2 (cCons fa (cCons fb cNil))) := by
  intro r sa H0 O0 O σ δ s H gd Q h
  have h : (((fa δ s).bind fun x s1 => ((fb δ s1).bind fun y s2 => Out.ok [y] s2).bind fun ys s2 => Out.ok (x :: ys) s2).bind fun ds s3 => lift (gTR2 ds) s3).post (OkV B r sa H O Q) (EPost B E r sa H O) := h
  refine ha gd _ (post_mono (post_bind (post_bind h)) (fun x s1 hx v H1 st ra rp => ?_) (fun _ _ z => z))
  have gd1 := gd.step st ra
  refine hb gd1 _ (post_mono (post_bind (post_bind hx)) (fun y s2 hy u H2 st2 ra2 rq => ?_) (fun _ _ z => z.mono st))
  obtain ⟨d, e, hd⟩ := post_lift hy
  unfold gTR2 at e
  split at e
  · rename_i i j hz
    cases hz
    cases rp
    cases rq
    split at e
    · rename_i hj
      cases e
      refine ⟨_, _, rfl, rfl, ⟨hj.1, hj.2.1, hj.2.2.1, hj.2.2.2.1, Evl.sz_of hj.2.2.2.2⟩, fun p hp => ?_⟩
      have := new_tup (B := B) (r := r) (O := O) hp (gd1.step st2 ra2).dom (rg_reps i j)
      exact hd _ _ ((st.trans st2).trans (Stp.new hp)) (ra2.new hp) this
    · cases e
  · cases e
end PV

namespace PV
open PySem L2
/-! ### owned lists that are read: an item, a slice, turned round; sums and multiples as lists of one's own -/
section
variable {B : Bs} {W : List Nat} {E : Option XK}
def cIxO (i : Nat) (f : En → M D) : En → M D := fun δ s => (lift (ownL δ i) s).bind fun ds s0 => (f δ s0).bind fun k s1 => lift (gIx (.lst ds) k) s1
def cSlO (i : Nat) (fl fh : En → M (Option Int)) : En → M D := fun δ s => (lift (ownL δ i) s).bind fun ds s0 => (fl δ s0).bind fun lo s1 => (fh δ s1).bind fun hi s2 => .ok (.lst (cutD ds lo hi)) s2
def cRevO (i : Nat) : En → M (List D) := fun δ s => (lift (ownL δ i) s).bind fun ds s0 => .ok ds.reverse s0
def cAddL (fa fb : En → M D) : En → M (List D) := fun δ s => (fa δ s).bind fun x s1 => (fb δ s1).bind fun y s2 => (lift (asLst x) s2).bind fun xs s3 => (lift (asLst y) s3).bind fun ys s4 => if xs.length + ys.length ≤ 100000 then .ok (xs ++ ys) s4 else .stuck
@[simp] theorem e_ixO (i : Nat) (f : En → M D) (δ : En) (s : S) : cIxO i f δ s = (lift (ownL δ i) s).bind fun ds s0 => (f δ s0).bind fun k s1 => lift (gIx (.lst ds) k) s1 := rfl
@[simp] theorem e_slO (i : Nat) (fl fh) (δ : En) (s : S) : cSlO i fl fh δ s = (lift (ownL δ i) s).bind fun ds s0 => (fl δ s0).bind fun lo s1 => (fh δ s1).bind fun hi s2 => .ok (.lst (cutD ds lo hi)) s2 := rfl
@[simp] theorem e_revO (i : Nat) (δ : En) (s : S) : cRevO i δ s = (lift (ownL δ i) s).bind fun ds s0 => .ok ds.reverse s0 := rfl
@[simp] theorem e_addL (fa fb : En → M D) (δ : En) (s : S) : cAddL fa fb δ s = (fa δ s).bind fun x s1 => (fb δ s1).bind fun y s2 => (lift (asLst x) s2).bind fun xs s3 => (lift (asLst y) s3).bind fun ys s4 => if xs.length + ys.length ≤ 100000 then .ok (xs ++ ys) s4 else .stuck := rfl
/-- an address that is free behind a step was free ahead of it -/
theorem free_ahead {r sa : Addr} {H H1 : Hp} {s : S} {q : Addr} (st : Stp r H H1) (ra : RowAt B r sa H1 s) (hq : H1 q = none) : H q = none := by
  cases z : H q with
  | none => rfl
  | some u =>
    by_cases w : q = r
    · subst w; rw [ra.1] at hq; cases hq
    · rw [st q u w z] at hq; cases hq
theorem hid_push {H : Hp} {O : List Addr} {q : Addr} {o : HO} (hq : H q = none) : Same (hid H O) (hid (upd H q o) (q :: O)) := fun a u e => by
  have ⟨k1, k2⟩ := hid_some e
  have na : a ≠ q := ne_of_none k2 hq
  rw [hid_out (by simp [na, k1]), upd_ne na]; exact k2
theorem rd_ixO {i : Nat} {tk : TE} {f : En → M D} (h : RdE B W E tk f) (hi : decide (i ∈ W) = true := by rfl) : RdE B W E (tOp (rIx B.K) (tVar i) tk) (cIxO i f) := by
  intro r sa H0 O0 O σ δ s H gd Q hp
  obtain ⟨ds, e0, hp⟩ := post_lift (post_bind hp)
  obtain ⟨p, vs, ds', h1, h2, h3, h4, h5, h6⟩ := gd.own i _ (of_decide_eq_true hi) (ownL_some e0)
  cases h1
  refine ⟨_, h2, h gd _ (post_mono (post_bind hp) (fun k s1 hx v H1 st ra rp => ?_) (fun _ _ z => z))⟩
  obtain ⟨d, e, hd⟩ := post_lift hx
  cases k with
  | int j =>
    cases rp
    obtain ⟨w, w1, w2⟩ := reps_at h6 e
    exact .inl ⟨p, vs, _, w, rfl, rfl, SqL.of (st p _ (fun z => h4 (z ▸ gd.r0)) h5), w1, hd _ H1 st ra (w2.mono (st.hid gd.rO))⟩
  | _ => cases e
theorem rd_slO {i : Nat} {tl th : TO} {fl fh : En → M (Option Int)} (hl : RdO B W E tl fl) (hh : RdO B W E th fh) (hi : decide (i ∈ W) = true := by rfl) : RdE B W E (tSl (rSlU B.K) (tVar i) tl th) (cSlO i fl fh) := by
  intro r sa H0 O0 O σ δ s H gd Q hp
  obtain ⟨ds, e0, hp⟩ := post_lift (post_bind hp)
  obtain ⟨p, vs, ds', h1, h2, h3, h4, h5, h6⟩ := gd.own i _ (of_decide_eq_true hi) (ownL_some e0)
  cases h1
  refine ⟨_, h2, hl gd _ (post_mono (post_bind hp) (fun lo s1 hx H1 st ra => ?_) (fun _ _ z => z))⟩
  have gd1 := gd.step st ra
  refine hh gd1 _ (post_mono (post_bind hx) (fun hi' s2 hx H2 st2 ra2 => ?_) (fun _ _ z => z.mono st))
  have gd2 := gd1.step st2 ra2
  have st' := st.trans st2
  exact .inl ⟨p, vs, rfl, SqL.of (st' p _ (fun z => h4 (z ▸ gd.r0)) h5), fun q hq => hx _ _ (st'.trans (Stp.new hq)) (ra2.new hq) (new_lst hq gd2.dom (h6.mono (st'.hid gd.rO)).cut)⟩
theorem rl_revO {i : Nat} (hi : decide (i ∈ W) = true := by rfl) : RdL B W E (tRevU B.K (tVar i)) (cRevO i) := by
  intro r sa H0 O0 O σ δ s H gd Q hp
  obtain ⟨ds, e0, hp⟩ := post_lift (post_bind hp)
  obtain ⟨p, vs, ds', h1, h2, h3, h4, h5, h6⟩ := gd.own i _ (of_decide_eq_true hi) (ownL_some e0)
  cases h1
  exact ⟨_, h2, p, vs, rfl, .inl ⟨SqL.of h5, fun q hq => hp q _ _ (Stp.new hq) (gd.row.new hq) hq upd_same (h6.reverse.mono (hid_push hq))⟩⟩
theorem rl_addE {ta tb : TE} {fa fb : En → M D} (ha : RdE B W E ta fa) (hb : RdE B W E tb fb) : RdL B W E (tOp (rAddU B.K) ta tb) (cAddL fa fb) := by
  intro r sa H0 O0 O σ δ s H gd Q hp
  refine ha gd _ (post_mono (post_bind hp) (fun x s1 hx v H1 st ra rp => ?_) (fun _ _ z => z))
  have gd1 := gd.step st ra
  refine hb gd1 _ (post_mono (post_bind hx) (fun y s2 hy w H2 st2 ra2 rq => ?_) (fun _ _ z => z.mono st))
  obtain ⟨xs, e1, hz⟩ := post_lift (post_bind hy)
  obtain ⟨ys, e2, hw⟩ := post_lift (post_bind hz)
  clear hy hz
  cases asLst_some e1
  cases asLst_some e2
  obtain ⟨a, us, rfl, h1, h2⟩ := rp.inv_lst
  obtain ⟨b, ws, rfl, h3, h4⟩ := rq.inv_lst
  split at hw
  · rename_i hl
    have sm := st2.hid gd.rO
    have st' := st.trans st2
    refine .inr (.inl ⟨a, b, us, ws, rfl, rfl, hid_le _ _ (sm _ _ h1), hid_le _ _ h3, Evl.sz_of (by rw [h2.length, h4.length]; exact hl), fun q hq => ?_⟩)
    exact hw q _ _ (st'.trans (Stp.new hq)) (ra2.new hq) (free_ahead st' ra2 hq) upd_same (((h2.mono sm).append h4).mono (hid_push hq))
  · exact hw.elim
end
end PV

namespace LW
open PySem L2 PV
def topS (i : Nat) : Stmt := PySem.Challenge.pw_floorprices_k05_rules_checked.main.body.getD i (.Pass ⟨0, 0, 0, 0⟩)
abbrev s__law_taken : Stmt := topS 47
abbrev N__law_taken : List Str := ["_law_row", "_law_many", "_law_found", "_law_cell"]
abbrev P__law_taken : List Str := ["_law_row", "_law_many"]
theorem sc__law_taken : FnScope N__law_taken P__law_taken (defScope s__law_taken) := ⟨rfl, rfl, rfl, by decide +kernel, rfl, by decide +kernel, by decide +kernel⟩
abbrev s__law_buyer : Stmt := topS 48
abbrev N__law_buyer : List Str := ["_law_row", "_law_many", "_law_worth", "_law_found", "_law_step", "_law_turn"]
abbrev P__law_buyer : List Str := ["_law_row", "_law_many"]
theorem sc__law_buyer : FnScope N__law_buyer P__law_buyer (defScope s__law_buyer) := ⟨rfl, rfl, rfl, by decide +kernel, rfl, by decide +kernel, by decide +kernel⟩
abbrev s__law_parts : Stmt := topS 49
abbrev N__law_parts : List Str := ["_law_row", "_law_buyers", "_law_many", "_law_crowd", "_law_number"]
abbrev P__law_parts : List Str := ["_law_row", "_law_buyers", "_law_many"]
theorem sc__law_parts : FnScope N__law_parts P__law_parts (defScope s__law_parts) := ⟨rfl, rfl, rfl, by decide +kernel, rfl, by decide +kernel, by decide +kernel⟩
abbrev s_is_from : Stmt := topS 15
abbrev N_is_from : List Str := ["value", "low", "high"]
abbrev P_is_from : List Str := ["value", "low", "high"]
theorem sc_is_from : FnScope N_is_from P_is_from (defScope s_is_from) := ⟨rfl, rfl, rfl, by decide +kernel, rfl, by decide +kernel, by decide +kernel⟩
abbrev s_is_pair : Stmt := topS 16
abbrev N_is_pair : List Str := ["value"]
abbrev P_is_pair : List Str := ["value"]
theorem sc_is_pair : FnScope N_is_pair P_is_pair (defScope s_is_pair) := ⟨rfl, rfl, rfl, by decide +kernel, rfl, by decide +kernel, by decide +kernel⟩
abbrev s_is_buyer : Stmt := topS 17
abbrev N_is_buyer : List Str := ["value", "pair", "at"]
abbrev P_is_buyer : List Str := ["value"]
theorem sc_is_buyer : FnScope N_is_buyer P_is_buyer (defScope s_is_buyer) := ⟨rfl, rfl, rfl, by decide +kernel, rfl, by decide +kernel, by decide +kernel⟩
abbrev s_Sale : Stmt := inClass (topS 18) 0
abbrev N_Sale : List Str := ["self", "buyers", "things", "index", "buyer"]
abbrev P_Sale : List Str := ["self", "buyers", "things"]
theorem sc_Sale : FnScope N_Sale P_Sale (defScope s_Sale) := ⟨rfl, rfl, rfl, by decide +kernel, rfl, by decide +kernel, by decide +kernel⟩
abbrev s__law_sale : Stmt := topS 50
abbrev N__law_sale : List Str := ["_law_d"]
abbrev P__law_sale : List Str := ["_law_d"]
theorem sc__law_sale : FnScope N__law_sale P__law_sale (defScope s__law_sale) := ⟨rfl, rfl, rfl, by decide +kernel, rfl, by decide +kernel, by decide +kernel⟩
abbrev s_need_sale : Stmt := topS 19
abbrev N_need_sale : List Str := ["sale"]
abbrev P_need_sale : List Str := ["sale"]
theorem sc_need_sale : FnScope N_need_sale P_need_sale (defScope s_need_sale) := ⟨rfl, rfl, rfl, by decide +kernel, rfl, by decide +kernel, by decide +kernel⟩
abbrev s_common : Stmt := topS 7
abbrev N_common : List Str := ["one", "other", "great", "less"]
abbrev P_common : List Str := ["one", "other"]
theorem sc_common : FnScope N_common P_common (defScope s_common) := ⟨rfl, rfl, rfl, by decide +kernel, rfl, by decide +kernel, by decide +kernel⟩
abbrev s_scaled : Stmt := topS 30
abbrev N_scaled : List Str := ["rows", "under", "row", "over", "by"]
abbrev P_scaled : List Str := ["rows"]
theorem sc_scaled : FnScope N_scaled P_scaled (defScope s_scaled) := ⟨rfl, rfl, rfl, by decide +kernel, rfl, by decide +kernel, by decide +kernel⟩
abbrev s_stair : Stmt := topS 24
abbrev N_stair : List Str := ["buyer", "found", "behind", "worth", "weight"]
abbrev P_stair : List Str := ["buyer"]
theorem sc_stair : FnScope N_stair P_stair (defScope s_stair) := ⟨rfl, rfl, rfl, by decide +kernel, rfl, by decide +kernel, by decide +kernel⟩
abbrev s_is_less : Stmt := topS 9
abbrev N_is_less : List Str := ["one", "other"]
abbrev P_is_less : List Str := ["one", "other"]
theorem sc_is_less : FnScope N_is_less P_is_less (defScope s_is_less) := ⟨rfl, rfl, rfl, by decide +kernel, rfl, by decide +kernel, by decide +kernel⟩
abbrev s_made : Stmt := topS 8
abbrev N_made : List Str := ["over", "under", "by"]
abbrev P_made : List Str := ["over", "under"]
theorem sc_made : FnScope N_made P_made (defScope s_made) := ⟨rfl, rfl, rfl, by decide +kernel, rfl, by decide +kernel, by decide +kernel⟩
abbrev s_slope : Stmt := topS 25
abbrev N_slope : List Str := ["one", "other"]
abbrev P_slope : List Str := ["one", "other"]
theorem sc_slope : FnScope N_slope P_slope (defScope s_slope) := ⟨rfl, rfl, rfl, by decide +kernel, rfl, by decide +kernel, by decide +kernel⟩
abbrev s_is_bend : Stmt := topS 26
abbrev N_is_bend : List Str := ["one", "other", "last"]
abbrev P_is_bend : List Str := ["one", "other", "last"]
theorem sc_is_bend : FnScope N_is_bend P_is_bend (defScope s_is_bend) := ⟨rfl, rfl, rfl, by decide +kernel, rfl, by decide +kernel, by decide +kernel⟩
abbrev s_hull : Stmt := topS 27
abbrev N_hull : List Str := ["points", "found", "at", "point"]
abbrev P_hull : List Str := ["points"]
theorem sc_hull : FnScope N_hull P_hull (defScope s_hull) := ⟨rfl, rfl, rfl, by decide +kernel, rfl, by decide +kernel, by decide +kernel⟩
abbrev s_levels_of : Stmt := topS 28
abbrev N_levels_of : List Str := ["buyer", "points", "bends", "found", "at", "one", "other"]
abbrev P_levels_of : List Str := ["buyer"]
theorem sc_levels_of : FnScope N_levels_of P_levels_of (defScope s_levels_of) := ⟨rfl, rfl, rfl, by decide +kernel, rfl, by decide +kernel, by decide +kernel⟩
abbrev s_level_rows : Stmt := topS 32
abbrev N_level_rows : List Str := ["sale", "buyer"]
abbrev P_level_rows : List Str := ["sale"]
theorem sc_level_rows : FnScope N_level_rows P_level_rows (defScope s_level_rows) := ⟨rfl, rfl, rfl, by decide +kernel, rfl, by decide +kernel, by decide +kernel⟩
abbrev s_all_places : Stmt := topS 21
abbrev N_all_places : List Str := ["sale", "found", "buyer", "some", "at"]
abbrev P_all_places : List Str := ["sale"]
theorem sc_all_places : FnScope N_all_places P_all_places (defScope s_all_places) := ⟨rfl, rfl, rfl, by decide +kernel, rfl, by decide +kernel, by decide +kernel⟩
abbrev s_chosen : Stmt := topS 31
abbrev N_chosen : List Str := ["table", "things", "places", "some", "number", "at", "less"]
abbrev P_chosen : List Str := ["table", "things", "places"]
theorem sc_chosen : FnScope N_chosen P_chosen (defScope s_chosen) := ⟨rfl, rfl, rfl, by decide +kernel, rfl, by decide +kernel, by decide +kernel⟩
abbrev s_price_at : Stmt := topS 33
abbrev N_price_at : List Str := ["sale", "table", "places", "number", "at", "worth", "weight"]
abbrev P_price_at : List Str := ["sale", "table", "places", "number"]
theorem sc_price_at : FnScope N_price_at P_price_at (defScope s_price_at) := ⟨rfl, rfl, rfl, by decide +kernel, rfl, by decide +kernel, by decide +kernel⟩
abbrev s_sold_at : Stmt := topS 34
abbrev N_sold_at : List Str := ["sale", "table", "places", "some", "gets", "number", "pays"]
abbrev P_sold_at : List Str := ["sale", "table", "places"]
theorem sc_sold_at : FnScope N_sold_at P_sold_at (defScope s_sold_at) := ⟨rfl, rfl, rfl, by decide +kernel, rfl, by decide +kernel, by decide +kernel⟩
abbrev s_bids_at : Stmt := topS 22
abbrev N_bids_at : List Str := ["sale", "places", "number", "at"]
abbrev P_bids_at : List Str := ["sale", "places"]
theorem sc_bids_at : FnScope N_bids_at P_bids_at (defScope s_bids_at) := ⟨rfl, rfl, rfl, by decide +kernel, rfl, by decide +kernel, by decide +kernel⟩
abbrev s_rule_of : Stmt := topS 35
abbrev N_rule_of : List Str := ["sale", "table", "found", "places", "gets", "pays"]
abbrev P_rule_of : List Str := ["sale"]
theorem sc_rule_of : FnScope N_rule_of P_rule_of (defScope s_rule_of) := ⟨rfl, rfl, rfl, by decide +kernel, rfl, by decide +kernel, by decide +kernel⟩
abbrev s_is_row : Stmt := topS 36
abbrev N_is_row : List Str := ["sale", "row", "bids", "part", "bid", "got", "pay"]
abbrev P_is_row : List Str := ["sale", "row", "bids"]
theorem sc_is_row : FnScope N_is_row P_is_row (defScope s_is_row) := ⟨rfl, rfl, rfl, by decide +kernel, rfl, by decide +kernel, by decide +kernel⟩
abbrev s_is_rule_of : Stmt := topS 37
abbrev N_is_rule_of : List Str := ["sale", "value", "every", "at", "places"]
abbrev P_is_rule_of : List Str := ["sale", "value"]
theorem sc_is_rule_of : FnScope N_is_rule_of P_is_rule_of (defScope s_is_rule_of) := ⟨rfl, rfl, rfl, by decide +kernel, rfl, by decide +kernel, by decide +kernel⟩
abbrev s_is_rule : Stmt := topS 38
abbrev N_is_rule : List Str := ["sale", "value"]
abbrev P_is_rule : List Str := ["sale", "value"]
theorem sc_is_rule : FnScope N_is_rule P_is_rule (defScope s_is_rule) := ⟨rfl, rfl, rfl, by decide +kernel, rfl, by decide +kernel, by decide +kernel⟩
abbrev s__law_all : Stmt := topS 51
abbrev N__law_all : List Str := ["_law_d", "_law_found", "_law_buyer_here", "_law_longer", "_law_some", "_law_weight", "_law_at"]
abbrev P__law_all : List Str := ["_law_d"]
theorem sc__law_all : FnScope N__law_all P__law_all (defScope s__law_all) := ⟨rfl, rfl, rfl, by decide +kernel, rfl, by decide +kernel, by decide +kernel⟩
abbrev s__law_bids : Stmt := topS 52
abbrev N__law_bids : List Str := ["_law_d", "_law_places", "_law_k"]
abbrev P__law_bids : List Str := ["_law_d", "_law_places"]
theorem sc__law_bids : FnScope N__law_bids P__law_bids (defScope s__law_bids) := ⟨rfl, rfl, rfl, by decide +kernel, rfl, by decide +kernel, by decide +kernel⟩
abbrev s__law_is_rule : Stmt := topS 53
abbrev N__law_is_rule : List Str := ["_law_d", "_law_value", "_law_every", "_law_at", "_law_line", "_law_one", "_law_got", "_law_pay"]
abbrev P__law_is_rule : List Str := ["_law_d", "_law_value"]
theorem sc__law_is_rule : FnScope N__law_is_rule P__law_is_rule (defScope s__law_is_rule) := ⟨rfl, rfl, rfl, by decide +kernel, rfl, by decide +kernel, by decide +kernel⟩
abbrev s_need_rule : Stmt := topS 39
abbrev N_need_rule : List Str := ["sale", "rule"]
abbrev P_need_rule : List Str := ["sale", "rule"]
theorem sc_need_rule : FnScope N_need_rule P_need_rule (defScope s_need_rule) := ⟨rfl, rfl, rfl, by decide +kernel, rfl, by decide +kernel, by decide +kernel⟩
abbrev s_gain_of : Stmt := topS 40
abbrev N_gain_of : List Str := ["row", "number", "worth"]
abbrev P_gain_of : List Str := ["row", "number", "worth"]
theorem sc_gain_of : FnScope N_gain_of P_gain_of (defScope s_gain_of) := ⟨rfl, rfl, rfl, by decide +kernel, rfl, by decide +kernel, by decide +kernel⟩
abbrev s_flaw_at : Stmt := topS 41
abbrev N_flaw_at : List Str := ["sale", "table", "bids", "number", "worth", "gain", "other", "weight"]
abbrev P_flaw_at : List Str := ["sale", "table", "bids"]
theorem sc_flaw_at : FnScope N_flaw_at P_flaw_at (defScope s_flaw_at) := ⟨rfl, rfl, rfl, by decide +kernel, rfl, by decide +kernel, by decide +kernel⟩
abbrev s_flaw_of : Stmt := topS 42
abbrev N_flaw_of : List Str := ["sale", "rule", "table", "row", "found"]
abbrev P_flaw_of : List Str := ["sale", "rule"]
theorem sc_flaw_of : FnScope N_flaw_of P_flaw_of (defScope s_flaw_of) := ⟨rfl, rfl, rfl, by decide +kernel, rfl, by decide +kernel, by decide +kernel⟩
abbrev s_flaw : Stmt := topS 43
abbrev N_flaw : List Str := ["sale", "rule"]
abbrev P_flaw : List Str := ["sale", "rule"]
theorem sc_flaw : FnScope N_flaw P_flaw (defScope s_flaw) := ⟨rfl, rfl, rfl, by decide +kernel, rfl, by decide +kernel, by decide +kernel⟩
abbrev s_total_of : Stmt := topS 20
abbrev N_total_of : List Str := ["buyer", "worth", "weight"]
abbrev P_total_of : List Str := ["buyer"]
theorem sc_total_of : FnScope N_total_of P_total_of (defScope s_total_of) := ⟨rfl, rfl, rfl, by decide +kernel, rfl, by decide +kernel, by decide +kernel⟩
abbrev s_takings_of : Stmt := topS 44
abbrev N_takings_of : List Str := ["sale", "rule", "total", "weights", "buyer", "at", "places", "weight", "number", "place"]
abbrev P_takings_of : List Str := ["sale", "rule"]
theorem sc_takings_of : FnScope N_takings_of P_takings_of (defScope s_takings_of) := ⟨rfl, rfl, rfl, by decide +kernel, rfl, by decide +kernel, by decide +kernel⟩
abbrev s_takings : Stmt := topS 45
abbrev N_takings : List Str := ["sale", "rule"]
abbrev P_takings : List Str := ["sale", "rule"]
theorem sc_takings : FnScope N_takings P_takings (defScope s_takings) := ⟨rfl, rfl, rfl, by decide +kernel, rfl, by decide +kernel, by decide +kernel⟩
abbrev s__law_refused : Stmt := topS 54
abbrev N__law_refused : List Str := ["_law_kind", "_law_sale_here", "_law_value", "_law_raised"]
abbrev P__law_refused : List Str := ["_law_kind", "_law_sale_here", "_law_value"]
theorem sc__law_refused : FnScope N__law_refused P__law_refused (defScope s__law_refused) := ⟨rfl, rfl, rfl, by decide +kernel, rfl, by decide +kernel, by decide +kernel⟩
abbrev s_law : Stmt := topS 55
abbrev N_law : List Str := ["_law_script", "_law_row", "_law_d", "_law_sale_here", "_law_rule", "_law_turn", "_law_some", "_law_at", "_law_kind", "_law_bids_here", "_law_gets", "_law_pays", "_law_odd", "_law_one", "_law_spot", "_law_lines", "_law_value", "_law_told", "_law_bad"]
abbrev P_law : List Str := ["_law_script"]
theorem sc_law : FnScope N_law P_law (defScope s_law) := ⟨rfl, rfl, rfl, by decide +kernel, rfl, by decide +kernel, by decide +kernel⟩
abbrev s_BadRule : Stmt := inClass (topS 5) 0
abbrev N_BadRule : List Str := ["self"]
abbrev P_BadRule : List Str := ["self"]
theorem sc_BadRule : FnScope N_BadRule P_BadRule (defScope s_BadRule) := ⟨rfl, rfl, rfl, by decide +kernel, rfl, by decide +kernel, by decide +kernel⟩
abbrev xsL : List Str := ["BadRule"]
abbrev csL : List Str := ["BadRule"]
structure Tx (B : Bs) (mg : Str → Option Value) where
  lit : B.lit = false
  X_BadRule : XcF B mg "BadRule" "BadRule.__init__" s_BadRule P_BadRule
  c_BadRule : mg "BadRule" = some (.ref (B.xc "BadRule"))
  fe : FeF B mg
  exm : ExmF B xsL csL
  gf_flaw : mg "flaw" = some (.ref (B.xc "flaw"))
  gf_takings : mg "takings" = some (.ref (B.xc "takings"))
  D__law_taken : Df B mg "_law_taken" s__law_taken P__law_taken
  D__law_buyer : Df B mg "_law_buyer" s__law_buyer P__law_buyer
  D__law_parts : Df B mg "_law_parts" s__law_parts P__law_parts
  D_is_from : Df B mg "is_from" s_is_from P_is_from
  D_is_pair : Df B mg "is_pair" s_is_pair P_is_pair
  D_is_buyer : Df B mg "is_buyer" s_is_buyer P_is_buyer
  f_Sale : Addr
  d_Sale : FuncData
  F_Sale : Fun B.K "__init__" "Sale.__init__" s_Sale f_Sale d_Sale
  m_Sale : mg "Sale" = some (.ref B.cs)
  mk_Sale : Mk B.K B.cs f_Sale
  sale : SaleF B
  b_Sale : Binds B.K d_Sale P_Sale []
  D__law_sale : Df B mg "_law_sale" s__law_sale P__law_sale
  D_need_sale : Df B mg "need_sale" s_need_sale P_need_sale
  D_common : Df B mg "common" s_common P_common
  D_scaled : Df B mg "scaled" s_scaled P_scaled
  D_stair : Df B mg "stair" s_stair P_stair
  D_is_less : Df B mg "is_less" s_is_less P_is_less
  D_made : Df B mg "made" s_made P_made
  D_slope : Df B mg "slope" s_slope P_slope
  D_is_bend : Df B mg "is_bend" s_is_bend P_is_bend
  D_hull : Df B mg "hull" s_hull P_hull
  D_levels_of : Df B mg "levels_of" s_levels_of P_levels_of
  D_level_rows : Df B mg "level_rows" s_level_rows P_level_rows
  D_all_places : Df B mg "all_places" s_all_places P_all_places
  D_chosen : Df B mg "chosen" s_chosen P_chosen
  D_price_at : Df B mg "price_at" s_price_at P_price_at
  D_sold_at : Df B mg "sold_at" s_sold_at P_sold_at
  D_bids_at : Df B mg "bids_at" s_bids_at P_bids_at
  D_rule_of : Df B mg "rule_of" s_rule_of P_rule_of
  D_is_row : Df B mg "is_row" s_is_row P_is_row
  D_is_rule_of : Df B mg "is_rule_of" s_is_rule_of P_is_rule_of
  D_is_rule : Df B mg "is_rule" s_is_rule P_is_rule
  D__law_all : Df B mg "_law_all" s__law_all P__law_all
  D__law_bids : Df B mg "_law_bids" s__law_bids P__law_bids
  D__law_is_rule : Df B mg "_law_is_rule" s__law_is_rule P__law_is_rule
  D_need_rule : Df B mg "need_rule" s_need_rule P_need_rule
  D_gain_of : Df B mg "gain_of" s_gain_of P_gain_of
  D_flaw_at : Df B mg "flaw_at" s_flaw_at P_flaw_at
  D_flaw_of : Df B mg "flaw_of" s_flaw_of P_flaw_of
  D_flaw : Df B mg "flaw" s_flaw P_flaw
  xa_flaw : D_flaw.f = B.xc "flaw"
  D_total_of : Df B mg "total_of" s_total_of P_total_of
  D_takings_of : Df B mg "takings_of" s_takings_of P_takings_of
  D_takings : Df B mg "takings" s_takings P_takings
  xa_takings : D_takings.f = B.xc "takings"
  D__law_refused : Df B mg "_law_refused" s__law_refused P__law_refused
  D_law : Df B mg "law" s_law P_law
  n_abs : mg "abs" = none
  n_all : mg "all" = none
  n_any : mg "any" = none
  n_bool : mg "bool" = none
  n_enumerate : mg "enumerate" = none
  n_int : mg "int" = none
  n_isinstance : mg "isinstance" = none
  n_len : mg "len" = none
  n_list : mg "list" = none
  n_range : mg "range" = none
  n_reversed : mg "reversed" = none
  n_sorted : mg "sorted" = none
  n_sum : mg "sum" = none
  n_tuple : mg "tuple" = none
  t_MOST : Tok
  m_MOST : mg "MOST" = some (.int 1000000000 t_MOST)
  t_MOST_BUYERS : Tok
  m_MOST_BUYERS : mg "MOST_BUYERS" = some (.int 4 t_MOST_BUYERS)
  t_MOST_THINGS : Tok
  m_MOST_THINGS : mg "MOST_THINGS" = some (.int 3 t_MOST_THINGS)
  t_MOST_WORTHS : Tok
  m_MOST_WORTHS : mg "MOST_WORTHS" = some (.int 5 t_MOST_WORTHS)
/-! the plain functions -/
abbrev f__law_taken : List D → M D := drawF
def l1__law_buyer : En → M Fl := (cSeq (cApp 3 (cTup (cCons (cVar 2) (cCons (cOp gAdd (cC (.int 1)) (cCall 2 f__law_taken (cCons (cVar 0) (cCons (cOp gIx (cLst (cCons (cC (.int 1)) (cCons (cC (.int 3)) (cCons (cC (.int 9)) (cCons (cOp gPow (cC (.int 10)) (cC (.int 8))) cNil))))) (cCall 2 f__law_taken (cCons (cVar 0) (cCons (cC (.int 4)) cNil)))) cNil)))) cNil))))
    (cSet 2 (cOp gAdd (cOp gAdd (cVar 2) (cC (.int 1))) (cCall 2 f__law_taken (cCons (cVar 0) (cCons (cVar 4) cNil))))))
def b__law_buyer : En → M Fl := (cSeq (cPar (pCons [3] 2 (cV (cCall 2 f__law_taken (cCons (cVar 0) (cCons (cC (.int 4)) cNil)))) (pCons [3] 3 (cN (cLstL cNil)) (pCons [3] 4 (cV (cOp gIx (cLst (cCons (cC (.int 1)) (cCons (cC (.int 3)) (cCons (cC (.int 9)) (cCons (cOp gPow (cC (.int 10)) (cC (.int 6))) cNil))))) (cCall 2 f__law_taken (cCons (cVar 0) (cCons (cC (.int 4)) cNil))))) pNil))))
    (cSeq (cFor (cItA gR1 (cCons (cOp gAdd (cC (.int 1)) (cCall 2 f__law_taken (cCons (cVar 0) (cCons (cVar 1) cNil)))) cNil)) (tgName 5) l1__law_buyer)
    (cRet (cB gTuple (cCons (cVar 3) cNil)))))
def f__law_buyer : List D → M D := runD 2 6 b__law_buyer
theorem u__law_buyer (x0 x1 : D) (s : S) : f__law_buyer [x0, x1] s = (b__law_buyer [some x0, some x1, none, none, none, none] s).bind endD := rfl
def b__law_parts : En → M Fl := (cSeq (cSet 3 (cB gTuple (cCons (cLc [4] (cItA gR1 (cCons (cOp gAdd (cC (.int 1)) (cCall 2 f__law_taken (cCons (cVar 0) (cCons (cVar 1) cNil)))) cNil)) (tgName 4) cYes (cCall 2 f__law_buyer (cCons (cVar 0) (cCons (cVar 2) cNil)))) cNil)))
    (cRet (cDic ["buyers", "things"] (cCons (cVar 3) (cCons (cOp gAdd (cC (.int 1)) (cCall 2 f__law_taken (cCons (cVar 0) (cCons (cC (.int 3)) cNil)))) cNil)))))
def f__law_parts : List D → M D := runD 3 5 b__law_parts
theorem u__law_parts (x0 x1 x2 : D) (s : S) : f__law_parts [x0, x1, x2] s = (b__law_parts [some x0, some x1, some x2, none, none] s).bind endD := rfl
def b_is_from : En → M Fl := (cRet (cAndV (cIsi "int" (cVar 0)) (cAndV (cNotV (cIsi "bool" (cVar 0))) (cChain gLe gLe (cVar 1) (cVar 0) (cVar 2)))))
def f_is_from : List D → M D := runD 3 3 b_is_from
theorem u_is_from (x0 x1 x2 : D) (s : S) : f_is_from [x0, x1, x2] s = (b_is_from [some x0, some x1, some x2] s).bind endD := rfl
def b_is_pair : En → M Fl := (cRet (cAndV (cIsi "tuple" (cVar 0)) (cAndV (cOp gEq (cB gLen (cCons (cVar 0) cNil)) (cC (.int 2))) (cAndV (cCall 3 f_is_from (cCons (cOp gIx (cVar 0) (cC (.int 0))) (cCons (cC (.int 0)) (cCons (cC (.int 1000000000)) cNil)))) (cCall 3 f_is_from (cCons (cOp gIx (cVar 0) (cC (.int 1))) (cCons (cC (.int 1)) (cCons (cC (.int 1000000000)) cNil))))))))
def f_is_pair : List D → M D := runD 1 1 b_is_pair
theorem u_is_pair (x0 : D) (s : S) : f_is_pair [x0] s = (b_is_pair [some x0] s).bind endD := rfl
def b_is_buyer : En → M Fl := (cSeq (cIte (cOr (cNot (cTst (cIsi "tuple" (cVar 0)))) (cOr (cNot (cTst (cChain gLe gLe (cC (.int 1)) (cB gLen (cCons (cVar 0) cNil)) (cC (.int 5))))) (cNot (cTst (cB gAll (cCons (cLc [1] (cItU (cVar 0)) (tgName 1) cYes (cCall 1 f_is_pair (cCons (cVar 1) cNil))) cNil)))))) (cRet (cC (.bl false))) cNext)
    (cRet (cB gAll (cCons (cLc [2] (cItA gR1 (cCons (cOp gDif (cB gLen (cCons (cVar 0) cNil)) (cC (.int 1))) cNil)) (tgName 2) cYes (cOp gLt (cOp gIx (cOp gIx (cVar 0) (cVar 2)) (cC (.int 0))) (cOp gIx (cOp gIx (cVar 0) (cOp gAdd (cVar 2) (cC (.int 1)))) (cC (.int 0))))) cNil))))
def f_is_buyer : List D → M D := runD 1 3 b_is_buyer
theorem u_is_buyer (x0 : D) (s : S) : f_is_buyer [x0] s = (b_is_buyer [some x0, none, none] s).bind endD := rfl
def l1_Sale : En → M Fl := (cIte (cNot (cTst (cCall 1 f_is_buyer (cCons (cVar 4) cNil)))) cStuck cNext)
def t1_Sale : En → M Bool := (cOr (cNot (cTst (cIsi "tuple" (cVar 1)))) (cNot (cTst (cChain gLe gLe (cC (.int 1)) (cB gLen (cCons (cVar 1) cNil)) (cC (.int 4))))))
def t3_Sale : En → M Bool := (cNot (cTst (cCall 3 f_is_from (cCons (cVar 2) (cCons (cC (.int 1)) (cCons (cC (.int 3)) cNil))))))
def b_Sale : En → M Fl := (cSeq (cIte t1_Sale cStuck cNext) (cSeq (cFor (cItE (cVar 1)) (tgTup 2 (tgCons (tgName 3) (tgCons (tgName 4) tgNil))) l1_Sale) (cIte t3_Sale cStuck cNext)))
abbrev f_Sale : List D → M D := saleX 5 b_Sale 0
theorem hx_Sale_for (x y : Addr) (b t : Option D) : ∀ (ds : List D) (i j : Option D) (s : S), (∃ i' j' s', forL (tgTup 2 (tgCons (tgName 3) (tgCons (tgName 4) tgNil))) l1_Sale ds [some (.obj x), b, t, i, j] s = .ok (.next [some (.obj x), b, t, i', j']) s' ∧ forL (tgTup 2 (tgCons (tgName 3) (tgCons (tgName 4) tgNil))) l1_Sale ds [some (.obj y), b, t, i, j] s = .ok (.next [some (.obj y), b, t, i', j']) s')
    ∨ (forL (tgTup 2 (tgCons (tgName 3) (tgCons (tgName 4) tgNil))) l1_Sale ds [some (.obj x), b, t, i, j] s = .stuck ∧ forL (tgTup 2 (tgCons (tgName 3) (tgCons (tgName 4) tgNil))) l1_Sale ds [some (.obj y), b, t, i, j] s = .stuck)
    ∨ ∃ e s', (forL (tgTup 2 (tgCons (tgName 3) (tgCons (tgName 4) tgNil))) l1_Sale ds [some (.obj x), b, t, i, j] s = .err e s' ∧ forL (tgTup 2 (tgCons (tgName 3) (tgCons (tgName 4) tgNil))) l1_Sale ds [some (.obj y), b, t, i, j] s = .err e s')
  | [], i, j, s => .inl ⟨i, j, s, rfl, rfl⟩
  | d :: ds, i, j, s => by
    unfold forL
    by_cases hd : ∃ u v, d = .tup [u, v] ∨ d = .lst [u, v]
    · obtain ⟨u, v, hd⟩ := hd
      have e : ∀ z : Addr, tgTup 2 (tgCons (tgName 3) (tgCons (tgName 4) tgNil)) d [some (.obj z), b, t, i, j] = some [some (.obj z), b, t, some u, some v] := fun z => by rcases hd with rfl | rfl <;> rfl
      rw [e, e, lift_some, bind_ok, lift_some, bind_ok]
      unfold l1_Sale
      simp only [e_ite, e_not, e_tst, e_call, e_cons, e_nil, e_var, List.getElem?_cons_succ, List.getElem?_cons_zero, Option.join_some, lift_some, bind_ok, List.length_cons, List.length_nil, if_true]
      cases f_is_buyer [v] s with
      | stuck => right; left; exact ⟨rfl, rfl⟩
      | err e s' => right; right; exact ⟨e, s', rfl, rfl⟩
      | ok r s' =>
        simp only [bind_ok]
        cases asB r with
        | none => right; left; exact ⟨rfl, rfl⟩
        | some q =>
          simp only [lift_some, bind_ok]
          cases q with
          | false => right; left; exact ⟨rfl, rfl⟩
          | true => exact hx_Sale_for x y b t ds (some u) (some v) s'
    · have e : ∀ z : Addr, tgTup 2 (tgCons (tgName 3) (tgCons (tgName 4) tgNil)) d [some (.obj z), b, t, i, j] = none := fun z => by
        unfold tgTup
        split
        · rename_i l
          split
          · rename_i hl
            match l, hl with
            | [u, v], _ => exact absurd ⟨u, v, .inl rfl⟩ hd
          · rfl
        · rename_i l
          split
          · rename_i hl
            match l, hl with
            | [u, v], _ => exact absurd ⟨u, v, .inr rfl⟩ hd
          · rfl
        · rfl
      rw [e, e]
      right; left; exact ⟨rfl, rfl⟩
theorem hx_Sale (x : Addr) (ds : List D) (s : S) : saleX 5 b_Sale x ds s = saleX 5 b_Sale 0 ds s := by
  unfold saleX
  split
  · rename_i hl
    match ds, hl with
    | [c, n], _ => 
      show ((b_Sale [some (.obj x), some c, some n, none, none] s).bind (saleE x)) = ((b_Sale [some (.obj 0), some c, some n, none, none] s).bind (saleE 0))
      have e1 : ∀ z, t1_Sale [some (.obj z), some c, some n, none, none] s = t1_Sale [none, some c, some n, none, none] s := fun z => rfl
      have e3 : ∀ z i j s, t3_Sale [some (.obj z), some c, some n, i, j] s = t3_Sale [none, some c, some n, none, none] s := fun _ _ _ _ => rfl
      unfold b_Sale
      simp only [e_seq, e_ite, e_for, e1]
      cases t1_Sale [none, some c, some n, none, none] s with
      | stuck => rfl
      | err => rfl
      | ok b s1 =>
        simp only [bind_ok]
        cases b with
        | true => rfl
        | false =>
          have es : ∀ z, cItE (cVar 1) [some (.obj z), some c, some n, none, none] s1 = (lift (seqD c) s1).bind fun ds s2 => .ok (enumD ds) s2 := fun z => rfl
          simp only [Bool.false_eq_true, if_false, e_next, bind_ok, es]
          cases seqD c with
          | none => rfl
          | some ds =>
            simp only [lift_some, bind_ok]
            rcases hx_Sale_for x 0 (some c) (some n) (enumD ds) none none s1 with ⟨i', j', s', h1, h2⟩ | ⟨h1, h2⟩ | ⟨e, s', h1, h2⟩
            · rw [h1, h2]
              simp only [bind_ok, e3]
              cases t3_Sale [none, some c, some n, none, none] s' with
              | stuck => rfl
              | err => rfl
              | ok b s2 =>
                cases b with
                | true => rfl
                | false => simp [saleE, isOb]
            · rw [h1, h2]; rfl
            · rw [h1, h2]; rfl
  · rfl
def b__law_sale : En → M Fl := (cRet (cCall 2 f_Sale (cCons (cUn (gKey "buyers") (cVar 0)) (cCons (cUn (gKey "things") (cVar 0)) cNil))))
def f__law_sale : List D → M D := runD 1 1 b__law_sale
theorem u__law_sale (x0 : D) (s : S) : f__law_sale [x0] s = (b__law_sale [some x0] s).bind endD := rfl
def b_need_sale : En → M Fl := (cIte (cNot (cTst (cUn gIsS (cVar 0)))) cStuck cNext)
def f_need_sale : List D → M D := runD 1 1 b_need_sale
theorem u_need_sale (x0 : D) (s : S) : f_need_sale [x0] s = (b_need_sale [some x0] s).bind endD := rfl
def b_common : En → M Fl := (cSeq (cPar (pCons [] 2 (cV (cB gAbs (cCons (cVar 0) cNil))) (pCons [] 3 (cV (cB gAbs (cCons (cVar 1) cNil))) pNil)))
    (cSeq (cWhile (fuelI 3) (cTst (cOp gGt (cVar 3) (cC (.int 0)))) (cPar (pCons [] 2 (cV (cVar 3)) (pCons [] 3 (cV (cOp gMod (cVar 2) (cVar 3))) pNil))))
    (cRet (cVar 2))))
def f_common : List D → M D := runD 2 4 b_common
theorem u_common (x0 x1 : D) (s : S) : f_common [x0, x1] s = (b_common [some x0, some x1, none, none] s).bind endD := rfl
def l1_scaled : En → M Fl := (cSet 1 (cOp gFdiv (cOp gMul (cVar 1) (cVar 4)) (cCall 2 f_common (cCons (cVar 1) (cCons (cVar 4) cNil)))))
def l2_scaled : En → M Fl := (cFor (cItU (cVar 2)) (tgTup 2 (tgCons (tgName 3) (tgCons (tgName 4) tgNil))) l1_scaled)
def b_scaled : En → M Fl := (cSeq (cSet 1 (cC (.int 1)))
    (cSeq (cFor (cItU (cVar 0)) (tgName 2) l2_scaled)
    (cRet (cTup (cCons (cLc [2] (cItU (cVar 0)) (tgName 2) cYes (cLc [3, 4] (cItU (cVar 2)) (tgTup 2 (tgCons (tgName 3) (tgCons (tgName 4) tgNil))) cYes (cOp gMul (cVar 3) (cOp gFdiv (cVar 1) (cVar 4))))) (cCons (cVar 1) cNil))))))
def f_scaled : List D → M D := runD 1 5 b_scaled
theorem u_scaled (x0 : D) (s : S) : f_scaled [x0] s = (b_scaled [some x0, none, none, none, none] s).bind endD := rfl
def l1_stair : En → M Fl := (cSeq (cAug 2 (fun i j => i + j) (cVar 4))
    (cApp 1 (cTup (cCons (cVar 2) (cCons (cOp gMul (cVar 3) (cVar 2)) cNil)))))
def b_stair : En → M Fl := (cSeq (cPar (pCons [1] 1 (cN (cLstL (cCons (cTup (cCons (cC (.int 0)) (cCons (cC (.int 0)) cNil))) cNil))) (pCons [1] 2 (cV (cC (.int 0))) pNil)))
    (cSeq (cFor (cItR (cVar 0)) (tgTup 2 (tgCons (tgName 3) (tgCons (tgName 4) tgNil))) l1_stair)
    (cRet (cVar 1))))
def f_stair : List D → M D := runD 1 5 b_stair
theorem u_stair (x0 : D) (s : S) : f_stair [x0] s = (b_stair [some x0, none, none, none, none] s).bind endD := rfl
def b_is_less : En → M Fl := (cRet (cOp gLt (cOp gMul (cOp gIx (cVar 0) (cC (.int 0))) (cOp gIx (cVar 1) (cC (.int 1)))) (cOp gMul (cOp gIx (cVar 1) (cC (.int 0))) (cOp gIx (cVar 0) (cC (.int 1))))))
def f_is_less : List D → M D := runD 2 2 b_is_less
theorem u_is_less (x0 x1 : D) (s : S) : f_is_less [x0, x1] s = (b_is_less [some x0, some x1] s).bind endD := rfl
def b_made : En → M Fl := (cSeq (cSet 2 (cCall 2 f_common (cCons (cVar 0) (cCons (cVar 1) cNil))))
    (cRet (cTup (cCons (cOp gFdiv (cVar 0) (cVar 2)) (cCons (cOp gFdiv (cVar 1) (cVar 2)) cNil)))))
def f_made : List D → M D := runD 2 3 b_made
theorem u_made (x0 x1 : D) (s : S) : f_made [x0, x1] s = (b_made [some x0, some x1, none] s).bind endD := rfl
def b_slope : En → M Fl := (cRet (cCall 2 f_made (cCons (cOp gDif (cOp gIx (cVar 1) (cC (.int 1))) (cOp gIx (cVar 0) (cC (.int 1)))) (cCons (cOp gDif (cOp gIx (cVar 1) (cC (.int 0))) (cOp gIx (cVar 0) (cC (.int 0)))) cNil))))
def f_slope : List D → M D := runD 2 2 b_slope
theorem u_slope (x0 x1 : D) (s : S) : f_slope [x0, x1] s = (b_slope [some x0, some x1] s).bind endD := rfl
def b_is_bend : En → M Fl := (cRet (cCall 2 f_is_less (cCons (cCall 2 f_slope (cCons (cVar 1) (cCons (cVar 2) cNil))) (cCons (cCall 2 f_slope (cCons (cVar 0) (cCons (cVar 1) cNil))) cNil))))
def f_is_bend : List D → M D := runD 3 3 b_is_bend
theorem u_is_bend (x0 x1 x2 : D) (s : S) : f_is_bend [x0, x1, x2] s = (b_is_bend [some x0, some x1, some x2] s).bind endD := rfl
def l1_hull : En → M Fl := (cSeq (cWhile (fuelL 1) (cAnd (cPk (cTst (cOp gGt (cB gLen (cCons (cVar 1) cNil)) (cC (.int 1))))) (cNot (cTst (cCall 3 f_is_bend (cCons (cOp gIx (cVar 0) (cScal (cOp gIx (cVar 1) (cUn gNeg (cC (.int 2)))))) (cCons (cOp gIx (cVar 0) (cScal (cOp gIx (cVar 1) (cUn gNeg (cC (.int 1)))))) (cCons (cVar 3) cNil))))))) (cPop 1))
    (cApp 1 (cVar 2)))
def b_hull : En → M Fl := (cSeq (cSetL 1 (cLstL cNil))
    (cSeq (cFor (cItE (cVar 0)) (tgTup 2 (tgCons (tgName 2) (tgCons (tgName 3) tgNil))) l1_hull)
    (cRet (cVar 1))))
def f_hull : List D → M D := runD 1 4 b_hull
theorem u_hull (x0 : D) (s : S) : f_hull [x0] s = (b_hull [some x0, none, none, none] s).bind endD := rfl
def l1_levels_of : En → M Fl := (cSeq (cPar (pCons [3] 5 (cV (cOp gIx (cVar 2) (cVar 4))) (pCons [3] 6 (cV (cOp gIx (cVar 2) (cOp gAdd (cVar 4) (cC (.int 1))))) pNil)))
    (cExt 3 (cOp gMul (cLst (cCons (cCall 2 f_slope (cCons (cOp gIx (cVar 1) (cVar 5)) (cCons (cOp gIx (cVar 1) (cVar 6)) cNil))) cNil)) (cOp gDif (cVar 6) (cVar 5)))))
def b_levels_of : En → M Fl := (cSeq (cSet 1 (cCall 1 f_stair (cCons (cVar 0) cNil)))
    (cSeq (cPar (pCons [3] 2 (cV (cCall 1 f_hull (cCons (cVar 1) cNil))) (pCons [3] 3 (cN (cLstL cNil)) pNil)))
    (cSeq (cFor (cItA gR1 (cCons (cOp gDif (cB gLen (cCons (cVar 2) cNil)) (cC (.int 1))) cNil)) (tgName 4) l1_levels_of)
    (cRet (cUn gRev (cVar 3))))))
def f_levels_of : List D → M D := runD 1 7 b_levels_of
theorem u_levels_of (x0 : D) (s : S) : f_levels_of [x0] s = (b_levels_of [some x0, none, none, none, none, none, none] s).bind endD := rfl
def b_level_rows : En → M Fl := (cRet (cLc [1] (cItU (cUn g_crowd (cVar 0))) (tgName 1) cYes (cCall 1 f_levels_of (cCons (cVar 1) cNil))))
def f_level_rows : List D → M D := runD 1 2 b_level_rows
theorem u_level_rows (x0 : D) (s : S) : f_level_rows [x0] s = (b_level_rows [some x0, none] s).bind endD := rfl
def l1_all_places : En → M Fl := (cSet 1 (cLc2 [] [3, 4] (cItU (cVar 1)) (tgName 3) cYes (cItA gR1 (cCons (cB gLen (cCons (cVar 2) cNil)) cNil)) (tgName 4) cYes (cOp gAdd (cVar 3) (cTup (cCons (cVar 4) cNil))) [4]))
def b_all_places : En → M Fl := (cSeq (cSet 1 (cLst (cCons (cTup cNil) cNil)))
    (cSeq (cFor (cItU (cUn g_crowd (cVar 0))) (tgName 2) l1_all_places)
    (cRet (cVar 1))))
def f_all_places : List D → M D := runD 1 5 b_all_places
theorem u_all_places (x0 : D) (s : S) : f_all_places [x0] s = (b_all_places [some x0, none, none, none, none] s).bind endD := rfl
def b_chosen : En → M Fl := (cSeq (cSet 3 (cB gSortedV (cCons (cLc [4, 5] (cItE (cVar 2)) (tgTup 2 (tgCons (tgName 4) (tgCons (tgName 5) tgNil))) (cTst (cOp gGt (cOp gIx (cOp gIx (cVar 0) (cVar 4)) (cVar 5)) (cC (.int 0)))) (cTup (cCons (cUn gNeg (cOp gIx (cOp gIx (cVar 0) (cVar 4)) (cVar 5))) (cCons (cVar 4) cNil)))) cNil)))
    (cRet (cLc [6, 4] (cItU (cSl (cVar 3) cNo (cPart (cVar 1)))) (tgTup 2 (tgCons (tgName 6) (tgCons (tgName 4) tgNil))) cYes (cVar 4))))
def f_chosen : List D → M D := runD 3 7 b_chosen
theorem u_chosen (x0 x1 x2 : D) (s : S) : f_chosen [x0, x1, x2] s = (b_chosen [some x0, some x1, some x2, none, none, none, none] s).bind endD := rfl
def l1_price_at : En → M Fl := (cIte (cTst (cOp gIn (cVar 3) (cCall 3 f_chosen (cCons (cVar 1) (cCons (cUn g_stock (cVar 0)) (cCons (cOp gAdd (cOp gAdd (cSl (cVar 2) cNo (cPart (cVar 3))) (cTup (cCons (cVar 4) cNil))) (cSl (cVar 2) (cPart (cOp gAdd (cVar 3) (cC (.int 1)))) cNo)) cNil)))))) (cRet (cVar 5)) cNext)
def b_price_at : En → M Fl := (cSeq (cFor (cItE (cOp gIx (cUn g_crowd (cVar 0)) (cVar 3))) (tgTup 2 (tgCons (tgName 4) (tgCons (tgTup 2 (tgCons (tgName 5) (tgCons (tgName 6) tgNil))) tgNil))) l1_price_at)
    (cRet (cC (.int 0))))
def f_price_at : List D → M D := runD 4 7 b_price_at
theorem u_price_at (x0 x1 x2 x3 : D) (s : S) : f_price_at [x0, x1, x2, x3] s = (b_price_at [some x0, some x1, some x2, some x3, none, none, none] s).bind endD := rfl
def b_sold_at : En → M Fl := (cSeq (cSet 3 (cCall 3 f_chosen (cCons (cVar 1) (cCons (cUn g_stock (cVar 0)) (cCons (cVar 2) cNil)))))
    (cSeq (cSet 4 (cB gTuple (cCons (cLc [5] (cItA gR1 (cCons (cB gLen (cCons (cVar 2) cNil)) cNil)) (tgName 5) cYes (cOp gIn (cVar 5) (cVar 3))) cNil)))
    (cSeq (cSet 6 (cLc [5] (cItA gR1 (cCons (cB gLen (cCons (cVar 2) cNil)) cNil)) (tgName 5) cYes (cIf (cTst (cOp gIx (cVar 4) (cVar 5))) (cCall 4 f_price_at (cCons (cVar 0) (cCons (cVar 1) (cCons (cVar 2) (cCons (cVar 5) cNil))))) (cC (.int 0)))))
    (cRet (cTup (cCons (cVar 4) (cCons (cB gTuple (cCons (cVar 6) cNil)) cNil)))))))
def f_sold_at : List D → M D := runD 3 7 b_sold_at
theorem u_sold_at (x0 x1 x2 : D) (s : S) : f_sold_at [x0, x1, x2] s = (b_sold_at [some x0, some x1, some x2, none, none, none, none] s).bind endD := rfl
def b_bids_at : En → M Fl := (cRet (cB gTuple (cCons (cLc [2, 3] (cItE (cVar 1)) (tgTup 2 (tgCons (tgName 2) (tgCons (tgName 3) tgNil))) cYes (cOp gIx (cOp gIx (cOp gIx (cUn g_crowd (cVar 0)) (cVar 2)) (cVar 3)) (cC (.int 0)))) cNil)))
def f_bids_at : List D → M D := runD 2 4 b_bids_at
theorem u_bids_at (x0 x1 : D) (s : S) : f_bids_at [x0, x1] s = (b_bids_at [some x0, some x1, none, none] s).bind endD := rfl
def l1_rule_of : En → M Fl := (cSeq (cAsg (cCall 3 f_sold_at (cCons (cVar 0) (cCons (cVar 1) (cCons (cVar 3) cNil)))) (tgTup 2 (tgCons (tgName 4) (tgCons (tgName 5) tgNil))))
    (cApp 2 (cTup (cCons (cCall 2 f_bids_at (cCons (cVar 0) (cCons (cVar 3) cNil))) (cCons (cVar 4) (cCons (cVar 5) cNil))))))
def b_rule_of : En → M Fl := (cSeq (cDo (cCall 1 f_need_sale (cCons (cVar 0) cNil)))
    (cSeq (cPar (pCons [2] 1 (cV (cOp gIx (cCall 1 f_scaled (cCons (cCall 1 f_level_rows (cCons (cVar 0) cNil)) cNil)) (cC (.int 0)))) (pCons [2] 2 (cN (cLstL cNil)) pNil)))
    (cSeq (cFor (cItU (cCall 1 f_all_places (cCons (cVar 0) cNil))) (tgName 3) l1_rule_of)
    (cRet (cB gTuple (cCons (cVar 2) cNil))))))
def f_rule_of : List D → M D := runD 1 6 b_rule_of
theorem u_rule_of (x0 : D) (s : S) : f_rule_of [x0] s = (b_rule_of [some x0, none, none, none, none, none] s).bind endD := rfl
def b_is_row : En → M Fl := (cSeq (cIte (cOr (cNot (cTst (cIsi "tuple" (cVar 1)))) (cOr (cTst (cOp gNe (cB gLen (cCons (cVar 1) cNil)) (cC (.int 3)))) (cNot (cTst (cB gAll (cCons (cLc [3] (cItU (cVar 1)) (tgName 3) cYes (cIsi "tuple" (cVar 3))) cNil)))))) (cRet (cC (.bl false))) cNext)
    (cSeq (cIte (cOr (cNot (cTst (cB gAll (cCons (cLc [4] (cItU (cOp gIx (cVar 1) (cC (.int 0)))) (tgName 4) cYes (cCall 3 f_is_from (cCons (cVar 4) (cCons (cC (.int 0)) (cCons (cC (.int 1000000000)) cNil))))) cNil)))) (cTst (cOp gNe (cOp gIx (cVar 1) (cC (.int 0))) (cVar 2)))) (cRet (cC (.bl false))) cNext)
    (cSeq (cIte (cOr (cTst (cOp gNe (cB gLen (cCons (cOp gIx (cVar 1) (cC (.int 1))) cNil)) (cB gLen (cCons (cVar 2) cNil)))) (cTst (cOp gNe (cB gLen (cCons (cOp gIx (cVar 1) (cC (.int 2))) cNil)) (cB gLen (cCons (cVar 2) cNil))))) (cRet (cC (.bl false))) cNext)
    (cSeq (cIte (cOr (cNot (cTst (cB gAll (cCons (cLc [5] (cItU (cOp gIx (cVar 1) (cC (.int 1)))) (tgName 5) cYes (cIsi "bool" (cVar 5))) cNil)))) (cNot (cTst (cB gAll (cCons (cLc [6] (cItU (cOp gIx (cVar 1) (cC (.int 2)))) (tgName 6) cYes (cCall 3 f_is_from (cCons (cVar 6) (cCons (cUn gNeg (cC (.int 1000000000))) (cCons (cC (.int 1000000000)) cNil))))) cNil))))) (cRet (cC (.bl false))) cNext)
    (cRet (cOp gLe (cB gLen (cCons (cLc [5] (cItU (cOp gIx (cVar 1) (cC (.int 1)))) (tgName 5) (cTst (cVar 5)) (cVar 5)) cNil)) (cUn g_stock (cVar 0))))))))
def f_is_row : List D → M D := runD 3 7 b_is_row
theorem u_is_row (x0 x1 x2 : D) (s : S) : f_is_row [x0, x1, x2] s = (b_is_row [some x0, some x1, some x2, none, none, none, none] s).bind endD := rfl
def b_is_rule_of : En → M Fl := (cSeq (cSet 2 (cCall 1 f_all_places (cCons (cVar 0) cNil)))
    (cSeq (cIte (cOr (cNot (cTst (cIsi "tuple" (cVar 1)))) (cTst (cOp gNe (cB gLen (cCons (cVar 1) cNil)) (cB gLen (cCons (cVar 2) cNil))))) (cRet (cC (.bl false))) cNext)
    (cRet (cB gAll (cCons (cLc [3, 4] (cItE (cVar 2)) (tgTup 2 (tgCons (tgName 3) (tgCons (tgName 4) tgNil))) cYes (cCall 3 f_is_row (cCons (cVar 0) (cCons (cOp gIx (cVar 1) (cVar 3)) (cCons (cCall 2 f_bids_at (cCons (cVar 0) (cCons (cVar 4) cNil))) cNil))))) cNil)))))
def f_is_rule_of : List D → M D := runD 2 5 b_is_rule_of
theorem u_is_rule_of (x0 x1 : D) (s : S) : f_is_rule_of [x0, x1] s = (b_is_rule_of [some x0, some x1, none, none, none] s).bind endD := rfl
def b_is_rule : En → M Fl := (cSeq (cDo (cCall 1 f_need_sale (cCons (cVar 0) cNil)))
    (cRet (cCall 2 f_is_rule_of (cCons (cVar 0) (cCons (cVar 1) cNil)))))
def f_is_rule : List D → M D := runD 2 2 b_is_rule
theorem u_is_rule (x0 x1 : D) (s : S) : f_is_rule [x0, x1] s = (b_is_rule [some x0, some x1] s).bind endD := rfl
def l1__law_all : En → M Fl := (cSet 3 (cOp gAdd (cVar 3) (cLc [6] (cItA gR1 (cCons (cB gLen (cCons (cVar 2) cNil)) cNil)) (tgName 6) cYes (cTup (cCons (cOp gAdd (cVar 4) (cTup (cCons (cVar 6) cNil))) (cCons (cOp gMul (cVar 5) (cOp gIx (cOp gIx (cVar 2) (cVar 6)) (cC (.int 1)))) cNil))))))
def l2__law_all : En → M Fl := (cSeq (cSet 3 (cLst cNil))
    (cSeq (cFor (cItU (cVar 1)) (tgTup 2 (tgCons (tgName 4) (tgCons (tgName 5) tgNil))) l1__law_all)
    (cSet 1 (cVar 3))))
def b__law_all : En → M Fl := (cSeq (cSet 1 (cLst (cCons (cTup (cCons (cTup cNil) (cCons (cC (.int 1)) cNil))) cNil)))
    (cSeq (cFor (cItU (cUn (gKey "buyers") (cVar 0))) (tgName 2) l2__law_all)
    (cRet (cVar 1))))
def f__law_all : List D → M D := runD 1 7 b__law_all
theorem u__law_all (x0 : D) (s : S) : f__law_all [x0] s = (b__law_all [some x0, none, none, none, none, none, none] s).bind endD := rfl
def b__law_bids : En → M Fl := (cRet (cB gTuple (cCons (cLc [2] (cItA gR1 (cCons (cB gLen (cCons (cVar 1) cNil)) cNil)) (tgName 2) cYes (cOp gIx (cOp gIx (cOp gIx (cUn (gKey "buyers") (cVar 0)) (cVar 2)) (cOp gIx (cVar 1) (cVar 2))) (cC (.int 0)))) cNil)))
def f__law_bids : List D → M D := runD 2 3 b__law_bids
theorem u__law_bids (x0 x1 : D) (s : S) : f__law_bids [x0, x1] s = (b__law_bids [some x0, some x1, none] s).bind endD := rfl
def l1__law_is_rule : En → M Fl := (cIte (cOr (cNot (cTst (cIsi "int" (cVar 7)))) (cOr (cTst (cIsi "bool" (cVar 7))) (cNot (cTst (cChain gLe gLe (cUn gNeg (cOp gPow (cC (.int 10)) (cC (.int 9)))) (cVar 7) (cOp gPow (cC (.int 10)) (cC (.int 9)))))))) (cRet (cC (.bl false))) cNext)
def l2__law_is_rule : En → M Fl := (cSeq (cSet 4 (cOp gIx (cVar 1) (cVar 3)))
    (cSeq (cIte (cOr (cNot (cTst (cIsi "tuple" (cVar 4)))) (cOr (cTst (cOp gNe (cB gLen (cCons (cVar 4) cNil)) (cC (.int 3)))) (cTst (cOp gNe (cOp gIx (cVar 4) (cC (.int 0))) (cCall 2 f__law_bids (cCons (cVar 0) (cCons (cOp gIx (cOp gIx (cVar 2) (cVar 3)) (cC (.int 0))) cNil))))))) (cRet (cC (.bl false))) cNext)
    (cSeq (cIte (cOr (cNot (cTst (cIsi "tuple" (cOp gIx (cVar 4) (cC (.int 0)))))) (cTst (cB gAny (cCons (cLc [5] (cItU (cOp gIx (cVar 4) (cC (.int 0)))) (tgName 5) cYes (cIsi "bool" (cVar 5))) cNil)))) (cRet (cC (.bl false))) cNext)
    (cSeq (cIte (cOr (cNot (cTst (cIsi "tuple" (cOp gIx (cVar 4) (cC (.int 1)))))) (cNot (cTst (cIsi "tuple" (cOp gIx (cVar 4) (cC (.int 2))))))) (cRet (cC (.bl false))) cNext)
    (cSeq (cIte (cOr (cTst (cOp gNe (cB gLen (cCons (cOp gIx (cVar 4) (cC (.int 1))) cNil)) (cB gLen (cCons (cUn (gKey "buyers") (cVar 0)) cNil)))) (cTst (cOp gNe (cB gLen (cCons (cOp gIx (cVar 4) (cC (.int 2))) cNil)) (cB gLen (cCons (cUn (gKey "buyers") (cVar 0)) cNil))))) (cRet (cC (.bl false))) cNext)
    (cSeq (cIte (cOr (cNot (cTst (cB gAll (cCons (cLc [6] (cItU (cOp gIx (cVar 4) (cC (.int 1)))) (tgName 6) cYes (cIsi "bool" (cVar 6))) cNil)))) (cTst (cOp gGt (cB gSum (cCons (cLc [6] (cItU (cOp gIx (cVar 4) (cC (.int 1)))) (tgName 6) cYes (cB gInt (cCons (cVar 6) cNil))) cNil)) (cUn (gKey "things") (cVar 0))))) (cRet (cC (.bl false))) cNext)
    (cFor (cItU (cOp gIx (cVar 4) (cC (.int 2)))) (tgName 7) l1__law_is_rule)))))))
def b__law_is_rule : En → M Fl := (cSeq (cSet 2 (cCall 1 f__law_all (cCons (cVar 0) cNil)))
    (cSeq (cIte (cOr (cNot (cTst (cIsi "tuple" (cVar 1)))) (cTst (cOp gNe (cB gLen (cCons (cVar 1) cNil)) (cB gLen (cCons (cVar 2) cNil))))) (cRet (cC (.bl false))) cNext)
    (cSeq (cFor (cItA gR1 (cCons (cB gLen (cCons (cVar 2) cNil)) cNil)) (tgName 3) l2__law_is_rule)
    (cRet (cC (.bl true))))))
def f__law_is_rule : List D → M D := runD 2 8 b__law_is_rule
theorem u__law_is_rule (x0 x1 : D) (s : S) : f__law_is_rule [x0, x1] s = (b__law_is_rule [some x0, some x1, none, none, none, none, none, none] s).bind endD := rfl
def b_need_rule : En → M Fl := (cIte (cQ (cNot (cTst (cCall 2 f_is_rule_of (cCons (cVar 0) (cCons (cVar 1) cNil)))))) (cRaise "BadRule" cNil) cNext)
def f_need_rule : List D → M D := runD 2 2 b_need_rule
theorem u_need_rule (x0 x1 : D) (s : S) : f_need_rule [x0, x1] s = (b_need_rule [some x0, some x1] s).bind endD := rfl
def b_gain_of : En → M Fl := (cRet (cOp gDif (cIf (cTst (cOp gIx (cOp gIx (cVar 0) (cC (.int 1))) (cVar 1))) (cVar 2) (cC (.int 0))) (cOp gIx (cOp gIx (cVar 0) (cC (.int 2))) (cVar 1))))
def f_gain_of : List D → M D := runD 3 3 b_gain_of
theorem u_gain_of (x0 x1 x2 : D) (s : S) : f_gain_of [x0, x1, x2] s = (b_gain_of [some x0, some x1, some x2] s).bind endD := rfl
def l1_flaw_at : En → M Fl := (cIte (cTst (cOp gGt (cCall 3 f_gain_of (cCons (cOp gGetT (cVar 1) (cOp gAdd (cOp gAdd (cSl (cVar 2) cNo (cPart (cVar 3))) (cTup (cCons (cVar 6) cNil))) (cSl (cVar 2) (cPart (cOp gAdd (cVar 3) (cC (.int 1)))) cNo))) (cCons (cVar 3) (cCons (cVar 4) cNil)))) (cVar 5))) (cRet (cTup (cCons (cVar 2) (cCons (cVar 3) (cCons (cVar 6) cNil))))) cNext)
def l2_flaw_at : En → M Fl := (cSeq (cSet 5 (cCall 3 f_gain_of (cCons (cOp gGetT (cVar 1) (cVar 2)) (cCons (cVar 3) (cCons (cVar 4) cNil)))))
    (cSeq (cIte (cTst (cOp gLt (cVar 5) (cC (.int 0)))) (cRet (cTup (cCons (cVar 2) (cCons (cVar 3) (cCons (cC .non) cNil))))) cNext)
    (cFor (cItU (cOp gIx (cUn g_crowd (cVar 0)) (cVar 3))) (tgTup 2 (tgCons (tgName 6) (tgCons (tgName 7) tgNil))) l1_flaw_at)))
def b_flaw_at : En → M Fl := (cSeq (cFor (cItE (cVar 2)) (tgTup 2 (tgCons (tgName 3) (tgCons (tgName 4) tgNil))) l2_flaw_at)
    (cRet (cC .non)))
def f_flaw_at : List D → M D := runD 3 8 b_flaw_at
theorem u_flaw_at (x0 x1 x2 : D) (s : S) : f_flaw_at [x0, x1, x2] s = (b_flaw_at [some x0, some x1, some x2, none, none, none, none, none] s).bind endD := rfl
def l1_flaw_of : En → M Fl := (cSeq (cSet 4 (cCall 3 f_flaw_at (cCons (cVar 0) (cCons (cVar 2) (cCons (cOp gIx (cVar 3) (cC (.int 0))) cNil)))))
    (cIte (cTst (cOp gNotN (cVar 4) (cC .non))) (cRet (cVar 4)) cNext))
def b_flaw_of : En → M Fl := (cSeq (cSet 2 (cDc [3] (cItU (cVar 1)) (tgName 3) (cOp gIx (cVar 3) (cC (.int 0))) (cVar 3)))
    (cSeq (cFor (cItU (cVar 1)) (tgName 3) l1_flaw_of)
    (cRet (cC .non))))
def f_flaw_of : List D → M D := runD 2 5 b_flaw_of
theorem u_flaw_of (x0 x1 : D) (s : S) : f_flaw_of [x0, x1] s = (b_flaw_of [some x0, some x1, none, none, none] s).bind endD := rfl
def b_flaw : En → M Fl := (cSeq (cQ (cDo (cCall 1 f_need_sale (cCons (cVar 0) cNil))))
    (cSeq (cDo (cCall 2 f_need_rule (cCons (cQ (cVar 0)) (cCons (cQ (cVar 1)) cNil))))
    (cQ (cRet (cCall 2 f_flaw_of (cCons (cVar 0) (cCons (cVar 1) cNil)))))))
def f_flaw : List D → M D := runD 2 2 b_flaw
theorem u_flaw (x0 x1 : D) (s : S) : f_flaw [x0, x1] s = (b_flaw [some x0, some x1] s).bind endD := rfl
def b_total_of : En → M Fl := (cRet (cB gSum (cCons (cLc [1, 2] (cItU (cVar 0)) (tgTup 2 (tgCons (tgName 1) (tgCons (tgName 2) tgNil))) cYes (cVar 2)) cNil)))
def f_total_of : List D → M D := runD 1 3 b_total_of
theorem u_total_of (x0 : D) (s : S) : f_total_of [x0] s = (b_total_of [some x0, none, none] s).bind endD := rfl
def l1_takings_of : En → M Fl := (cSet 3 (cOp gMul (cVar 3) (cCall 1 f_total_of (cCons (cVar 4) cNil))))
def l2_takings_of : En → M Fl := (cSet 7 (cOp gMul (cVar 7) (cOp gIx (cOp gIx (cOp gIx (cUn g_crowd (cVar 0)) (cVar 8)) (cVar 9)) (cC (.int 1)))))
def l3_takings_of : En → M Fl := (cSeq (cSet 7 (cC (.int 1)))
    (cSeq (cFor (cItE (cVar 6)) (tgTup 2 (tgCons (tgName 8) (tgCons (tgName 9) tgNil))) l2_takings_of)
    (cAug 2 (fun i j => i + j) (cOp gMul (cVar 7) (cB gSum (cCons (cOp gIx (cOp gIx (cVar 1) (cVar 5)) (cC (.int 2))) cNil))))))
def b_takings_of : En → M Fl := (cSeq (cPar (pCons [] 2 (cV (cC (.int 0))) (pCons [] 3 (cV (cC (.int 1))) pNil)))
    (cSeq (cFor (cItU (cUn g_crowd (cVar 0))) (tgName 4) l1_takings_of)
    (cSeq (cFor (cItE (cCall 1 f_all_places (cCons (cVar 0) cNil))) (tgTup 2 (tgCons (tgName 5) (tgCons (tgName 6) tgNil))) l3_takings_of)
    (cRet (cCall 2 f_made (cCons (cVar 2) (cCons (cVar 3) cNil)))))))
def f_takings_of : List D → M D := runD 2 10 b_takings_of
theorem u_takings_of (x0 x1 : D) (s : S) : f_takings_of [x0, x1] s = (b_takings_of [some x0, some x1, none, none, none, none, none, none, none, none] s).bind endD := rfl
def b_takings : En → M Fl := (cSeq (cQ (cDo (cCall 1 f_need_sale (cCons (cVar 0) cNil))))
    (cSeq (cDo (cCall 2 f_need_rule (cCons (cQ (cVar 0)) (cCons (cQ (cVar 1)) cNil))))
    (cQ (cRet (cCall 2 f_takings_of (cCons (cVar 0) (cCons (cVar 1) cNil)))))))
def f_takings : List D → M D := runD 2 2 b_takings
theorem u_takings (x0 x1 : D) (s : S) : f_takings [x0, x1] s = (b_takings [some x0, some x1] s).bind endD := rfl
def h1__law_refused : HL := (("BadRule", fun _ => (cSet 3 (cC (.bl true)))) :: [])
def b__law_refused : En → M Fl := (cSeq (cSet 3 (cC (.bl false)))
    (cSeq (cTry xsL (cPick 2 [("flaw", f_flaw), ("takings", f_takings)] (cQ (cOp gIx (cLst (cCons (cC (.fn "flaw")) (cCons (cC (.fn "takings")) cNil))) (cVar 0))) (cCons (cQ (cVar 1)) (cCons (cQ (cVar 2)) cNil))) h1__law_refused)
    (cRet (cVar 3))))
def f__law_refused : List D → M D := runD 3 4 b__law_refused
theorem u__law_refused (x0 x1 x2 : D) (s : S) : f__law_refused [x0, x1, x2] s = (b__law_refused [some x0, some x1, some x2, none] s).bind endD := rfl
def l1_law : En → M Fl := (cSeq (cPar (pCons [6, 15] 6 (cN (cListL (cCons (cVar 4) cNil))) (pCons [6, 15] 7 (cV (cCall 2 f__law_taken (cCons (cVar 1) (cCons (cB gLen (cCons (cVar 4) cNil)) cNil)))) (pCons [6, 15] 8 (cV (cCall 2 f__law_taken (cCons (cVar 1) (cCons (cC (.int 6)) cNil)))) pNil))))
    (cSeq (cAsg (cIxO 6 (cVar 7)) (tgTup 3 (tgCons (tgName 9) (tgCons (tgName 10) (tgCons (tgName 11) tgNil)))))
    (cSeq (cSet 12 (cLst (cCons (cC .non) (cCons (cC (.bl true)) (cCons (cC (.int 1)) (cCons (cC (.int 0)) (cCons (cC (.str "1")) (cCons (cUn gNeg (cC (.int 1))) (cCons (cOp gPow (cC (.int 10)) (cC (.int 9))) (cCons (cOp gAdd (cOp gPow (cC (.int 10)) (cC (.int 9))) (cC (.int 1))) (cCons (cUn gNeg (cOp gPow (cC (.int 10)) (cC (.int 9)))) (cCons (cTup cNil) (cCons (cC (.bl false)) cNil)))))))))))))
    (cSeq (cSet 13 (cOp gIx (cVar 12) (cCall 2 f__law_taken (cCons (cVar 1) (cCons (cB gLen (cCons (cVar 12) cNil)) cNil)))))
    (cSeq (cSet 14 (cCall 2 f__law_taken (cCons (cVar 1) (cCons (cB gLen (cCons (cVar 9) cNil)) cNil))))
    (cSeq (cSetL 15 (cLstL (cCons (cTup (cCons (cVar 9) (cCons (cVar 10) (cCons (cOp gAdd (cOp gAdd (cSl (cVar 11) cNo (cPart (cVar 14))) (cTup (cCons (cVar 13) cNil))) (cSl (cVar 11) (cPart (cOp gAdd (cVar 14) (cC (.int 1)))) cNo)) cNil)))) cNil)))
    (cSeq (cApp 15 (cTup (cCons (cVar 9) (cCons (cOp gAdd (cOp gAdd (cSl (cVar 10) cNo (cPart (cVar 14))) (cTup (cCons (cVar 13) cNil))) (cSl (cVar 10) (cPart (cOp gAdd (cVar 14) (cC (.int 1)))) cNo)) (cCons (cVar 11) cNil)))))
    (cSeq (cApp 15 (cTup (cCons (cOp gAdd (cOp gAdd (cSl (cVar 9) cNo (cPart (cVar 14))) (cTup (cCons (cVar 13) cNil))) (cSl (cVar 9) (cPart (cOp gAdd (cVar 14) (cC (.int 1)))) cNo)) (cCons (cVar 10) (cCons (cVar 11) cNil)))))
    (cSeq (cSetL 15 (cAddO 15 (cLst (cCons (cTup (cCons (cVar 9) (cCons (cOp gMul (cTup (cCons (cC (.bl true)) cNil)) (cB gLen (cCons (cVar 9) cNil))) (cCons (cVar 11) cNil)))) (cCons (cTup (cCons (cVar 9) (cCons (cVar 10) (cCons (cOp gAdd (cVar 11) (cTup (cCons (cC (.int 0)) cNil))) cNil)))) (cCons (cTup (cCons (cVar 9) (cCons (cB gList (cCons (cVar 10) cNil)) (cCons (cVar 11) cNil)))) cNil))))))
    (cSeq (cSetL 15 (cAddO 15 (cLst (cCons (cC .non) (cCons (cTup cNil) (cCons (cTup (cCons (cVar 9) (cCons (cVar 10) cNil))) cNil))))))
    (cSeq (cIte (cTst (cOp gEq (cVar 8) (cC (.int 0)))) (cSetL 6 (cAddL (cSlO 6 cNo (cPart (cVar 7))) (cSlO 6 (cPart (cOp gAdd (cVar 7) (cC (.int 1)))) cNo))) (cIte (cTst (cOp gEq (cVar 8) (cC (.int 1)))) (cSetL 6 (cRevO 6)) (cIte (cTst (cOp gEq (cVar 8) (cC (.int 2)))) (cSetL 6 (cAddO 6 (cSlO 6 cNo (cPart (cOp gAdd (cC (.int 1)) (cOp gMod (cVar 7) (cC (.int 2)))))))) (cIte (cTst (cOp gLt (cVar 8) (cC (.int 5)))) (cPut 6 (cVar 7) (cIxO 15 (cCall 2 f__law_taken (cCons (cVar 1) (cCons (cScal (cB gLen (cCons (cVar 15) cNil))) cNil))))) cNext))))
    (cSeq (cSet 16 (cTupO 6))
    (cSeq (cSet 17 (cCall 2 f_is_rule (cCons (cVar 3) (cCons (cVar 16) cNil))))
    (cSeq (cIte (cOr (cNot (cTst (cIsi "bool" (cVar 17)))) (cTst (cOp gNe (cVar 17) (cCall 2 f__law_is_rule (cCons (cVar 2) (cCons (cVar 16) cNil)))))) (cRet (cC (.bl false))) cNext)
    (cIte (cTst (cOp gEq (cCall 3 f__law_refused (cCons (cCall 2 f__law_taken (cCons (cVar 1) (cCons (cC (.int 2)) cNil))) (cCons (cVar 3) (cCons (cVar 16) cNil)))) (cVar 17))) (cRet (cC (.bl false))) cNext)))))))))))))))
def b_law : En → M Fl := (cSeq (cSet 2 (cCall 3 f__law_parts (cCons (cVar 1) (cCons (cC (.int 2)) (cCons (cC (.int 3)) cNil)))))
    (cSeq (cSet 3 (cCall 1 f__law_sale (cCons (cVar 2) cNil)))
    (cSeq (cSet 4 (cB gList (cCons (cCall 1 f_rule_of (cCons (cVar 3) cNil)) cNil)))
    (cSeq (cFor (cItA gR1 (cCons (cC (.int 8)) cNil)) (tgName 5) l1_law)
    (cSeq (cSet 12 (cLst (cCons (cC .non) (cCons (cTup cNil) (cCons (cVar 4) (cCons (cC (.str "rule")) (cCons (cC (.int 0)) (cCons cDic0 (cCons (cOp gMul (cTup (cCons (cC .non) cNil)) (cB gLen (cCons (cVar 4) cNil))) cNil)))))))))
    (cSeq (cSet 18 (cOp gIx (cVar 12) (cCall 2 f__law_taken (cCons (cVar 1) (cCons (cB gLen (cCons (cVar 12) cNil)) cNil)))))
    (cRet (cAndV (cNotV (cCall 2 f_is_rule (cCons (cVar 3) (cCons (cVar 18) cNil)))) (cCall 3 f__law_refused (cCons (cCall 2 f__law_taken (cCons (cVar 1) (cCons (cC (.int 2)) cNil))) (cCons (cVar 3) (cCons (cVar 18) cNil))))))))))))
section
variable {B : Bs} {P : Program} {w : World} {mg : Str → Option Value} {base : Heap}
theorem okI_BadRule (T : Tx B mg) : FnOk P w B.K mg base CX0 1 T.X_BadRule.f T.X_BadRule.d P_BadRule (spI0 (B.xc "BadRule")) := init0_ok (k := 0) (m := "a value is no rule of the sale") T.X_BadRule.F sc_BadRule rfl rfl T.X_BadRule.o fun cdv A outer s H E hr => pss_one (ps_expr (pe_clinit (by rfl) T.fe.m T.fe.sp T.fe.ty T.fe.rd T.fe.fc (pa_cons (pv 0) (pa_cons pe_str pa_nil))))
theorem ok__law_taken (T : Tx B mg) : FnOk P w B.K mg base CX0 1 T.D__law_taken.f T.D__law_taken.d P__law_taken (spD B 2 drawF) := taken_ok (k := 0) T.D__law_taken.F sc__law_taken rfl rfl fun cdv A outer s H E hr =>
  pss_cons (ps_if (pt_cmpR op_gt (pe_ix ix_list (pv 0) pe_int (fun _ _ => rfl)) pe_int (nomark _))
    (pss_cons (ps_set (i := 2) sc__law_taken.nd rfl (Or.inl rfl) (pe_op op_mod (pe_callTy call_int1 (by rfl) T.n_int (by decide +kernel) (pa_cons (pe_ix ix_list (pv 0) pe_int (fun _ _ => rfl)) pa_nil)) (pv 1)))
    (pss_cons (ps_asg (pe_op op_fdiv (pe_ix ix_list (pv 0) pe_int (fun _ _ => rfl)) (pv 1)) (pg_sub (pv 0) pe_int set_list)) (pss_one (ps_ret (pv 2))))) pss_nil)
  (pss_cons (ps_asg (pe_op op_add (pe_ix ix_list (pv 0) pe_int (fun _ _ => rfl)) pe_int) (pg_sub (pv 0) pe_int set_list))
  (pss_cons (ps_if (pt_cmpR op_gt (pe_ix ix_list (pv 0) pe_int (fun _ _ => rfl)) (pe_callB call_len_seq (by rfl) T.n_len (by decide +kernel) (pa_cons (pe_ix ix_list (pv 0) pe_int (fun _ _ => rfl)) pa_nil)) (nomark _))
    (pss_cons (ps_asg (pe_op op_mod (pe_callTy call_int1 (by rfl) T.n_int (by decide +kernel) (pa_cons (pe_op op_add (pe_op op_mul (pe_ix ix_list (pv 0) pe_int (fun _ _ => rfl)) pe_int) pe_int) pa_nil)) pe_int) (pg_sub (pv 0) pe_int set_list))
    (pss_one (ps_ret (pe_op op_mod (pe_callTy call_int1 (by rfl) T.n_int (by decide +kernel) (pa_cons (pe_op op_fdiv (pe_ix ix_list (pv 0) pe_int (fun _ _ => rfl)) pe_int) pa_nil)) (pv 1))))) pss_nil)
  (pss_cons (ps_set (i := 3) sc__law_taken.nd rfl (Or.inl rfl) (pe_ix ix_list (pe_ix ix_list (pv 0) pe_int (fun _ _ => rfl)) (pe_op op_sub (pe_ix ix_list (pv 0) pe_int (fun _ _ => rfl)) pe_int) (fun _ _ => rfl)))
  (pss_cons (ps_asg (pe_op op_mod (pe_callTy call_int1 (by rfl) T.n_int (by decide +kernel) (pa_cons (pe_op op_add (pe_op op_add (pe_op op_mul (pe_ix ix_list (pv 0) pe_int (fun _ _ => rfl)) pe_int) (pv 3)) pe_int) pa_nil)) pe_int) (pg_sub (pv 0) pe_int set_list))
  (pss_cons (ps_if (pt_cmpR op_ge (pv 3) (pe_op op_pow pe_int pe_int) (nomark _)) (pss_one (ps_asg (pe_op op_fdiv (pv 3) (pv 1)) (pg_sub (pv 0) pe_int set_list))) pss_nil)
  (pss_one (ps_ret (pe_op op_mod (pe_callTy call_int1 (by rfl) T.n_int (by decide +kernel) (pa_cons (pv 3) pa_nil)) (pv 1)))))))))

theorem ok__law_buyer (T : Tx B mg) : FnOk P w B.K mg base CX0 2 T.D__law_buyer.f T.D__law_buyer.d P__law_buyer (spD B 2 f__law_buyer) := by
  have G__law_taken := ok__law_taken (P := P) (w := w) (base := base) T
  have key : FnOk P w B.K mg base CX0 2 T.D__law_buyer.f T.D__law_buyer.d P__law_buyer (spD B P__law_buyer.length (runD P__law_buyer.length N__law_buyer.length b__law_buyer)) := fn_ok (B := B) (W := [3]) (k := 1) (body := b__law_buyer) T.D__law_buyer.F sc__law_buyer (by rfl) fun cdv A outer s H E hr => ⟨_, (pss_cons (ps_par3 (i := 2) (j := 3) (l := 4) (by rfl) sc__law_buyer.nd rfl rfl rfl (by decide) (by decide) (by decide) rfl rfl rfl (pa_cons (pe_call G__law_taken (hr.mono (by decide)) (by rfl) T.D__law_taken.m T.D__law_taken.k T.D__law_taken.b .nil pass0 (pa_cons (pv 0) (pa_cons pe_int pa_nil))) (pa_cons (pe_lst pa_nil) (pa_cons (pe_ix ix_seq (pe_lst (pa_cons pe_int (pa_cons pe_int (pa_cons pe_int (pa_cons (pe_op op_pow pe_int pe_int) pa_nil))))) (pe_call G__law_taken (hr.mono (by decide)) (by rfl) T.D__law_taken.m T.D__law_taken.k T.D__law_taken.b .nil pass0 (pa_cons (pv 0) (pa_cons pe_int pa_nil))) (fun _ _ => rfl)) pa_nil))) (by rfl))
      (pss_cons (ps_for PassesOwn.never rfl (pi_range1 (by rfl) T.n_range (pa_cons (pe_op op_addU pe_int (pe_call G__law_taken (hr.mono (by decide)) (by rfl) T.D__law_taken.m T.D__law_taken.k T.D__law_taken.b .nil pass0 (pa_cons (pv 0) (pa_cons (pv 1) pa_nil)))) pa_nil)) (pg_name (i := 5) sc__law_buyer.nd rfl (by first | exact Or.inl rfl | exact Or.inr rfl)) (pss_cons (ps_expr (pe_bm PySem.F.plainAttrs_list PySem.F.slot_list_append PySem.F.type_list_append mt_append (pv 3) (pa_cons (pe_tup (pa_cons (pv 2) (pa_cons (pe_op op_addU pe_int (pe_call G__law_taken (hr.mono (by decide)) (by rfl) T.D__law_taken.m T.D__law_taken.k T.D__law_taken.b .nil pass0 (pa_cons (pv 0) (pa_cons (pe_ix ix_seq (pe_lst (pa_cons pe_int (pa_cons pe_int (pa_cons pe_int (pa_cons (pe_op op_pow pe_int pe_int) pa_nil))))) (pe_call G__law_taken (hr.mono (by decide)) (by rfl) T.D__law_taken.m T.D__law_taken.k T.D__law_taken.b .nil pass0 (pa_cons (pv 0) (pa_cons pe_int pa_nil))) (fun _ _ => rfl)) pa_nil)))) pa_nil))) pa_nil)))
      (pss_one (ps_set (i := 2) sc__law_buyer.nd rfl (by first | exact Or.inl rfl | exact Or.inr rfl) (pe_op op_addU (pe_op op_addU (pv 2) pe_int) (pe_call G__law_taken (hr.mono (by decide)) (by rfl) T.D__law_taken.m T.D__law_taken.k T.D__law_taken.b .nil pass0 (pa_cons (pv 0) (pa_cons (pv 4) pa_nil))))))))
      (pss_one (ps_ret (pe_callTy call_tuple_of (by rfl) T.n_tuple (by decide +kernel) (pa_cons (pv 3) pa_nil)))))),
    (rs_seq (rs_par3 (rps_cons (rp_v (rd_call (rd_cons rd_var (rd_cons rd_int rd_nil)))) (rps_cons (rp_n (rl_lst rd_nil)) (rps_cons (rp_v (rd_op os_ix (rd_lst (rd_cons rd_int (rd_cons rd_int (rd_cons rd_int (rd_cons (rd_op os_pow rd_int rd_int) rd_nil))))) (rd_call (rd_cons rd_var (rd_cons rd_int rd_nil))))) rps_nil))))
      (rs_seq (rs_for (ri_r1 (rd_cons (rd_op os_add rd_int (rd_call (rd_cons rd_var (rd_cons rd_var rd_nil)))) rd_nil)) rg_name (rs_seq (rs_app (rd_tup (rd_cons rd_var (rd_cons (rd_op os_add rd_int (rd_call (rd_cons rd_var (rd_cons (rd_op os_ix (rd_lst (rd_cons rd_int (rd_cons rd_int (rd_cons rd_int (rd_cons (rd_op os_pow rd_int rd_int) rd_nil))))) (rd_call (rd_cons rd_var (rd_cons rd_int rd_nil)))) rd_nil)))) rd_nil))))
      (rs_set (rd_op os_add (rd_op os_add rd_var rd_int) (rd_call (rd_cons rd_var (rd_cons rd_var rd_nil)))))))
      (rs_ret (rd_b cs_tuple (rd_cons rd_var rd_nil)))))⟩
  exact key
theorem ok__law_parts (T : Tx B mg) : FnOk P w B.K mg base CX0 3 T.D__law_parts.f T.D__law_parts.d P__law_parts (spD B 3 f__law_parts) := by
  have G__law_buyer := ok__law_buyer (P := P) (w := w) (base := base) T
  have G__law_taken := ok__law_taken (P := P) (w := w) (base := base) T
  have key : FnOk P w B.K mg base CX0 3 T.D__law_parts.f T.D__law_parts.d P__law_parts (spD B P__law_parts.length (runD P__law_parts.length N__law_parts.length b__law_parts)) := fn_ok (B := B) (W := []) (k := 2) (body := b__law_parts) T.D__law_parts.F sc__law_parts (by rfl) fun cdv A outer s H E hr => ⟨_, (pss_cons (ps_set (i := 3) sc__law_parts.nd rfl (by first | exact Or.inl rfl | exact Or.inr rfl) (pe_callTy call_tuple_of (by rfl) T.n_tuple (by decide +kernel) (pa_cons (pe_lc (own := [("_law_number", 4)]) (by rfl) sc__law_parts.nd (pi_range1 (by rfl) T.n_range (pa_cons (pe_op op_addU pe_int (pe_call G__law_taken (hr.mono (by decide)) (by rfl) T.D__law_taken.m T.D__law_taken.k T.D__law_taken.b .nil pass0 (pa_cons (pv 0) (pa_cons (pv 1) pa_nil)))) pa_nil)) (blkOk_by (own := [("_law_number", 4)]) (N := N__law_parts) (sc := defScope s__law_parts) (by decide +kernel)) (fun _ _ _ _ _ => (pg_name (i := 4) sc__law_parts.nd rfl (by first | exact Or.inl rfl | exact Or.inr rfl))) (fun _ _ _ _ _ => pts_nil) (fun _ _ _ _ _ => (pe_call G__law_buyer (hr.mono (by decide)) (by rfl) T.D__law_buyer.m T.D__law_buyer.k T.D__law_buyer.b .nil pass0 (pa_cons (pv 0) (pa_cons (pv 2) pa_nil))))) pa_nil)))
      (pss_one (ps_ret (pe_disp (pps_cons pe_str (pv 3) (pps_cons pe_str (pe_op op_addU pe_int (pe_call G__law_taken (hr.mono (by decide)) (by rfl) T.D__law_taken.m T.D__law_taken.k T.D__law_taken.b .nil pass0 (pa_cons (pv 0) (pa_cons pe_int pa_nil)))) pps_nil)) (by rfl) (by rfl) (fun z => by cases z) (by decide))))),
    (rs_seq (rs_set (rd_b cs_tuple (rd_cons (rd_comp (ri_r1 (rd_cons (rd_op os_add rd_int (rd_call (rd_cons rd_var (rd_cons rd_var rd_nil)))) rd_nil)) rg_name rt_yes (rd_call (rd_cons rd_var (rd_cons rd_var rd_nil)))) rd_nil)))
      (rs_ret (rd_dic (rpr_cons rd_var (rpr_cons (rd_op os_add rd_int (rd_call (rd_cons rd_var (rd_cons rd_int rd_nil)))) rpr_nil)))))⟩
  exact key
theorem ok_is_from (T : Tx B mg) : FnOk P w B.K mg base CX0 1 T.D_is_from.f T.D_is_from.d P_is_from (spD B 3 f_is_from) := by
  have key : FnOk P w B.K mg base CX0 1 T.D_is_from.f T.D_is_from.d P_is_from (spD B P_is_from.length (runD P_is_from.length N_is_from.length b_is_from)) := fn_ok (B := B) (W := []) (k := 0) (body := b_is_from) T.D_is_from.F sc_is_from (by rfl) fun cdv A outer s H E hr => ⟨_, (pss_one (ps_ret (pe_and (pe_callB call_isi (by rfl) T.n_isinstance (by decide +kernel) (pa_cons (pv 0) (pa_cons (pe_bltn (v := .ty "int") (by rfl) T.n_int (by decide +kernel) rfl) pa_nil))) (pe_and (pe_not (pe_callB call_isi (by rfl) T.n_isinstance (by decide +kernel) (pa_cons (pv 0) (pa_cons (pe_bltn (v := .ty "bool") (by rfl) T.n_bool (by decide +kernel) rfl) pa_nil)))) (pe_one (pe_chain op_le op_le (pv 1) (pv 0) (pv 2))))))),
    (rs_ret (rd_andV (rd_isi rd_var) (rd_andV (rd_notV (rd_isi rd_var)) (rd_chain os_le os_le rd_var rd_var rd_var))))⟩
  exact key
theorem ok_is_pair (T : Tx B mg) : FnOk P w B.K mg base CX0 2 T.D_is_pair.f T.D_is_pair.d P_is_pair (spD B 1 f_is_pair) := by
  have G_is_from := ok_is_from (P := P) (w := w) (base := base) T
  have key : FnOk P w B.K mg base CX0 2 T.D_is_pair.f T.D_is_pair.d P_is_pair (spD B P_is_pair.length (runD P_is_pair.length N_is_pair.length b_is_pair)) := fn_ok (B := B) (W := []) (k := 1) (body := b_is_pair) T.D_is_pair.F sc_is_pair (by rfl) fun cdv A outer s H E hr => ⟨_, (pss_one (ps_ret (pe_and (pe_callB call_isi (by rfl) T.n_isinstance (by decide +kernel) (pa_cons (pv 0) (pa_cons (pe_bltn (v := .ty "tuple") (by rfl) T.n_tuple (by decide +kernel) rfl) pa_nil))) (pe_and (pe_cmpR (op_eqD hr.units) (pe_callB call_len (by rfl) T.n_len (by decide +kernel) (pa_cons (pv 0) pa_nil)) pe_int (nomark _)) (pe_and (pe_call G_is_from (hr.mono (by decide)) (by rfl) T.D_is_from.m T.D_is_from.k T.D_is_from.b .nil pass0 (pa_cons (pe_ix ix_seq (pv 0) pe_int (fun _ _ => rfl)) (pa_cons pe_int (pa_cons (pe_glob (v := .int 1000000000) (by rfl) T.m_MOST ⟨_, rfl⟩) pa_nil)))) (pe_one (pe_call G_is_from (hr.mono (by decide)) (by rfl) T.D_is_from.m T.D_is_from.k T.D_is_from.b .nil pass0 (pa_cons (pe_ix ix_seq (pv 0) pe_int (fun _ _ => rfl)) (pa_cons pe_int (pa_cons (pe_glob (v := .int 1000000000) (by rfl) T.m_MOST ⟨_, rfl⟩) pa_nil)))))))))),
    (rs_ret (rd_andV (rd_isi rd_var) (rd_andV (rd_op os_eq (rd_b cs_len (rd_cons rd_var rd_nil)) rd_int) (rd_andV (rd_call (rd_cons (rd_op os_ix rd_var rd_int) (rd_cons rd_int (rd_cons rd_int rd_nil)))) (rd_call (rd_cons (rd_op os_ix rd_var rd_int) (rd_cons rd_int (rd_cons rd_int rd_nil))))))))⟩
  exact key
theorem ok_is_buyer (T : Tx B mg) : FnOk P w B.K mg base CX0 3 T.D_is_buyer.f T.D_is_buyer.d P_is_buyer (spD B 1 f_is_buyer) := by
  have G_is_pair := ok_is_pair (P := P) (w := w) (base := base) T
  have key : FnOk P w B.K mg base CX0 3 T.D_is_buyer.f T.D_is_buyer.d P_is_buyer (spD B P_is_buyer.length (runD P_is_buyer.length N_is_buyer.length b_is_buyer)) := fn_ok (B := B) (W := []) (k := 2) (body := b_is_buyer) T.D_is_buyer.F sc_is_buyer (by rfl) fun cdv A outer s H E hr => ⟨_, (pss_cons (ps_if (PW.pt (pw_or (pt_not (pt_val (pe_callB call_isi (by rfl) T.n_isinstance (by decide +kernel) (pa_cons (pv 0) (pa_cons (pe_bltn (v := .ty "tuple") (by rfl) T.n_tuple (by decide +kernel) rfl) pa_nil))))) (pw_or (pt_not (pt_chain op_le op_le pe_int (pe_callB call_len (by rfl) T.n_len (by decide +kernel) (pa_cons (pv 0) pa_nil)) (pe_glob (v := .int 5) (by rfl) T.m_MOST_WORTHS ⟨_, rfl⟩))) (pw_or1 (pt_not (pt_val (pe_callB (cr_all rfl) (by rfl) T.n_all (by decide +kernel) (pa_cons (pe_lc (own := [("pair", 1)]) (by rfl) sc_is_buyer.nd (pi_seq (pv 0)) (blkOk_by (own := [("pair", 1)]) (N := N_is_buyer) (sc := defScope s_is_buyer) (by decide +kernel)) (fun _ _ _ _ _ => (pg_name (i := 1) sc_is_buyer.nd rfl (by first | exact Or.inl rfl | exact Or.inr rfl))) (fun _ _ _ _ _ => pts_nil) (fun _ _ _ _ _ => (pe_call G_is_pair (hr.mono (by decide)) (by rfl) T.D_is_pair.m T.D_is_pair.k T.D_is_pair.b .nil pass0 (pa_cons (pv 1) pa_nil)))) pa_nil)))))))) (pss_one (ps_ret pe_bl)) pss_nil)
      (pss_one (ps_ret (pe_callB (cr_all rfl) (by rfl) T.n_all (by decide +kernel) (pa_cons (pe_lc (own := [("at", 2)]) (by rfl) sc_is_buyer.nd (pi_range1 (by rfl) T.n_range (pa_cons (pe_op op_sub (pe_callB call_len (by rfl) T.n_len (by decide +kernel) (pa_cons (pv 0) pa_nil)) pe_int) pa_nil)) (blkOk_by (own := [("at", 2)]) (N := N_is_buyer) (sc := defScope s_is_buyer) (by decide +kernel)) (fun _ _ _ _ _ => (pg_name (i := 2) sc_is_buyer.nd rfl (by first | exact Or.inl rfl | exact Or.inr rfl))) (fun _ _ _ _ _ => pts_nil) (fun _ _ _ _ _ => (pe_cmpR op_lt (pe_ix ix_seq (pe_ix ix_seq (pv 0) (pv 2) (fun _ _ => rfl)) pe_int (fun _ _ => rfl)) (pe_ix ix_seq (pe_ix ix_seq (pv 0) (pe_op op_addU (pv 2) pe_int) (fun _ _ => rfl)) pe_int (fun _ _ => rfl)) (nomark _)))) pa_nil))))),
    (rs_seq (rs_if (rt_or (rt_not (rt_b (rd_isi rd_var))) (rt_or (rt_not (rt_b (rd_chain os_le os_le rd_int (rd_b cs_len (rd_cons rd_var rd_nil)) rd_int))) (rt_not (rt_b (rd_b cs_all (rd_cons (rd_comp (ri_seq rd_var) rg_name rt_yes (rd_call (rd_cons rd_var rd_nil))) rd_nil)))))) (rs_ret rd_bl) rs_next)
      (rs_ret (rd_b cs_all (rd_cons (rd_comp (ri_r1 (rd_cons (rd_op os_dif (rd_b cs_len (rd_cons rd_var rd_nil)) rd_int) rd_nil)) rg_name rt_yes (rd_op os_lt (rd_op os_ix (rd_op os_ix rd_var rd_var) rd_int) (rd_op os_ix (rd_op os_ix rd_var (rd_op os_add rd_var rd_int)) rd_int))) rd_nil))))⟩
  exact key
theorem ok_Sale (T : Tx B mg) : FnOk P w B.K mg base CX0 4 T.f_Sale T.d_Sale P_Sale (spInit B (saleX 5 b_Sale)) := by
  have G_is_buyer := ok_is_buyer (P := P) (w := w) (base := base) T
  have G_is_from := ok_is_from (P := P) (w := w) (base := base) T
  exact init_ok (B := B) (W := []) (k := 3) T.F_Sale sc_Sale (by decide) rfl T.sale rfl (fun cdv A outer s H E hr => ⟨_, _, _, pss_cons (ps_if (PW.pt (pw_or (pt_not (pt_val (pe_callB call_isi (by rfl) T.n_isinstance (by decide +kernel) (pa_cons (pv 1) (pa_cons (pe_bltn (v := .ty "tuple") (by rfl) T.n_tuple (by decide +kernel) rfl) pa_nil))))) (pw_or1 (pt_not (pt_chain op_le op_le pe_int (pe_callB call_len (by rfl) T.n_len (by decide +kernel) (pa_cons (pv 1) pa_nil)) (pe_glob (v := .int 4) (by rfl) T.m_MOST_BUYERS ⟨_, rfl⟩)))))) pss_never pss_nil) (pss_cons (ps_for PassesOwn.never rfl (pi_enumU (by rfl) T.n_enumerate (pv 1)) (pg_tl rfl (pgs_cons (pg_name (i := 3) sc_Sale.nd rfl (by first | exact Or.inl rfl | exact Or.inr rfl)) (pgs_cons (pg_name (i := 4) sc_Sale.nd rfl (by first | exact Or.inl rfl | exact Or.inr rfl)) pgs_nil))) (pss_one (ps_if (pt_not (pt_val (pe_call G_is_buyer (hr.mono (by decide)) (by rfl) T.D_is_buyer.m T.D_is_buyer.k T.D_is_buyer.b .nil pass0 (pa_cons (pv 4) pa_nil)))) pss_never pss_nil))) (pss_cons (ps_if (pt_not (pt_val (pe_call G_is_from (hr.mono (by decide)) (by rfl) T.D_is_from.m T.D_is_from.k T.D_is_from.b .nil pass0 (pa_cons (pv 2) (pa_cons pe_int (pa_cons (pe_glob (v := .int 3) (by rfl) T.m_MOST_THINGS ⟨_, rfl⟩) pa_nil)))))) pss_never pss_nil) (pss_cons (ps_fld (pv 0) (pv 1) rfl) (pss_one (ps_fld (pv 0) (pv 2) rfl))))),
    (rs_if (rt_or (rt_not (rt_b (rd_isi rd_var))) (rt_not (rt_b (rd_chain os_le os_le rd_int (rd_b cs_len (rd_cons rd_var rd_nil)) rd_int)))) rs_stuck rs_next),
    (rs_for (ri_enum rd_var) (rg_tup (rg_cons rg_name (rg_cons rg_name rg_nil))) (rs_if (rt_not (rt_b (rd_call (rd_cons rd_var rd_nil)))) rs_stuck rs_next)),
    (rs_if (rt_not (rt_b (rd_call (rd_cons rd_var (rd_cons rd_int (rd_cons rd_int rd_nil)))))) rs_stuck rs_next)⟩)
theorem ok__law_sale (T : Tx B mg) : FnOk P w B.K mg base CX0 6 T.D__law_sale.f T.D__law_sale.d P__law_sale (spD B 1 f__law_sale) := by
  have G_Sale := ok_Sale (P := P) (w := w) (base := base) T
  have key : FnOk P w B.K mg base CX0 6 T.D__law_sale.f T.D__law_sale.d P__law_sale (spD B P__law_sale.length (runD P__law_sale.length N__law_sale.length b__law_sale)) := fn_ok (B := B) (W := []) (k := 5) (body := b__law_sale) T.D__law_sale.F sc__law_sale (by rfl) fun cdv A outer s H E hr => ⟨_, (pss_one (ps_ret (pe_make T.mk_Sale G_Sale (hr.mono (by decide)) (by rfl) T.m_Sale T.b_Sale .nil pass0 (pa_cons (pe_dget (hu_of hr) (pv 0) pe_str (fun _ _ => rfl)) (pa_cons (pe_dget (hu_of hr) (pv 0) pe_str (fun _ _ => rfl)) pa_nil))))),
    (rs_ret (rd_make hx_Sale (rd_cons (rd_key rd_var) (rd_cons (rd_key rd_var) rd_nil))))⟩
  exact key
theorem ok_need_sale (T : Tx B mg) : FnOk P w B.K mg base CX0 1 T.D_need_sale.f T.D_need_sale.d P_need_sale (spD B 1 f_need_sale) := by
  have key : FnOk P w B.K mg base CX0 1 T.D_need_sale.f T.D_need_sale.d P_need_sale (spD B P_need_sale.length (runD P_need_sale.length N_need_sale.length b_need_sale)) := fn_ok (B := B) (W := []) (k := 0) (body := b_need_sale) T.D_need_sale.F sc_need_sale (by rfl) fun cdv A outer s H E hr => ⟨_, (pss_one (ps_if (pt_not (pt_val (pe_callB call_isi (by rfl) T.n_isinstance (by decide +kernel) (pa_cons (pv 0) (pa_cons (pe_glob (v := .ref B.cs) (by rfl) T.m_Sale rfl) pa_nil))))) pss_never pss_nil)),
    (rs_if (rt_not (rt_b (rd_isS T.sale rd_var))) rs_stuck rs_next)⟩
  exact key
theorem ok_common (T : Tx B mg) : FnOk P w B.K mg base CX0 1 T.D_common.f T.D_common.d P_common (spD B 2 f_common) := by
  have key : FnOk P w B.K mg base CX0 1 T.D_common.f T.D_common.d P_common (spD B P_common.length (runD P_common.length N_common.length b_common)) := fn_ok (B := B) (W := []) (k := 0) (body := b_common) T.D_common.F sc_common (by rfl) fun cdv A outer s H E hr => ⟨_, (pss_cons (ps_par (i := 2) (j := 3) (by rfl) sc_common.nd rfl rfl (by decide) rfl rfl (pa_cons (pe_callB call_abs (by rfl) T.n_abs (by decide +kernel) (pa_cons (pv 0) pa_nil)) (pa_cons (pe_callB call_abs (by rfl) T.n_abs (by decide +kernel) (pa_cons (pv 1) pa_nil)) pa_nil)) (by rfl))
      (pss_cons (ps_while PassesOwn.never (pt_cmpR op_gt (pv 3) pe_int (nomark _)) (pss_one (ps_par (i := 2) (j := 3) (by rfl) sc_common.nd rfl rfl (by decide) rfl rfl (pa_cons (pv 3) (pa_cons (pe_op op_mod (pv 2) (pv 3)) pa_nil)) (by rfl))))
      (pss_one (ps_ret (pv 2))))),
    (rs_seq (rs_par (rps_cons (rp_v (rd_b cs_abs (rd_cons rd_var rd_nil))) (rps_cons (rp_v (rd_b cs_abs (rd_cons rd_var rd_nil))) rps_nil)))
      (rs_seq (rs_while (rt_b (rd_op os_gt rd_var rd_int)) (rs_par (rps_cons (rp_v rd_var) (rps_cons (rp_v (rd_op os_mod rd_var rd_var)) rps_nil))))
      (rs_ret rd_var)))⟩
  exact key
theorem ok_scaled (T : Tx B mg) : FnOk P w B.K mg base CX0 2 T.D_scaled.f T.D_scaled.d P_scaled (spD B 1 f_scaled) := by
  have G_common := ok_common (P := P) (w := w) (base := base) T
  have key : FnOk P w B.K mg base CX0 2 T.D_scaled.f T.D_scaled.d P_scaled (spD B P_scaled.length (runD P_scaled.length N_scaled.length b_scaled)) := fn_ok (B := B) (W := []) (k := 1) (body := b_scaled) T.D_scaled.F sc_scaled (by rfl) fun cdv A outer s H E hr => ⟨_, (pss_cons (ps_set (i := 1) sc_scaled.nd rfl (by first | exact Or.inl rfl | exact Or.inr rfl) pe_int)
      (pss_cons (ps_for PassesOwn.never rfl (pi_seq (pv 0)) (pg_name (i := 2) sc_scaled.nd rfl (by first | exact Or.inl rfl | exact Or.inr rfl)) (pss_one (ps_for PassesOwn.never rfl (pi_seq (pv 2)) (pg_tl rfl (pgs_cons (pg_name (i := 3) sc_scaled.nd rfl (by first | exact Or.inl rfl | exact Or.inr rfl)) (pgs_cons (pg_name (i := 4) sc_scaled.nd rfl (by first | exact Or.inl rfl | exact Or.inr rfl)) pgs_nil))) (pss_one (ps_set (i := 1) sc_scaled.nd rfl (by first | exact Or.inl rfl | exact Or.inr rfl) (pe_op op_fdivW (pe_op op_mulU (pv 1) (pv 4)) (pe_call G_common (hr.mono (by decide)) (by rfl) T.D_common.m T.D_common.k T.D_common.b .nil pass0 (pa_cons (pv 1) (pa_cons (pv 4) pa_nil)))))))))
      (pss_one (ps_ret (pe_tup (pa_cons (pe_lc (own := [("row", 2)]) (by rfl) sc_scaled.nd (pi_seq (pv 0)) (blkOk_by (own := [("row", 2)]) (N := N_scaled) (sc := defScope s_scaled) (by decide +kernel)) (fun _ _ _ _ _ => (pg_name (i := 2) sc_scaled.nd rfl (by first | exact Or.inl rfl | exact Or.inr rfl))) (fun _ _ _ _ _ => pts_nil) (fun _ _ _ _ _ => (pe_lc (own := [("over", 3), ("by", 4)]) (by rfl) sc_scaled.nd (pi_seq (pv 2)) (blkOk_by (own := [("over", 3), ("by", 4)]) (N := N_scaled) (by rfl)) (fun _ _ _ _ _ => (pg_tl rfl (pgs_cons (pg_name (i := 3) sc_scaled.nd rfl (by first | exact Or.inl rfl | exact Or.inr rfl)) (pgs_cons (pg_name (i := 4) sc_scaled.nd rfl (by first | exact Or.inl rfl | exact Or.inr rfl)) pgs_nil)))) (fun _ _ _ _ _ => pts_nil) (fun _ _ _ _ _ => (pe_op op_mulU (pv 3) (pe_op op_fdivW (pv 1) (pv 4))))))) (pa_cons (pv 1) pa_nil))))))),
    (rs_seq (rs_set rd_int)
      (rs_seq (rs_for (ri_seq rd_var) rg_name (rs_for (ri_seq rd_var) (rg_tup (rg_cons rg_name (rg_cons rg_name rg_nil))) (rs_set (rd_op os_fdiv (rd_op os_mul rd_var rd_var) (rd_call (rd_cons rd_var (rd_cons rd_var rd_nil)))))))
      (rs_ret (rd_tup (rd_cons (rd_comp (ri_seq rd_var) rg_name rt_yes (rd_comp (ri_seq rd_var) (rg_tup (rg_cons rg_name (rg_cons rg_name rg_nil))) rt_yes (rd_op os_mul rd_var (rd_op os_fdiv rd_var rd_var)))) (rd_cons rd_var rd_nil))))))⟩
  exact key
theorem ok_stair (T : Tx B mg) : FnOk P w B.K mg base CX0 1 T.D_stair.f T.D_stair.d P_stair (spD B 1 f_stair) := by
  have key : FnOk P w B.K mg base CX0 1 T.D_stair.f T.D_stair.d P_stair (spD B P_stair.length (runD P_stair.length N_stair.length b_stair)) := fn_ok (B := B) (W := [1]) (k := 0) (body := b_stair) T.D_stair.F sc_stair (by rfl) fun cdv A outer s H E hr => ⟨_, (pss_cons (ps_par (i := 1) (j := 2) (by rfl) sc_stair.nd rfl rfl (by decide) rfl rfl (pa_cons (pe_lst (pa_cons (pe_tup (pa_cons pe_int (pa_cons pe_int pa_nil))) pa_nil)) (pa_cons pe_int pa_nil)) (by rfl))
      (pss_cons (ps_for PassesOwn.never rfl (RT.pi_revA (by rfl) T.n_reversed (pv 0)) (pg_tl rfl (pgs_cons (pg_name (i := 3) sc_stair.nd rfl (by first | exact Or.inl rfl | exact Or.inr rfl)) (pgs_cons (pg_name (i := 4) sc_stair.nd rfl (by first | exact Or.inl rfl | exact Or.inr rfl)) pgs_nil))) (pss_cons (ps_aug (i := 2) sc_stair.nd rfl (by first | exact Or.inl rfl | exact Or.inr rfl) (pv 4) ip_add)
      (pss_one (ps_expr (pe_bm PySem.F.plainAttrs_list PySem.F.slot_list_append PySem.F.type_list_append mt_append (pv 1) (pa_cons (pe_tup (pa_cons (pv 2) (pa_cons (pe_op op_mulU (pv 3) (pv 2)) pa_nil))) pa_nil))))))
      (pss_one (ps_ret (pv 1))))),
    (rs_seq (rs_par (rps_cons (rp_n (rl_lst (rd_cons (rd_tup (rd_cons rd_int (rd_cons rd_int rd_nil))) rd_nil))) (rps_cons (rp_v rd_int) rps_nil)))
      (rs_seq (rs_for (ri_rev rd_var) (rg_tup (rg_cons rg_name (rg_cons rg_name rg_nil))) (rs_seq (rs_aug rd_var)
      (rs_app (rd_tup (rd_cons rd_var (rd_cons (rd_op os_mul rd_var rd_var) rd_nil))))))
      (rs_ret rd_var)))⟩
  exact key
theorem ok_is_less (T : Tx B mg) : FnOk P w B.K mg base CX0 1 T.D_is_less.f T.D_is_less.d P_is_less (spD B 2 f_is_less) := by
  have key : FnOk P w B.K mg base CX0 1 T.D_is_less.f T.D_is_less.d P_is_less (spD B P_is_less.length (runD P_is_less.length N_is_less.length b_is_less)) := fn_ok (B := B) (W := []) (k := 0) (body := b_is_less) T.D_is_less.F sc_is_less (by rfl) fun cdv A outer s H E hr => ⟨_, (pss_one (ps_ret (pe_cmpR op_lt (pe_op op_mulU (pe_ix ix_seq (pv 0) pe_int (fun _ _ => rfl)) (pe_ix ix_seq (pv 1) pe_int (fun _ _ => rfl))) (pe_op op_mulU (pe_ix ix_seq (pv 1) pe_int (fun _ _ => rfl)) (pe_ix ix_seq (pv 0) pe_int (fun _ _ => rfl))) (nomark _)))),
    (rs_ret (rd_op os_lt (rd_op os_mul (rd_op os_ix rd_var rd_int) (rd_op os_ix rd_var rd_int)) (rd_op os_mul (rd_op os_ix rd_var rd_int) (rd_op os_ix rd_var rd_int))))⟩
  exact key
theorem ok_made (T : Tx B mg) : FnOk P w B.K mg base CX0 2 T.D_made.f T.D_made.d P_made (spD B 2 f_made) := by
  have G_common := ok_common (P := P) (w := w) (base := base) T
  have key : FnOk P w B.K mg base CX0 2 T.D_made.f T.D_made.d P_made (spD B P_made.length (runD P_made.length N_made.length b_made)) := fn_ok (B := B) (W := []) (k := 1) (body := b_made) T.D_made.F sc_made (by rfl) fun cdv A outer s H E hr => ⟨_, (pss_cons (ps_set (i := 2) sc_made.nd rfl (by first | exact Or.inl rfl | exact Or.inr rfl) (pe_call G_common (hr.mono (by decide)) (by rfl) T.D_common.m T.D_common.k T.D_common.b .nil pass0 (pa_cons (pv 0) (pa_cons (pv 1) pa_nil))))
      (pss_one (ps_ret (pe_tup (pa_cons (pe_op op_fdivW (pv 0) (pv 2)) (pa_cons (pe_op op_fdivW (pv 1) (pv 2)) pa_nil)))))),
    (rs_seq (rs_set (rd_call (rd_cons rd_var (rd_cons rd_var rd_nil))))
      (rs_ret (rd_tup (rd_cons (rd_op os_fdiv rd_var rd_var) (rd_cons (rd_op os_fdiv rd_var rd_var) rd_nil)))))⟩
  exact key
theorem ok_slope (T : Tx B mg) : FnOk P w B.K mg base CX0 3 T.D_slope.f T.D_slope.d P_slope (spD B 2 f_slope) := by
  have G_made := ok_made (P := P) (w := w) (base := base) T
  have key : FnOk P w B.K mg base CX0 3 T.D_slope.f T.D_slope.d P_slope (spD B P_slope.length (runD P_slope.length N_slope.length b_slope)) := fn_ok (B := B) (W := []) (k := 2) (body := b_slope) T.D_slope.F sc_slope (by rfl) fun cdv A outer s H E hr => ⟨_, (pss_one (ps_ret (pe_call G_made (hr.mono (by decide)) (by rfl) T.D_made.m T.D_made.k T.D_made.b .nil pass0 (pa_cons (pe_op op_sub (pe_ix ix_seq (pv 1) pe_int (fun _ _ => rfl)) (pe_ix ix_seq (pv 0) pe_int (fun _ _ => rfl))) (pa_cons (pe_op op_sub (pe_ix ix_seq (pv 1) pe_int (fun _ _ => rfl)) (pe_ix ix_seq (pv 0) pe_int (fun _ _ => rfl))) pa_nil))))),
    (rs_ret (rd_call (rd_cons (rd_op os_dif (rd_op os_ix rd_var rd_int) (rd_op os_ix rd_var rd_int)) (rd_cons (rd_op os_dif (rd_op os_ix rd_var rd_int) (rd_op os_ix rd_var rd_int)) rd_nil))))⟩
  exact key
theorem ok_is_bend (T : Tx B mg) : FnOk P w B.K mg base CX0 4 T.D_is_bend.f T.D_is_bend.d P_is_bend (spD B 3 f_is_bend) := by
  have G_is_less := ok_is_less (P := P) (w := w) (base := base) T
  have G_slope := ok_slope (P := P) (w := w) (base := base) T
  have key : FnOk P w B.K mg base CX0 4 T.D_is_bend.f T.D_is_bend.d P_is_bend (spD B P_is_bend.length (runD P_is_bend.length N_is_bend.length b_is_bend)) := fn_ok (B := B) (W := []) (k := 3) (body := b_is_bend) T.D_is_bend.F sc_is_bend (by rfl) fun cdv A outer s H E hr => ⟨_, (pss_one (ps_ret (pe_call G_is_less (hr.mono (by decide)) (by rfl) T.D_is_less.m T.D_is_less.k T.D_is_less.b .nil pass0 (pa_cons (pe_call G_slope (hr.mono (by decide)) (by rfl) T.D_slope.m T.D_slope.k T.D_slope.b .nil pass0 (pa_cons (pv 1) (pa_cons (pv 2) pa_nil))) (pa_cons (pe_call G_slope (hr.mono (by decide)) (by rfl) T.D_slope.m T.D_slope.k T.D_slope.b .nil pass0 (pa_cons (pv 0) (pa_cons (pv 1) pa_nil))) pa_nil))))),
    (rs_ret (rd_call (rd_cons (rd_call (rd_cons rd_var (rd_cons rd_var rd_nil))) (rd_cons (rd_call (rd_cons rd_var (rd_cons rd_var rd_nil))) rd_nil))))⟩
  exact key
theorem ok_hull (T : Tx B mg) : FnOk P w B.K mg base CX0 5 T.D_hull.f T.D_hull.d P_hull (spD B 1 f_hull) := by
  have G_is_bend := ok_is_bend (P := P) (w := w) (base := base) T
  have key : FnOk P w B.K mg base CX0 5 T.D_hull.f T.D_hull.d P_hull (spD B P_hull.length (runD P_hull.length N_hull.length b_hull)) := fn_ok (B := B) (W := [1]) (k := 4) (body := b_hull) T.D_hull.F sc_hull (by rfl) fun cdv A outer s H E hr => ⟨_, (pss_cons (ps_set (i := 1) sc_hull.nd rfl (by first | exact Or.inl rfl | exact Or.inr rfl) (pe_lst pa_nil))
      (pss_cons (ps_for PassesOwn.never rfl (pi_enumU (by rfl) T.n_enumerate (pv 0)) (pg_tl rfl (pgs_cons (pg_name (i := 2) sc_hull.nd rfl (by first | exact Or.inl rfl | exact Or.inr rfl)) (pgs_cons (pg_name (i := 3) sc_hull.nd rfl (by first | exact Or.inl rfl | exact Or.inr rfl)) pgs_nil))) (pss_cons (ps_while PassesOwn.never (PW.pt (pw_and (pt_cmpR op_gt (pe_callB call_len (by rfl) T.n_len (by decide +kernel) (pa_cons (pv 1) pa_nil)) pe_int (nomark _)) (pw_and1 (pt_not (pt_val (pe_call G_is_bend (hr.mono (by decide)) (by rfl) T.D_is_bend.m T.D_is_bend.k T.D_is_bend.b .nil pass0 (pa_cons (pe_ix ix_seq (pv 0) (pe_ix ix_seq (pv 1) (pe_un un_neg pe_int) (fun _ _ => rfl)) (fun _ _ => rfl)) (pa_cons (pe_ix ix_seq (pv 0) (pe_ix ix_seq (pv 1) (pe_un un_neg pe_int) (fun _ _ => rfl)) (fun _ _ => rfl)) (pa_cons (pv 3) pa_nil))))))))) (pss_one (ps_expr (pe_bm0 PySem.F.plainAttrs_list PySem.F.slot_list_pop PySem.F.type_list_pop mt_pop (pv 1)))))
      (pss_one (ps_expr (pe_bm PySem.F.plainAttrs_list PySem.F.slot_list_append PySem.F.type_list_append mt_append (pv 1) (pa_cons (pv 2) pa_nil))))))
      (pss_one (ps_ret (pv 1))))),
    (rs_seq (rs_own (rl_lst rd_nil))
      (rs_seq (rs_for (ri_enum rd_var) (rg_tup (rg_cons rg_name (rg_cons rg_name rg_nil))) (rs_seq (rs_while (rt_and (rt_peek (i := 1) (W' := []) (by rfl) (rt_b (rd_op os_gt (rd_b cs_len (rd_cons rd_var rd_nil)) rd_int))) (rt_not (rt_b (rd_call (rd_cons (rd_op os_ix rd_var (rd_peek (i := 1) (W' := []) (by rfl) (rd_op os_ix rd_var (rd_un us_neg rd_int)))) (rd_cons (rd_op os_ix rd_var (rd_peek (i := 1) (W' := []) (by rfl) (rd_op os_ix rd_var (rd_un us_neg rd_int)))) (rd_cons rd_var rd_nil))))))) rs_pop)
      (rs_app rd_var)))
      (rs_ret rd_var)))⟩
  exact key
theorem ok_levels_of (T : Tx B mg) : FnOk P w B.K mg base CX0 6 T.D_levels_of.f T.D_levels_of.d P_levels_of (spD B 1 f_levels_of) := by
  have G_stair := ok_stair (P := P) (w := w) (base := base) T
  have G_hull := ok_hull (P := P) (w := w) (base := base) T
  have G_slope := ok_slope (P := P) (w := w) (base := base) T
  have key : FnOk P w B.K mg base CX0 6 T.D_levels_of.f T.D_levels_of.d P_levels_of (spD B P_levels_of.length (runD P_levels_of.length N_levels_of.length b_levels_of)) := fn_ok (B := B) (W := [3]) (k := 5) (body := b_levels_of) T.D_levels_of.F sc_levels_of (by rfl) fun cdv A outer s H E hr => ⟨_, (pss_cons (ps_set (i := 1) sc_levels_of.nd rfl (by first | exact Or.inl rfl | exact Or.inr rfl) (pe_call G_stair (hr.mono (by decide)) (by rfl) T.D_stair.m T.D_stair.k T.D_stair.b .nil pass0 (pa_cons (pv 0) pa_nil)))
      (pss_cons (ps_par (i := 2) (j := 3) (by rfl) sc_levels_of.nd rfl rfl (by decide) rfl rfl (pa_cons (pe_call G_hull (hr.mono (by decide)) (by rfl) T.D_hull.m T.D_hull.k T.D_hull.b .nil pass0 (pa_cons (pv 1) pa_nil)) (pa_cons (pe_lst pa_nil) pa_nil)) (by rfl))
      (pss_cons (ps_for PassesOwn.never rfl (pi_range1 (by rfl) T.n_range (pa_cons (pe_op op_sub (pe_callB call_len (by rfl) T.n_len (by decide +kernel) (pa_cons (pv 2) pa_nil)) pe_int) pa_nil)) (pg_name (i := 4) sc_levels_of.nd rfl (by first | exact Or.inl rfl | exact Or.inr rfl)) (pss_cons (ps_par (i := 5) (j := 6) (by rfl) sc_levels_of.nd rfl rfl (by decide) rfl rfl (pa_cons (pe_ix ix_seq (pv 2) (pv 4) (fun _ _ => rfl)) (pa_cons (pe_ix ix_seq (pv 2) (pe_op op_addU (pv 4) pe_int) (fun _ _ => rfl)) pa_nil)) (by rfl))
      (pss_one (ps_expr (pe_bm PySem.F.plainAttrs_list PySem.F.slot_list_extend PySem.F.type_list_extend mt_extend (pv 3) (pa_cons (pe_op op_mulU (pe_lst (pa_cons (pe_call G_slope (hr.mono (by decide)) (by rfl) T.D_slope.m T.D_slope.k T.D_slope.b .nil pass0 (pa_cons (pe_ix ix_seq (pv 1) (pv 5) (fun _ _ => rfl)) (pa_cons (pe_ix ix_seq (pv 1) (pv 6) (fun _ _ => rfl)) pa_nil))) pa_nil)) (pe_op op_sub (pv 6) (pv 5))) pa_nil))))))
      (pss_one (ps_ret (pe_revU (pv 3))))))),
    (rs_seq (rs_set (rd_call (rd_cons rd_var rd_nil)))
      (rs_seq (rs_par (rps_cons (rp_v (rd_call (rd_cons rd_var rd_nil))) (rps_cons (rp_n (rl_lst rd_nil)) rps_nil)))
      (rs_seq (rs_for (ri_r1 (rd_cons (rd_op os_dif (rd_b cs_len (rd_cons rd_var rd_nil)) rd_int) rd_nil)) rg_name (rs_seq (rs_par (rps_cons (rp_v (rd_op os_ix rd_var rd_var)) (rps_cons (rp_v (rd_op os_ix rd_var (rd_op os_add rd_var rd_int))) rps_nil)))
      (rs_ext (rd_op os_mul (rd_lst (rd_cons (rd_call (rd_cons (rd_op os_ix rd_var rd_var) (rd_cons (rd_op os_ix rd_var rd_var) rd_nil))) rd_nil)) (rd_op os_dif rd_var rd_var)))))
      (rs_ret (rd_rev rd_var)))))⟩
  exact key
theorem ok_level_rows (T : Tx B mg) : FnOk P w B.K mg base CX0 7 T.D_level_rows.f T.D_level_rows.d P_level_rows (spD B 1 f_level_rows) := by
  have G_levels_of := ok_levels_of (P := P) (w := w) (base := base) T
  have key : FnOk P w B.K mg base CX0 7 T.D_level_rows.f T.D_level_rows.d P_level_rows (spD B P_level_rows.length (runD P_level_rows.length N_level_rows.length b_level_rows)) := fn_ok (B := B) (W := []) (k := 6) (body := b_level_rows) T.D_level_rows.F sc_level_rows (by rfl) fun cdv A outer s H E hr => ⟨_, (pss_one (ps_ret (pe_lc (own := [("buyer", 1)]) (by rfl) sc_level_rows.nd (pi_seq (pe_fld (pv 0) (by rfl))) (blkOk_by (own := [("buyer", 1)]) (N := N_level_rows) (sc := defScope s_level_rows) (by decide +kernel)) (fun _ _ _ _ _ => (pg_name (i := 1) sc_level_rows.nd rfl (by first | exact Or.inl rfl | exact Or.inr rfl))) (fun _ _ _ _ _ => pts_nil) (fun _ _ _ _ _ => (pe_call G_levels_of (hr.mono (by decide)) (by rfl) T.D_levels_of.m T.D_levels_of.k T.D_levels_of.b .nil pass0 (pa_cons (pv 1) pa_nil)))))),
    (rs_ret (rd_comp (ri_seq (rd_crowd T.sale rd_var)) rg_name rt_yes (rd_call (rd_cons rd_var rd_nil))))⟩
  exact key
theorem ok_all_places (T : Tx B mg) : FnOk P w B.K mg base CX0 1 T.D_all_places.f T.D_all_places.d P_all_places (spD B 1 f_all_places) := by
  have key : FnOk P w B.K mg base CX0 1 T.D_all_places.f T.D_all_places.d P_all_places (spD B P_all_places.length (runD P_all_places.length N_all_places.length b_all_places)) := fn_ok (B := B) (W := []) (k := 0) (body := b_all_places) T.D_all_places.F sc_all_places (by rfl) fun cdv A outer s H E hr => ⟨_, (pss_cons (ps_set (i := 1) sc_all_places.nd rfl (by first | exact Or.inl rfl | exact Or.inr rfl) (pe_lst (pa_cons (pe_tup pa_nil) pa_nil)))
      (pss_cons (ps_for PassesOwn.never rfl (pi_seq (pe_fld (pv 0) (by rfl))) (pg_name (i := 2) sc_all_places.nd rfl (by first | exact Or.inl rfl | exact Or.inr rfl)) (pss_one (ps_setLc2 (i := 1) (own := [("some", 3), ("at", 4)]) (vs1 := [4]) (by rfl) sc_all_places.nd rfl rfl (sw_true rfl rfl rfl (by decide +kernel)) (pi_seq (pv 1)) (blkOk_by (own := [("some", 3), ("at", 4)]) (N := N_all_places) (sc := defScope s_all_places) (by decide +kernel)) (by decide) (fun _ _ _ _ _ => (pg_name (i := 3) sc_all_places.nd rfl (by first | exact Or.inl rfl | exact Or.inr rfl))) (fun _ _ _ _ _ => pts_nil) (fun _ _ _ _ _ => (pi_range1 (by rfl) T.n_range (pa_cons (pe_callB call_len (by rfl) T.n_len (by decide +kernel) (pa_cons (pv 2) pa_nil)) pa_nil))) (fun _ _ _ _ _ => (pg_name (i := 4) sc_all_places.nd rfl (by first | exact Or.inl rfl | exact Or.inr rfl))) (fun _ _ _ _ _ => pts_nil) (fun _ _ _ _ _ => (pe_op op_addU (pv 3) (pe_tup (pa_cons (pv 4) pa_nil)))))))
      (pss_one (ps_ret (pv 1))))),
    (rs_seq (rs_set (rd_lst (rd_cons (rd_tup rd_nil) rd_nil)))
      (rs_seq (rs_for (ri_seq (rd_crowd T.sale rd_var)) rg_name (rs_set (rd_comp2 (ri_seq rd_var) rg_name rt_yes (ri_r1 (rd_cons (rd_b cs_len (rd_cons rd_var rd_nil)) rd_nil)) rg_name rt_yes (rd_op os_add rd_var (rd_tup (rd_cons rd_var rd_nil))))))
      (rs_ret rd_var)))⟩
  exact key
theorem ok_chosen (T : Tx B mg) : FnOk P w B.K mg base CX0 1 T.D_chosen.f T.D_chosen.d P_chosen (spD B 3 f_chosen) := by
  have key : FnOk P w B.K mg base CX0 1 T.D_chosen.f T.D_chosen.d P_chosen (spD B P_chosen.length (runD P_chosen.length N_chosen.length b_chosen)) := fn_ok (B := B) (W := []) (k := 0) (body := b_chosen) T.D_chosen.F sc_chosen (by rfl) fun cdv A outer s H E hr => ⟨_, (pss_cons (ps_set (i := 3) sc_chosen.nd rfl (by first | exact Or.inl rfl | exact Or.inr rfl) (pe_callB cr_sortedV (by rfl) T.n_sorted (by decide +kernel) (pa_cons (pe_lc (own := [("number", 4), ("at", 5)]) (by rfl) sc_chosen.nd (pi_enumU (by rfl) T.n_enumerate (pv 2)) (blkOk_by (own := [("number", 4), ("at", 5)]) (N := N_chosen) (sc := defScope s_chosen) (by decide +kernel)) (fun _ _ _ _ _ => (pg_tl rfl (pgs_cons (pg_name (i := 4) sc_chosen.nd rfl (by first | exact Or.inl rfl | exact Or.inr rfl)) (pgs_cons (pg_name (i := 5) sc_chosen.nd rfl (by first | exact Or.inl rfl | exact Or.inr rfl)) pgs_nil)))) (fun _ _ _ _ _ => (pts_one (pt_cmpR op_gt (pe_ix ix_seq (pe_ix ix_seq (pv 0) (pv 4) (fun _ _ => rfl)) (pv 5) (fun _ _ => rfl)) pe_int (nomark _)))) (fun _ _ _ _ _ => (pe_tup (pa_cons (pe_un un_neg (pe_ix ix_seq (pe_ix ix_seq (pv 0) (pv 4) (fun _ _ => rfl)) (pv 5) (fun _ _ => rfl))) (pa_cons (pv 4) pa_nil))))) pa_nil)))
      (pss_one (ps_ret (pe_lc (own := [("less", 6), ("number", 4)]) (by rfl) sc_chosen.nd (pi_seq (pe_slice sl_U (pv 3) po_none (po_some (pv 1)))) (blkOk_by (own := [("less", 6), ("number", 4)]) (N := N_chosen) (sc := defScope s_chosen) (by decide +kernel)) (fun _ _ _ _ _ => (pg_tl rfl (pgs_cons (pg_name (i := 6) sc_chosen.nd rfl (by first | exact Or.inl rfl | exact Or.inr rfl)) (pgs_cons (pg_name (i := 4) sc_chosen.nd rfl (by first | exact Or.inl rfl | exact Or.inr rfl)) pgs_nil)))) (fun _ _ _ _ _ => pts_nil) (fun _ _ _ _ _ => (pv 4)))))),
    (rs_seq (rs_set (rd_b cs_sortedV (rd_cons (rd_comp (ri_enum rd_var) (rg_tup (rg_cons rg_name (rg_cons rg_name rg_nil))) (rt_b (rd_op os_gt (rd_op os_ix (rd_op os_ix rd_var rd_var) rd_var) rd_int)) (rd_tup (rd_cons (rd_un us_neg (rd_op os_ix (rd_op os_ix rd_var rd_var) rd_var)) (rd_cons rd_var rd_nil)))) rd_nil)))
      (rs_ret (rd_comp (ri_seq (rd_sl rd_var ro_no (ro_part rd_var))) (rg_tup (rg_cons rg_name (rg_cons rg_name rg_nil))) rt_yes rd_var)))⟩
  exact key
theorem ok_price_at (T : Tx B mg) : FnOk P w B.K mg base CX0 2 T.D_price_at.f T.D_price_at.d P_price_at (spD B 4 f_price_at) := by
  have G_chosen := ok_chosen (P := P) (w := w) (base := base) T
  have key : FnOk P w B.K mg base CX0 2 T.D_price_at.f T.D_price_at.d P_price_at (spD B P_price_at.length (runD P_price_at.length N_price_at.length b_price_at)) := fn_ok (B := B) (W := []) (k := 1) (body := b_price_at) T.D_price_at.F sc_price_at (by rfl) fun cdv A outer s H E hr => ⟨_, (pss_cons (ps_for PassesOwn.never rfl (pi_enumU (by rfl) T.n_enumerate (pe_ix ix_seq (pe_fld (pv 0) (by rfl)) (pv 3) (fun _ _ => rfl))) (pg_tl rfl (pgs_cons (pg_name (i := 4) sc_price_at.nd rfl (by first | exact Or.inl rfl | exact Or.inr rfl)) (pgs_cons (pg_tl rfl (pgs_cons (pg_name (i := 5) sc_price_at.nd rfl (by first | exact Or.inl rfl | exact Or.inr rfl)) (pgs_cons (pg_name (i := 6) sc_price_at.nd rfl (by first | exact Or.inl rfl | exact Or.inr rfl)) pgs_nil))) pgs_nil))) (pss_one (ps_if (pt_cmpR op_in_seq (pv 3) (pe_call G_chosen (hr.mono (by decide)) (by rfl) T.D_chosen.m T.D_chosen.k T.D_chosen.b .nil pass0 (pa_cons (pv 1) (pa_cons (pe_fld (pv 0) (by rfl)) (pa_cons (pe_op op_addU (pe_op op_addU (pe_slice sl_U (pv 2) po_none (po_some (pv 3))) (pe_tup (pa_cons (pv 4) pa_nil))) (pe_slice sl_U (pv 2) (po_some (pe_op op_addU (pv 3) pe_int)) po_none)) pa_nil)))) (by rfl)) (pss_one (ps_ret (pv 5))) pss_nil)))
      (pss_one (ps_ret pe_int))),
    (rs_seq (rs_for (ri_enum (rd_op os_ix (rd_crowd T.sale rd_var) rd_var)) (rg_tup (rg_cons rg_name (rg_cons (rg_tup (rg_cons rg_name (rg_cons rg_name rg_nil))) rg_nil))) (rs_if (rt_b (rd_op os_in rd_var (rd_call (rd_cons rd_var (rd_cons (rd_stock T.sale rd_var) (rd_cons (rd_op os_add (rd_op os_add (rd_sl rd_var ro_no (ro_part rd_var)) (rd_tup (rd_cons rd_var rd_nil))) (rd_sl rd_var (ro_part (rd_op os_add rd_var rd_int)) ro_no)) rd_nil)))))) (rs_ret rd_var) rs_next))
      (rs_ret rd_int))⟩
  exact key
theorem ok_sold_at (T : Tx B mg) : FnOk P w B.K mg base CX0 3 T.D_sold_at.f T.D_sold_at.d P_sold_at (spD B 3 f_sold_at) := by
  have G_chosen := ok_chosen (P := P) (w := w) (base := base) T
  have G_price_at := ok_price_at (P := P) (w := w) (base := base) T
  have key : FnOk P w B.K mg base CX0 3 T.D_sold_at.f T.D_sold_at.d P_sold_at (spD B P_sold_at.length (runD P_sold_at.length N_sold_at.length b_sold_at)) := fn_ok (B := B) (W := []) (k := 2) (body := b_sold_at) T.D_sold_at.F sc_sold_at (by rfl) fun cdv A outer s H E hr => ⟨_, (pss_cons (ps_set (i := 3) sc_sold_at.nd rfl (by first | exact Or.inl rfl | exact Or.inr rfl) (pe_call G_chosen (hr.mono (by decide)) (by rfl) T.D_chosen.m T.D_chosen.k T.D_chosen.b .nil pass0 (pa_cons (pv 1) (pa_cons (pe_fld (pv 0) (by rfl)) (pa_cons (pv 2) pa_nil)))))
      (pss_cons (ps_set (i := 4) sc_sold_at.nd rfl (by first | exact Or.inl rfl | exact Or.inr rfl) (pe_callTy call_tuple_of (by rfl) T.n_tuple (by decide +kernel) (pa_cons (pe_lc (own := [("number", 5)]) (by rfl) sc_sold_at.nd (pi_range1 (by rfl) T.n_range (pa_cons (pe_callB call_len (by rfl) T.n_len (by decide +kernel) (pa_cons (pv 2) pa_nil)) pa_nil)) (blkOk_by (own := [("number", 5)]) (N := N_sold_at) (sc := defScope s_sold_at) (by decide +kernel)) (fun _ _ _ _ _ => (pg_name (i := 5) sc_sold_at.nd rfl (by first | exact Or.inl rfl | exact Or.inr rfl))) (fun _ _ _ _ _ => pts_nil) (fun _ _ _ _ _ => (pe_cmpR op_in_seq (pv 5) (pv 3) (by rfl)))) pa_nil)))
      (pss_cons (ps_setLc (i := 6) (own := [("number", 5)]) (by rfl) sc_sold_at.nd rfl rfl (sw_true rfl rfl rfl (by decide +kernel)) (pi_range1 (by rfl) T.n_range (pa_cons (pe_callB call_len (by rfl) T.n_len (by decide +kernel) (pa_cons (pv 2) pa_nil)) pa_nil)) (blkOk_by (own := [("number", 5)]) (N := N_sold_at) (sc := defScope s_sold_at) (by decide +kernel)) (fun _ _ _ _ _ => (pg_name (i := 5) sc_sold_at.nd rfl (by first | exact Or.inl rfl | exact Or.inr rfl))) (fun _ _ _ _ _ => pts_nil) (fun _ _ _ _ _ => (pe_ifExp (pt_val (pe_ix ix_seq (pv 4) (pv 5) (fun _ _ => rfl))) (pe_call G_price_at (hr.mono (by decide)) (by rfl) T.D_price_at.m T.D_price_at.k T.D_price_at.b .nil pass0 (pa_cons (pv 0) (pa_cons (pv 1) (pa_cons (pv 2) (pa_cons (pv 5) pa_nil))))) pe_int)))
      (pss_one (ps_ret (pe_tup (pa_cons (pv 4) (pa_cons (pe_callTy call_tuple_of (by rfl) T.n_tuple (by decide +kernel) (pa_cons (pv 6) pa_nil)) pa_nil)))))))),
    (rs_seq (rs_set (rd_call (rd_cons rd_var (rd_cons (rd_stock T.sale rd_var) (rd_cons rd_var rd_nil)))))
      (rs_seq (rs_set (rd_b cs_tuple (rd_cons (rd_comp (ri_r1 (rd_cons (rd_b cs_len (rd_cons rd_var rd_nil)) rd_nil)) rg_name rt_yes (rd_op os_in rd_var rd_var)) rd_nil)))
      (rs_seq (rs_set (rd_comp (ri_r1 (rd_cons (rd_b cs_len (rd_cons rd_var rd_nil)) rd_nil)) rg_name rt_yes (rd_if (rt_b (rd_op os_ix rd_var rd_var)) (rd_call (rd_cons rd_var (rd_cons rd_var (rd_cons rd_var (rd_cons rd_var rd_nil))))) rd_int)))
      (rs_ret (rd_tup (rd_cons rd_var (rd_cons (rd_b cs_tuple (rd_cons rd_var rd_nil)) rd_nil)))))))⟩
  exact key
theorem ok_bids_at (T : Tx B mg) : FnOk P w B.K mg base CX0 1 T.D_bids_at.f T.D_bids_at.d P_bids_at (spD B 2 f_bids_at) := by
  have key : FnOk P w B.K mg base CX0 1 T.D_bids_at.f T.D_bids_at.d P_bids_at (spD B P_bids_at.length (runD P_bids_at.length N_bids_at.length b_bids_at)) := fn_ok (B := B) (W := []) (k := 0) (body := b_bids_at) T.D_bids_at.F sc_bids_at (by rfl) fun cdv A outer s H E hr => ⟨_, (pss_one (ps_ret (pe_callTy call_tuple_of (by rfl) T.n_tuple (by decide +kernel) (pa_cons (pe_lc (own := [("number", 2), ("at", 3)]) (by rfl) sc_bids_at.nd (pi_enumU (by rfl) T.n_enumerate (pv 1)) (blkOk_by (own := [("number", 2), ("at", 3)]) (N := N_bids_at) (sc := defScope s_bids_at) (by decide +kernel)) (fun _ _ _ _ _ => (pg_tl rfl (pgs_cons (pg_name (i := 2) sc_bids_at.nd rfl (by first | exact Or.inl rfl | exact Or.inr rfl)) (pgs_cons (pg_name (i := 3) sc_bids_at.nd rfl (by first | exact Or.inl rfl | exact Or.inr rfl)) pgs_nil)))) (fun _ _ _ _ _ => pts_nil) (fun _ _ _ _ _ => (pe_ix ix_seq (pe_ix ix_seq (pe_ix ix_seq (pe_fld (pv 0) (by rfl)) (pv 2) (fun _ _ => rfl)) (pv 3) (fun _ _ => rfl)) pe_int (fun _ _ => rfl)))) pa_nil)))),
    (rs_ret (rd_b cs_tuple (rd_cons (rd_comp (ri_enum rd_var) (rg_tup (rg_cons rg_name (rg_cons rg_name rg_nil))) rt_yes (rd_op os_ix (rd_op os_ix (rd_op os_ix (rd_crowd T.sale rd_var) rd_var) rd_var) rd_int)) rd_nil)))⟩
  exact key
theorem ok_rule_of (T : Tx B mg) : FnOk P w B.K mg base CX0 8 T.D_rule_of.f T.D_rule_of.d P_rule_of (spD B 1 f_rule_of) := by
  have G_need_sale := ok_need_sale (P := P) (w := w) (base := base) T
  have G_scaled := ok_scaled (P := P) (w := w) (base := base) T
  have G_level_rows := ok_level_rows (P := P) (w := w) (base := base) T
  have G_all_places := ok_all_places (P := P) (w := w) (base := base) T
  have G_sold_at := ok_sold_at (P := P) (w := w) (base := base) T
  have G_bids_at := ok_bids_at (P := P) (w := w) (base := base) T
  have key : FnOk P w B.K mg base CX0 8 T.D_rule_of.f T.D_rule_of.d P_rule_of (spD B P_rule_of.length (runD P_rule_of.length N_rule_of.length b_rule_of)) := fn_ok (B := B) (W := [2]) (k := 7) (body := b_rule_of) T.D_rule_of.F sc_rule_of (by rfl) fun cdv A outer s H E hr => ⟨_, (pss_cons (ps_expr (pe_call G_need_sale (hr.mono (by decide)) (by rfl) T.D_need_sale.m T.D_need_sale.k T.D_need_sale.b .nil pass0 (pa_cons (pv 0) pa_nil)))
      (pss_cons (ps_par (i := 1) (j := 2) (by rfl) sc_rule_of.nd rfl rfl (by decide) rfl rfl (pa_cons (pe_ix ix_seq (pe_call G_scaled (hr.mono (by decide)) (by rfl) T.D_scaled.m T.D_scaled.k T.D_scaled.b .nil pass0 (pa_cons (pe_call G_level_rows (hr.mono (by decide)) (by rfl) T.D_level_rows.m T.D_level_rows.k T.D_level_rows.b .nil pass0 (pa_cons (pv 0) pa_nil)) pa_nil)) pe_int (fun _ _ => rfl)) (pa_cons (pe_lst pa_nil) pa_nil)) (by rfl))
      (pss_cons (ps_for PassesOwn.never rfl (pi_seq (pe_call G_all_places (hr.mono (by decide)) (by rfl) T.D_all_places.m T.D_all_places.k T.D_all_places.b .nil pass0 (pa_cons (pv 0) pa_nil))) (pg_name (i := 3) sc_rule_of.nd rfl (by first | exact Or.inl rfl | exact Or.inr rfl)) (pss_cons (ps_asg (pe_call G_sold_at (hr.mono (by decide)) (by rfl) T.D_sold_at.m T.D_sold_at.k T.D_sold_at.b .nil pass0 (pa_cons (pv 0) (pa_cons (pv 1) (pa_cons (pv 3) pa_nil)))) (pg_tl rfl (pgs_cons (pg_name (i := 4) sc_rule_of.nd rfl (by first | exact Or.inl rfl | exact Or.inr rfl)) (pgs_cons (pg_name (i := 5) sc_rule_of.nd rfl (by first | exact Or.inl rfl | exact Or.inr rfl)) pgs_nil))))
      (pss_one (ps_expr (pe_bm PySem.F.plainAttrs_list PySem.F.slot_list_append PySem.F.type_list_append mt_append (pv 2) (pa_cons (pe_tup (pa_cons (pe_call G_bids_at (hr.mono (by decide)) (by rfl) T.D_bids_at.m T.D_bids_at.k T.D_bids_at.b .nil pass0 (pa_cons (pv 0) (pa_cons (pv 3) pa_nil))) (pa_cons (pv 4) (pa_cons (pv 5) pa_nil)))) pa_nil))))))
      (pss_one (ps_ret (pe_callTy call_tuple_of (by rfl) T.n_tuple (by decide +kernel) (pa_cons (pv 2) pa_nil))))))),
    (rs_seq (rs_do (rd_call (rd_cons rd_var rd_nil)))
      (rs_seq (rs_par (rps_cons (rp_v (rd_op os_ix (rd_call (rd_cons (rd_call (rd_cons rd_var rd_nil)) rd_nil)) rd_int)) (rps_cons (rp_n (rl_lst rd_nil)) rps_nil)))
      (rs_seq (rs_for (ri_seq (rd_call (rd_cons rd_var rd_nil))) rg_name (rs_seq (rs_asg (rd_call (rd_cons rd_var (rd_cons rd_var (rd_cons rd_var rd_nil)))) (rg_tup (rg_cons rg_name (rg_cons rg_name rg_nil))))
      (rs_app (rd_tup (rd_cons (rd_call (rd_cons rd_var (rd_cons rd_var rd_nil))) (rd_cons rd_var (rd_cons rd_var rd_nil)))))))
      (rs_ret (rd_b cs_tuple (rd_cons rd_var rd_nil))))))⟩
  exact key
theorem ok_is_row (T : Tx B mg) : FnOk P w B.K mg base CX0 2 T.D_is_row.f T.D_is_row.d P_is_row (spD B 3 f_is_row) := by
  have G_is_from := ok_is_from (P := P) (w := w) (base := base) T
  have key : FnOk P w B.K mg base CX0 2 T.D_is_row.f T.D_is_row.d P_is_row (spD B P_is_row.length (runD P_is_row.length N_is_row.length b_is_row)) := fn_ok (B := B) (W := []) (k := 1) (body := b_is_row) T.D_is_row.F sc_is_row (by rfl) fun cdv A outer s H E hr => ⟨_, (pss_cons (ps_if (PW.pt (pw_or (pt_not (pt_val (pe_callB call_isi (by rfl) T.n_isinstance (by decide +kernel) (pa_cons (pv 1) (pa_cons (pe_bltn (v := .ty "tuple") (by rfl) T.n_tuple (by decide +kernel) rfl) pa_nil))))) (pw_or (pt_cmpR (op_neD hr.units) (pe_callB call_len (by rfl) T.n_len (by decide +kernel) (pa_cons (pv 1) pa_nil)) pe_int (nomark _)) (pw_or1 (pt_not (pt_val (pe_callB (cr_all rfl) (by rfl) T.n_all (by decide +kernel) (pa_cons (pe_lc (own := [("part", 3)]) (by rfl) sc_is_row.nd (pi_seq (pv 1)) (blkOk_by (own := [("part", 3)]) (N := N_is_row) (sc := defScope s_is_row) (by decide +kernel)) (fun _ _ _ _ _ => (pg_name (i := 3) sc_is_row.nd rfl (by first | exact Or.inl rfl | exact Or.inr rfl))) (fun _ _ _ _ _ => pts_nil) (fun _ _ _ _ _ => (pe_callB call_isi (by rfl) T.n_isinstance (by decide +kernel) (pa_cons (pv 3) (pa_cons (pe_bltn (v := .ty "tuple") (by rfl) T.n_tuple (by decide +kernel) rfl) pa_nil))))) pa_nil)))))))) (pss_one (ps_ret pe_bl)) pss_nil)
      (pss_cons (ps_if (PW.pt (pw_or (pt_not (pt_val (pe_callB (cr_all rfl) (by rfl) T.n_all (by decide +kernel) (pa_cons (pe_lc (own := [("bid", 4)]) (by rfl) sc_is_row.nd (pi_seq (pe_ix ix_seq (pv 1) pe_int (fun _ _ => rfl))) (blkOk_by (own := [("bid", 4)]) (N := N_is_row) (sc := defScope s_is_row) (by decide +kernel)) (fun _ _ _ _ _ => (pg_name (i := 4) sc_is_row.nd rfl (by first | exact Or.inl rfl | exact Or.inr rfl))) (fun _ _ _ _ _ => pts_nil) (fun _ _ _ _ _ => (pe_call G_is_from (hr.mono (by decide)) (by rfl) T.D_is_from.m T.D_is_from.k T.D_is_from.b .nil pass0 (pa_cons (pv 4) (pa_cons pe_int (pa_cons (pe_glob (v := .int 1000000000) (by rfl) T.m_MOST ⟨_, rfl⟩) pa_nil)))))) pa_nil)))) (pw_or1 (pt_cmpR (op_neD hr.units) (pe_ix ix_seq (pv 1) pe_int (fun _ _ => rfl)) (pv 2) (nomark _))))) (pss_one (ps_ret pe_bl)) pss_nil)
      (pss_cons (ps_if (PW.pt (pw_or (pt_cmpR (op_neD hr.units) (pe_callB call_len (by rfl) T.n_len (by decide +kernel) (pa_cons (pe_ix ix_seq (pv 1) pe_int (fun _ _ => rfl)) pa_nil)) (pe_callB call_len (by rfl) T.n_len (by decide +kernel) (pa_cons (pv 2) pa_nil)) (nomark _)) (pw_or1 (pt_cmpR (op_neD hr.units) (pe_callB call_len (by rfl) T.n_len (by decide +kernel) (pa_cons (pe_ix ix_seq (pv 1) pe_int (fun _ _ => rfl)) pa_nil)) (pe_callB call_len (by rfl) T.n_len (by decide +kernel) (pa_cons (pv 2) pa_nil)) (nomark _))))) (pss_one (ps_ret pe_bl)) pss_nil)
      (pss_cons (ps_if (PW.pt (pw_or (pt_not (pt_val (pe_callB (cr_all rfl) (by rfl) T.n_all (by decide +kernel) (pa_cons (pe_lc (own := [("got", 5)]) (by rfl) sc_is_row.nd (pi_seq (pe_ix ix_seq (pv 1) pe_int (fun _ _ => rfl))) (blkOk_by (own := [("got", 5)]) (N := N_is_row) (sc := defScope s_is_row) (by decide +kernel)) (fun _ _ _ _ _ => (pg_name (i := 5) sc_is_row.nd rfl (by first | exact Or.inl rfl | exact Or.inr rfl))) (fun _ _ _ _ _ => pts_nil) (fun _ _ _ _ _ => (pe_callB call_isi (by rfl) T.n_isinstance (by decide +kernel) (pa_cons (pv 5) (pa_cons (pe_bltn (v := .ty "bool") (by rfl) T.n_bool (by decide +kernel) rfl) pa_nil))))) pa_nil)))) (pw_or1 (pt_not (pt_val (pe_callB (cr_all rfl) (by rfl) T.n_all (by decide +kernel) (pa_cons (pe_lc (own := [("pay", 6)]) (by rfl) sc_is_row.nd (pi_seq (pe_ix ix_seq (pv 1) pe_int (fun _ _ => rfl))) (blkOk_by (own := [("pay", 6)]) (N := N_is_row) (sc := defScope s_is_row) (by decide +kernel)) (fun _ _ _ _ _ => (pg_name (i := 6) sc_is_row.nd rfl (by first | exact Or.inl rfl | exact Or.inr rfl))) (fun _ _ _ _ _ => pts_nil) (fun _ _ _ _ _ => (pe_call G_is_from (hr.mono (by decide)) (by rfl) T.D_is_from.m T.D_is_from.k T.D_is_from.b .nil pass0 (pa_cons (pv 6) (pa_cons (pe_un un_neg (pe_glob (v := .int 1000000000) (by rfl) T.m_MOST ⟨_, rfl⟩)) (pa_cons (pe_glob (v := .int 1000000000) (by rfl) T.m_MOST ⟨_, rfl⟩) pa_nil)))))) pa_nil))))))) (pss_one (ps_ret pe_bl)) pss_nil)
      (pss_one (ps_ret (pe_cmpR op_le (pe_callB call_len (by rfl) T.n_len (by decide +kernel) (pa_cons (pe_lc (own := [("got", 5)]) (by rfl) sc_is_row.nd (pi_seq (pe_ix ix_seq (pv 1) pe_int (fun _ _ => rfl))) (blkOk_by (own := [("got", 5)]) (N := N_is_row) (sc := defScope s_is_row) (by decide +kernel)) (fun _ _ _ _ _ => (pg_name (i := 5) sc_is_row.nd rfl (by first | exact Or.inl rfl | exact Or.inr rfl))) (fun _ _ _ _ _ => (pts_one (pt_val (pv 5)))) (fun _ _ _ _ _ => (pv 5))) pa_nil)) (pe_fld (pv 0) (by rfl)) (nomark _)))))))),
    (rs_seq (rs_if (rt_or (rt_not (rt_b (rd_isi rd_var))) (rt_or (rt_b (rd_op os_ne (rd_b cs_len (rd_cons rd_var rd_nil)) rd_int)) (rt_not (rt_b (rd_b cs_all (rd_cons (rd_comp (ri_seq rd_var) rg_name rt_yes (rd_isi rd_var)) rd_nil)))))) (rs_ret rd_bl) rs_next)
      (rs_seq (rs_if (rt_or (rt_not (rt_b (rd_b cs_all (rd_cons (rd_comp (ri_seq (rd_op os_ix rd_var rd_int)) rg_name rt_yes (rd_call (rd_cons rd_var (rd_cons rd_int (rd_cons rd_int rd_nil))))) rd_nil)))) (rt_b (rd_op os_ne (rd_op os_ix rd_var rd_int) rd_var))) (rs_ret rd_bl) rs_next)
      (rs_seq (rs_if (rt_or (rt_b (rd_op os_ne (rd_b cs_len (rd_cons (rd_op os_ix rd_var rd_int) rd_nil)) (rd_b cs_len (rd_cons rd_var rd_nil)))) (rt_b (rd_op os_ne (rd_b cs_len (rd_cons (rd_op os_ix rd_var rd_int) rd_nil)) (rd_b cs_len (rd_cons rd_var rd_nil))))) (rs_ret rd_bl) rs_next)
      (rs_seq (rs_if (rt_or (rt_not (rt_b (rd_b cs_all (rd_cons (rd_comp (ri_seq (rd_op os_ix rd_var rd_int)) rg_name rt_yes (rd_isi rd_var)) rd_nil)))) (rt_not (rt_b (rd_b cs_all (rd_cons (rd_comp (ri_seq (rd_op os_ix rd_var rd_int)) rg_name rt_yes (rd_call (rd_cons rd_var (rd_cons (rd_un us_neg rd_int) (rd_cons rd_int rd_nil))))) rd_nil))))) (rs_ret rd_bl) rs_next)
      (rs_ret (rd_op os_le (rd_b cs_len (rd_cons (rd_comp (ri_seq (rd_op os_ix rd_var rd_int)) rg_name (rt_b rd_var) rd_var) rd_nil)) (rd_stock T.sale rd_var)))))))⟩
  exact key
theorem ok_is_rule_of (T : Tx B mg) : FnOk P w B.K mg base CX0 3 T.D_is_rule_of.f T.D_is_rule_of.d P_is_rule_of (spD B 2 f_is_rule_of) := by
  have G_all_places := ok_all_places (P := P) (w := w) (base := base) T
  have G_is_row := ok_is_row (P := P) (w := w) (base := base) T
  have G_bids_at := ok_bids_at (P := P) (w := w) (base := base) T
  have key : FnOk P w B.K mg base CX0 3 T.D_is_rule_of.f T.D_is_rule_of.d P_is_rule_of (spD B P_is_rule_of.length (runD P_is_rule_of.length N_is_rule_of.length b_is_rule_of)) := fn_ok (B := B) (W := []) (k := 2) (body := b_is_rule_of) T.D_is_rule_of.F sc_is_rule_of (by rfl) fun cdv A outer s H E hr => ⟨_, (pss_cons (ps_set (i := 2) sc_is_rule_of.nd rfl (by first | exact Or.inl rfl | exact Or.inr rfl) (pe_call G_all_places (hr.mono (by decide)) (by rfl) T.D_all_places.m T.D_all_places.k T.D_all_places.b .nil pass0 (pa_cons (pv 0) pa_nil)))
      (pss_cons (ps_if (PW.pt (pw_or (pt_not (pt_val (pe_callB call_isi (by rfl) T.n_isinstance (by decide +kernel) (pa_cons (pv 1) (pa_cons (pe_bltn (v := .ty "tuple") (by rfl) T.n_tuple (by decide +kernel) rfl) pa_nil))))) (pw_or1 (pt_cmpR (op_neD hr.units) (pe_callB call_len (by rfl) T.n_len (by decide +kernel) (pa_cons (pv 1) pa_nil)) (pe_callB call_len (by rfl) T.n_len (by decide +kernel) (pa_cons (pv 2) pa_nil)) (nomark _))))) (pss_one (ps_ret pe_bl)) pss_nil)
      (pss_one (ps_ret (pe_callB (cr_all rfl) (by rfl) T.n_all (by decide +kernel) (pa_cons (pe_lc (own := [("at", 3), ("places", 4)]) (by rfl) sc_is_rule_of.nd (pi_enumU (by rfl) T.n_enumerate (pv 2)) (blkOk_by (own := [("at", 3), ("places", 4)]) (N := N_is_rule_of) (sc := defScope s_is_rule_of) (by decide +kernel)) (fun _ _ _ _ _ => (pg_tl rfl (pgs_cons (pg_name (i := 3) sc_is_rule_of.nd rfl (by first | exact Or.inl rfl | exact Or.inr rfl)) (pgs_cons (pg_name (i := 4) sc_is_rule_of.nd rfl (by first | exact Or.inl rfl | exact Or.inr rfl)) pgs_nil)))) (fun _ _ _ _ _ => pts_nil) (fun _ _ _ _ _ => (pe_call G_is_row (hr.mono (by decide)) (by rfl) T.D_is_row.m T.D_is_row.k T.D_is_row.b .nil pass0 (pa_cons (pv 0) (pa_cons (pe_ix ix_seq (pv 1) (pv 3) (fun _ _ => rfl)) (pa_cons (pe_call G_bids_at (hr.mono (by decide)) (by rfl) T.D_bids_at.m T.D_bids_at.k T.D_bids_at.b .nil pass0 (pa_cons (pv 0) (pa_cons (pv 4) pa_nil))) pa_nil)))))) pa_nil)))))),
    (rs_seq (rs_set (rd_call (rd_cons rd_var rd_nil)))
      (rs_seq (rs_if (rt_or (rt_not (rt_b (rd_isi rd_var))) (rt_b (rd_op os_ne (rd_b cs_len (rd_cons rd_var rd_nil)) (rd_b cs_len (rd_cons rd_var rd_nil))))) (rs_ret rd_bl) rs_next)
      (rs_ret (rd_b cs_all (rd_cons (rd_comp (ri_enum rd_var) (rg_tup (rg_cons rg_name (rg_cons rg_name rg_nil))) rt_yes (rd_call (rd_cons rd_var (rd_cons (rd_op os_ix rd_var rd_var) (rd_cons (rd_call (rd_cons rd_var (rd_cons rd_var rd_nil))) rd_nil))))) rd_nil)))))⟩
  exact key
theorem ok_is_rule (T : Tx B mg) : FnOk P w B.K mg base CX0 4 T.D_is_rule.f T.D_is_rule.d P_is_rule (spD B 2 f_is_rule) := by
  have G_need_sale := ok_need_sale (P := P) (w := w) (base := base) T
  have G_is_rule_of := ok_is_rule_of (P := P) (w := w) (base := base) T
  have key : FnOk P w B.K mg base CX0 4 T.D_is_rule.f T.D_is_rule.d P_is_rule (spD B P_is_rule.length (runD P_is_rule.length N_is_rule.length b_is_rule)) := fn_ok (B := B) (W := []) (k := 3) (body := b_is_rule) T.D_is_rule.F sc_is_rule (by rfl) fun cdv A outer s H E hr => ⟨_, (pss_cons (ps_expr (pe_call G_need_sale (hr.mono (by decide)) (by rfl) T.D_need_sale.m T.D_need_sale.k T.D_need_sale.b .nil pass0 (pa_cons (pv 0) pa_nil)))
      (pss_one (ps_ret (pe_call G_is_rule_of (hr.mono (by decide)) (by rfl) T.D_is_rule_of.m T.D_is_rule_of.k T.D_is_rule_of.b .nil pass0 (pa_cons (pv 0) (pa_cons (pv 1) pa_nil)))))),
    (rs_seq (rs_do (rd_call (rd_cons rd_var rd_nil)))
      (rs_ret (rd_call (rd_cons rd_var (rd_cons rd_var rd_nil)))))⟩
  exact key
theorem ok__law_all (T : Tx B mg) : FnOk P w B.K mg base CX0 1 T.D__law_all.f T.D__law_all.d P__law_all (spD B 1 f__law_all) := by
  have key : FnOk P w B.K mg base CX0 1 T.D__law_all.f T.D__law_all.d P__law_all (spD B P__law_all.length (runD P__law_all.length N__law_all.length b__law_all)) := fn_ok (B := B) (W := []) (k := 0) (body := b__law_all) T.D__law_all.F sc__law_all (by rfl) fun cdv A outer s H E hr => ⟨_, (pss_cons (ps_set (i := 1) sc__law_all.nd rfl (by first | exact Or.inl rfl | exact Or.inr rfl) (pe_lst (pa_cons (pe_tup (pa_cons (pe_tup pa_nil) (pa_cons pe_int pa_nil))) pa_nil)))
      (pss_cons (ps_for PassesOwn.never rfl (pi_seq (pe_dget (hu_of hr) (pv 0) pe_str (fun _ _ => rfl))) (pg_name (i := 2) sc__law_all.nd rfl (by first | exact Or.inl rfl | exact Or.inr rfl)) (pss_cons (ps_set (i := 3) sc__law_all.nd rfl (by first | exact Or.inl rfl | exact Or.inr rfl) (pe_lst pa_nil))
      (pss_cons (ps_for PassesOwn.never rfl (pi_seq (pv 1)) (pg_tl rfl (pgs_cons (pg_name (i := 4) sc__law_all.nd rfl (by first | exact Or.inl rfl | exact Or.inr rfl)) (pgs_cons (pg_name (i := 5) sc__law_all.nd rfl (by first | exact Or.inl rfl | exact Or.inr rfl)) pgs_nil))) (pss_one (ps_set (i := 3) sc__law_all.nd rfl (by first | exact Or.inl rfl | exact Or.inr rfl) (pe_op op_addU (pv 3) (pe_lc (own := [("_law_at", 6)]) (by rfl) sc__law_all.nd (pi_range1 (by rfl) T.n_range (pa_cons (pe_callB call_len (by rfl) T.n_len (by decide +kernel) (pa_cons (pv 2) pa_nil)) pa_nil)) (blkOk_by (own := [("_law_at", 6)]) (N := N__law_all) (sc := defScope s__law_all) (by decide +kernel)) (fun _ _ _ _ _ => (pg_name (i := 6) sc__law_all.nd rfl (by first | exact Or.inl rfl | exact Or.inr rfl))) (fun _ _ _ _ _ => pts_nil) (fun _ _ _ _ _ => (pe_tup (pa_cons (pe_op op_addU (pv 4) (pe_tup (pa_cons (pv 6) pa_nil))) (pa_cons (pe_op op_mulU (pv 5) (pe_ix ix_seq (pe_ix ix_seq (pv 2) (pv 6) (fun _ _ => rfl)) pe_int (fun _ _ => rfl))) pa_nil)))))))))
      (pss_one (ps_set (i := 1) sc__law_all.nd rfl (by first | exact Or.inl rfl | exact Or.inr rfl) (pv 3))))))
      (pss_one (ps_ret (pv 1))))),
    (rs_seq (rs_set (rd_lst (rd_cons (rd_tup (rd_cons (rd_tup rd_nil) (rd_cons rd_int rd_nil))) rd_nil)))
      (rs_seq (rs_for (ri_seq (rd_key rd_var)) rg_name (rs_seq (rs_set (rd_lst rd_nil))
      (rs_seq (rs_for (ri_seq rd_var) (rg_tup (rg_cons rg_name (rg_cons rg_name rg_nil))) (rs_set (rd_op os_add rd_var (rd_comp (ri_r1 (rd_cons (rd_b cs_len (rd_cons rd_var rd_nil)) rd_nil)) rg_name rt_yes (rd_tup (rd_cons (rd_op os_add rd_var (rd_tup (rd_cons rd_var rd_nil))) (rd_cons (rd_op os_mul rd_var (rd_op os_ix (rd_op os_ix rd_var rd_var) rd_int)) rd_nil)))))))
      (rs_set rd_var))))
      (rs_ret rd_var)))⟩
  exact key
theorem ok__law_bids (T : Tx B mg) : FnOk P w B.K mg base CX0 1 T.D__law_bids.f T.D__law_bids.d P__law_bids (spD B 2 f__law_bids) := by
  have key : FnOk P w B.K mg base CX0 1 T.D__law_bids.f T.D__law_bids.d P__law_bids (spD B P__law_bids.length (runD P__law_bids.length N__law_bids.length b__law_bids)) := fn_ok (B := B) (W := []) (k := 0) (body := b__law_bids) T.D__law_bids.F sc__law_bids (by rfl) fun cdv A outer s H E hr => ⟨_, (pss_one (ps_ret (pe_callTy call_tuple_of (by rfl) T.n_tuple (by decide +kernel) (pa_cons (pe_lc (own := [("_law_k", 2)]) (by rfl) sc__law_bids.nd (pi_range1 (by rfl) T.n_range (pa_cons (pe_callB call_len (by rfl) T.n_len (by decide +kernel) (pa_cons (pv 1) pa_nil)) pa_nil)) (blkOk_by (own := [("_law_k", 2)]) (N := N__law_bids) (sc := defScope s__law_bids) (by decide +kernel)) (fun _ _ _ _ _ => (pg_name (i := 2) sc__law_bids.nd rfl (by first | exact Or.inl rfl | exact Or.inr rfl))) (fun _ _ _ _ _ => pts_nil) (fun _ _ _ _ _ => (pe_ix ix_seq (pe_ix ix_seq (pe_ix ix_seq (pe_dget (hu_of hr) (pv 0) pe_str (fun _ _ => rfl)) (pv 2) (fun _ _ => rfl)) (pe_ix ix_seq (pv 1) (pv 2) (fun _ _ => rfl)) (fun _ _ => rfl)) pe_int (fun _ _ => rfl)))) pa_nil)))),
    (rs_ret (rd_b cs_tuple (rd_cons (rd_comp (ri_r1 (rd_cons (rd_b cs_len (rd_cons rd_var rd_nil)) rd_nil)) rg_name rt_yes (rd_op os_ix (rd_op os_ix (rd_op os_ix (rd_key rd_var) rd_var) (rd_op os_ix rd_var rd_var)) rd_int)) rd_nil)))⟩
  exact key
theorem ok__law_is_rule (T : Tx B mg) : FnOk P w B.K mg base CX0 2 T.D__law_is_rule.f T.D__law_is_rule.d P__law_is_rule (spD B 2 f__law_is_rule) := by
  have G__law_all := ok__law_all (P := P) (w := w) (base := base) T
  have G__law_bids := ok__law_bids (P := P) (w := w) (base := base) T
  have key : FnOk P w B.K mg base CX0 2 T.D__law_is_rule.f T.D__law_is_rule.d P__law_is_rule (spD B P__law_is_rule.length (runD P__law_is_rule.length N__law_is_rule.length b__law_is_rule)) := fn_ok (B := B) (W := []) (k := 1) (body := b__law_is_rule) T.D__law_is_rule.F sc__law_is_rule (by rfl) fun cdv A outer s H E hr => ⟨_, (pss_cons (ps_set (i := 2) sc__law_is_rule.nd rfl (by first | exact Or.inl rfl | exact Or.inr rfl) (pe_call G__law_all (hr.mono (by decide)) (by rfl) T.D__law_all.m T.D__law_all.k T.D__law_all.b .nil pass0 (pa_cons (pv 0) pa_nil)))
      (pss_cons (ps_if (PW.pt (pw_or (pt_not (pt_val (pe_callB call_isi (by rfl) T.n_isinstance (by decide +kernel) (pa_cons (pv 1) (pa_cons (pe_bltn (v := .ty "tuple") (by rfl) T.n_tuple (by decide +kernel) rfl) pa_nil))))) (pw_or1 (pt_cmpR (op_neD hr.units) (pe_callB call_len (by rfl) T.n_len (by decide +kernel) (pa_cons (pv 1) pa_nil)) (pe_callB call_len (by rfl) T.n_len (by decide +kernel) (pa_cons (pv 2) pa_nil)) (nomark _))))) (pss_one (ps_ret pe_bl)) pss_nil)
      (pss_cons (ps_for PassesOwn.never rfl (pi_range1 (by rfl) T.n_range (pa_cons (pe_callB call_len (by rfl) T.n_len (by decide +kernel) (pa_cons (pv 2) pa_nil)) pa_nil)) (pg_name (i := 3) sc__law_is_rule.nd rfl (by first | exact Or.inl rfl | exact Or.inr rfl)) (pss_cons (ps_set (i := 4) sc__law_is_rule.nd rfl (by first | exact Or.inl rfl | exact Or.inr rfl) (pe_ix ix_seq (pv 1) (pv 3) (fun _ _ => rfl)))
      (pss_cons (ps_if (PW.pt (pw_or (pt_not (pt_val (pe_callB call_isi (by rfl) T.n_isinstance (by decide +kernel) (pa_cons (pv 4) (pa_cons (pe_bltn (v := .ty "tuple") (by rfl) T.n_tuple (by decide +kernel) rfl) pa_nil))))) (pw_or (pt_cmpR (op_neD hr.units) (pe_callB call_len (by rfl) T.n_len (by decide +kernel) (pa_cons (pv 4) pa_nil)) pe_int (nomark _)) (pw_or1 (pt_cmpR (op_neD hr.units) (pe_ix ix_seq (pv 4) pe_int (fun _ _ => rfl)) (pe_call G__law_bids (hr.mono (by decide)) (by rfl) T.D__law_bids.m T.D__law_bids.k T.D__law_bids.b .nil pass0 (pa_cons (pv 0) (pa_cons (pe_ix ix_seq (pe_ix ix_seq (pv 2) (pv 3) (fun _ _ => rfl)) pe_int (fun _ _ => rfl)) pa_nil))) (nomark _)))))) (pss_one (ps_ret pe_bl)) pss_nil)
      (pss_cons (ps_if (PW.pt (pw_or (pt_not (pt_val (pe_callB call_isi (by rfl) T.n_isinstance (by decide +kernel) (pa_cons (pe_ix ix_seq (pv 4) pe_int (fun _ _ => rfl)) (pa_cons (pe_bltn (v := .ty "tuple") (by rfl) T.n_tuple (by decide +kernel) rfl) pa_nil))))) (pw_or1 (pt_val (pe_callB (cr_any rfl) (by rfl) T.n_any (by decide +kernel) (pa_cons (pe_lc (own := [("_law_one", 5)]) (by rfl) sc__law_is_rule.nd (pi_seq (pe_ix ix_seq (pv 4) pe_int (fun _ _ => rfl))) (blkOk_by (own := [("_law_one", 5)]) (N := N__law_is_rule) (sc := defScope s__law_is_rule) (by decide +kernel)) (fun _ _ _ _ _ => (pg_name (i := 5) sc__law_is_rule.nd rfl (by first | exact Or.inl rfl | exact Or.inr rfl))) (fun _ _ _ _ _ => pts_nil) (fun _ _ _ _ _ => (pe_callB call_isi (by rfl) T.n_isinstance (by decide +kernel) (pa_cons (pv 5) (pa_cons (pe_bltn (v := .ty "bool") (by rfl) T.n_bool (by decide +kernel) rfl) pa_nil))))) pa_nil)))))) (pss_one (ps_ret pe_bl)) pss_nil)
      (pss_cons (ps_if (PW.pt (pw_or (pt_not (pt_val (pe_callB call_isi (by rfl) T.n_isinstance (by decide +kernel) (pa_cons (pe_ix ix_seq (pv 4) pe_int (fun _ _ => rfl)) (pa_cons (pe_bltn (v := .ty "tuple") (by rfl) T.n_tuple (by decide +kernel) rfl) pa_nil))))) (pw_or1 (pt_not (pt_val (pe_callB call_isi (by rfl) T.n_isinstance (by decide +kernel) (pa_cons (pe_ix ix_seq (pv 4) pe_int (fun _ _ => rfl)) (pa_cons (pe_bltn (v := .ty "tuple") (by rfl) T.n_tuple (by decide +kernel) rfl) pa_nil)))))))) (pss_one (ps_ret pe_bl)) pss_nil)
      (pss_cons (ps_if (PW.pt (pw_or (pt_cmpR (op_neD hr.units) (pe_callB call_len (by rfl) T.n_len (by decide +kernel) (pa_cons (pe_ix ix_seq (pv 4) pe_int (fun _ _ => rfl)) pa_nil)) (pe_callB call_len (by rfl) T.n_len (by decide +kernel) (pa_cons (pe_dget (hu_of hr) (pv 0) pe_str (fun _ _ => rfl)) pa_nil)) (nomark _)) (pw_or1 (pt_cmpR (op_neD hr.units) (pe_callB call_len (by rfl) T.n_len (by decide +kernel) (pa_cons (pe_ix ix_seq (pv 4) pe_int (fun _ _ => rfl)) pa_nil)) (pe_callB call_len (by rfl) T.n_len (by decide +kernel) (pa_cons (pe_dget (hu_of hr) (pv 0) pe_str (fun _ _ => rfl)) pa_nil)) (nomark _))))) (pss_one (ps_ret pe_bl)) pss_nil)
      (pss_cons (ps_if (PW.pt (pw_or (pt_not (pt_val (pe_callB (cr_all rfl) (by rfl) T.n_all (by decide +kernel) (pa_cons (pe_lc (own := [("_law_got", 6)]) (by rfl) sc__law_is_rule.nd (pi_seq (pe_ix ix_seq (pv 4) pe_int (fun _ _ => rfl))) (blkOk_by (own := [("_law_got", 6)]) (N := N__law_is_rule) (sc := defScope s__law_is_rule) (by decide +kernel)) (fun _ _ _ _ _ => (pg_name (i := 6) sc__law_is_rule.nd rfl (by first | exact Or.inl rfl | exact Or.inr rfl))) (fun _ _ _ _ _ => pts_nil) (fun _ _ _ _ _ => (pe_callB call_isi (by rfl) T.n_isinstance (by decide +kernel) (pa_cons (pv 6) (pa_cons (pe_bltn (v := .ty "bool") (by rfl) T.n_bool (by decide +kernel) rfl) pa_nil))))) pa_nil)))) (pw_or1 (pt_cmpR op_gt (pe_callB (cr_sumU rfl) (by rfl) T.n_sum (by decide +kernel) (pa_cons (pe_lc (own := [("_law_got", 6)]) (by rfl) sc__law_is_rule.nd (pi_seq (pe_ix ix_seq (pv 4) pe_int (fun _ _ => rfl))) (blkOk_by (own := [("_law_got", 6)]) (N := N__law_is_rule) (sc := defScope s__law_is_rule) (by decide +kernel)) (fun _ _ _ _ _ => (pg_name (i := 6) sc__law_is_rule.nd rfl (by first | exact Or.inl rfl | exact Or.inr rfl))) (fun _ _ _ _ _ => pts_nil) (fun _ _ _ _ _ => (pe_callTy call_int1 (by rfl) T.n_int (by decide +kernel) (pa_cons (pv 6) pa_nil)))) pa_nil)) (pe_dget (hu_of hr) (pv 0) pe_str (fun _ _ => rfl)) (nomark _))))) (pss_one (ps_ret pe_bl)) pss_nil)
      (pss_one (ps_for PassesOwn.never rfl (pi_seq (pe_ix ix_seq (pv 4) pe_int (fun _ _ => rfl))) (pg_name (i := 7) sc__law_is_rule.nd rfl (by first | exact Or.inl rfl | exact Or.inr rfl)) (pss_one (ps_if (PW.pt (pw_or (pt_not (pt_val (pe_callB call_isi (by rfl) T.n_isinstance (by decide +kernel) (pa_cons (pv 7) (pa_cons (pe_bltn (v := .ty "int") (by rfl) T.n_int (by decide +kernel) rfl) pa_nil))))) (pw_or (pt_val (pe_callB call_isi (by rfl) T.n_isinstance (by decide +kernel) (pa_cons (pv 7) (pa_cons (pe_bltn (v := .ty "bool") (by rfl) T.n_bool (by decide +kernel) rfl) pa_nil)))) (pw_or1 (pt_not (pt_chain op_le op_le (pe_un un_neg (pe_op op_pow pe_int pe_int)) (pv 7) (pe_op op_pow pe_int pe_int))))))) (pss_one (ps_ret pe_bl)) pss_nil)))))))))))
      (pss_one (ps_ret pe_bl))))),
    (rs_seq (rs_set (rd_call (rd_cons rd_var rd_nil)))
      (rs_seq (rs_if (rt_or (rt_not (rt_b (rd_isi rd_var))) (rt_b (rd_op os_ne (rd_b cs_len (rd_cons rd_var rd_nil)) (rd_b cs_len (rd_cons rd_var rd_nil))))) (rs_ret rd_bl) rs_next)
      (rs_seq (rs_for (ri_r1 (rd_cons (rd_b cs_len (rd_cons rd_var rd_nil)) rd_nil)) rg_name (rs_seq (rs_set (rd_op os_ix rd_var rd_var))
      (rs_seq (rs_if (rt_or (rt_not (rt_b (rd_isi rd_var))) (rt_or (rt_b (rd_op os_ne (rd_b cs_len (rd_cons rd_var rd_nil)) rd_int)) (rt_b (rd_op os_ne (rd_op os_ix rd_var rd_int) (rd_call (rd_cons rd_var (rd_cons (rd_op os_ix (rd_op os_ix rd_var rd_var) rd_int) rd_nil))))))) (rs_ret rd_bl) rs_next)
      (rs_seq (rs_if (rt_or (rt_not (rt_b (rd_isi (rd_op os_ix rd_var rd_int)))) (rt_b (rd_b cs_any (rd_cons (rd_comp (ri_seq (rd_op os_ix rd_var rd_int)) rg_name rt_yes (rd_isi rd_var)) rd_nil)))) (rs_ret rd_bl) rs_next)
      (rs_seq (rs_if (rt_or (rt_not (rt_b (rd_isi (rd_op os_ix rd_var rd_int)))) (rt_not (rt_b (rd_isi (rd_op os_ix rd_var rd_int))))) (rs_ret rd_bl) rs_next)
      (rs_seq (rs_if (rt_or (rt_b (rd_op os_ne (rd_b cs_len (rd_cons (rd_op os_ix rd_var rd_int) rd_nil)) (rd_b cs_len (rd_cons (rd_key rd_var) rd_nil)))) (rt_b (rd_op os_ne (rd_b cs_len (rd_cons (rd_op os_ix rd_var rd_int) rd_nil)) (rd_b cs_len (rd_cons (rd_key rd_var) rd_nil))))) (rs_ret rd_bl) rs_next)
      (rs_seq (rs_if (rt_or (rt_not (rt_b (rd_b cs_all (rd_cons (rd_comp (ri_seq (rd_op os_ix rd_var rd_int)) rg_name rt_yes (rd_isi rd_var)) rd_nil)))) (rt_b (rd_op os_gt (rd_b cs_sum (rd_cons (rd_comp (ri_seq (rd_op os_ix rd_var rd_int)) rg_name rt_yes (rd_b cs_int (rd_cons rd_var rd_nil))) rd_nil)) (rd_key rd_var)))) (rs_ret rd_bl) rs_next)
      (rs_for (ri_seq (rd_op os_ix rd_var rd_int)) rg_name (rs_if (rt_or (rt_not (rt_b (rd_isi rd_var))) (rt_or (rt_b (rd_isi rd_var)) (rt_not (rt_b (rd_chain os_le os_le (rd_un us_neg (rd_op os_pow rd_int rd_int)) rd_var (rd_op os_pow rd_int rd_int)))))) (rs_ret rd_bl) rs_next)))))))))
      (rs_ret rd_bl))))⟩
  exact key
theorem ok_need_rule (T : Tx B mg) : FnOk P w B.K mg base (L2.CX P w) 4 T.D_need_rule.f T.D_need_rule.d P_need_rule (spX B 2 f_need_rule) := by
  have G_is_rule_of := ok_is_rule_of (P := P) (w := w) (base := base) T
  have GI_BadRule := okI_BadRule (P := P) (w := w) (base := base) T
  have key : FnOk P w B.K mg base (L2.CX P w) 4 T.D_need_rule.f T.D_need_rule.d P_need_rule (spX B P_need_rule.length (runD P_need_rule.length N_need_rule.length b_need_rule)) := fnx_ok (B := B) (W := []) (k := 3) (body := b_need_rule) T.D_need_rule.F sc_need_rule (by rfl) fun cdv A outer s H E hr => ⟨_, (pss_one (ps_if (PT.nox (pt_not (pt_val (pe_call G_is_rule_of (hr.mono (by decide)) (by rfl) T.D_is_rule_of.m T.D_is_rule_of.k T.D_is_rule_of.b .nil pass0 (pa_cons (pv 0) (pa_cons (pv 1) pa_nil)))))) (pss_one (ps_raise rfl (takes_of rfl rfl rfl rfl) (pmk_x0 T.X_BadRule.o T.X_BadRule.i T.X_BadRule.t GI_BadRule (hr.mono (by decide)) T.X_BadRule.b (by rfl) T.X_BadRule.m))) pss_nil)),
    (rs_if (rt_q (rt_not (rt_b (rd_call (rd_cons rd_var (rd_cons rd_var rd_nil)))))) rs_raise0 rs_next)⟩
  exact key
theorem ok_gain_of (T : Tx B mg) : FnOk P w B.K mg base CX0 1 T.D_gain_of.f T.D_gain_of.d P_gain_of (spD B 3 f_gain_of) := by
  have key : FnOk P w B.K mg base CX0 1 T.D_gain_of.f T.D_gain_of.d P_gain_of (spD B P_gain_of.length (runD P_gain_of.length N_gain_of.length b_gain_of)) := fn_ok (B := B) (W := []) (k := 0) (body := b_gain_of) T.D_gain_of.F sc_gain_of (by rfl) fun cdv A outer s H E hr => ⟨_, (pss_one (ps_ret (pe_op op_sub (pe_ifExp (pt_val (pe_ix ix_seq (pe_ix ix_seq (pv 0) pe_int (fun _ _ => rfl)) (pv 1) (fun _ _ => rfl))) (pv 2) pe_int) (pe_ix ix_seq (pe_ix ix_seq (pv 0) pe_int (fun _ _ => rfl)) (pv 1) (fun _ _ => rfl))))),
    (rs_ret (rd_op os_dif (rd_if (rt_b (rd_op os_ix (rd_op os_ix rd_var rd_int) rd_var)) rd_var rd_int) (rd_op os_ix (rd_op os_ix rd_var rd_int) rd_var)))⟩
  exact key
theorem ok_flaw_at (T : Tx B mg) : FnOk P w B.K mg base CX0 2 T.D_flaw_at.f T.D_flaw_at.d P_flaw_at (spD B 3 f_flaw_at) := by
  have G_gain_of := ok_gain_of (P := P) (w := w) (base := base) T
  have key : FnOk P w B.K mg base CX0 2 T.D_flaw_at.f T.D_flaw_at.d P_flaw_at (spD B P_flaw_at.length (runD P_flaw_at.length N_flaw_at.length b_flaw_at)) := fn_ok (B := B) (W := []) (k := 1) (body := b_flaw_at) T.D_flaw_at.F sc_flaw_at (by rfl) fun cdv A outer s H E hr => ⟨_, (pss_cons (ps_for PassesOwn.never rfl (pi_enumU (by rfl) T.n_enumerate (pv 2)) (pg_tl rfl (pgs_cons (pg_name (i := 3) sc_flaw_at.nd rfl (by first | exact Or.inl rfl | exact Or.inr rfl)) (pgs_cons (pg_name (i := 4) sc_flaw_at.nd rfl (by first | exact Or.inl rfl | exact Or.inr rfl)) pgs_nil))) (pss_cons (ps_set (i := 5) sc_flaw_at.nd rfl (by first | exact Or.inl rfl | exact Or.inr rfl) (pe_call G_gain_of (hr.mono (by decide)) (by rfl) T.D_gain_of.m T.D_gain_of.k T.D_gain_of.b .nil pass0 (pa_cons (pe_dget (hu_of hr) (pv 1) (pv 2) (fun _ _ => rfl)) (pa_cons (pv 3) (pa_cons (pv 4) pa_nil)))))
      (pss_cons (ps_if (pt_cmpR op_lt (pv 5) pe_int (nomark _)) (pss_one (ps_ret (pe_tup (pa_cons (pv 2) (pa_cons (pv 3) (pa_cons pe_non pa_nil)))))) pss_nil)
      (pss_one (ps_for PassesOwn.never rfl (pi_seq (pe_ix ix_seq (pe_fld (pv 0) (by rfl)) (pv 3) (fun _ _ => rfl))) (pg_tl rfl (pgs_cons (pg_name (i := 6) sc_flaw_at.nd rfl (by first | exact Or.inl rfl | exact Or.inr rfl)) (pgs_cons (pg_name (i := 7) sc_flaw_at.nd rfl (by first | exact Or.inl rfl | exact Or.inr rfl)) pgs_nil))) (pss_one (ps_if (pt_cmpR op_gt (pe_call G_gain_of (hr.mono (by decide)) (by rfl) T.D_gain_of.m T.D_gain_of.k T.D_gain_of.b .nil pass0 (pa_cons (pe_dget (hu_of hr) (pv 1) (pe_op op_addU (pe_op op_addU (pe_slice sl_U (pv 2) po_none (po_some (pv 3))) (pe_tup (pa_cons (pv 6) pa_nil))) (pe_slice sl_U (pv 2) (po_some (pe_op op_addU (pv 3) pe_int)) po_none)) (fun _ _ => rfl)) (pa_cons (pv 3) (pa_cons (pv 4) pa_nil)))) (pv 5) (nomark _)) (pss_one (ps_ret (pe_tup (pa_cons (pv 2) (pa_cons (pv 3) (pa_cons (pv 6) pa_nil)))))) pss_nil)))))))
      (pss_one (ps_ret pe_non))),
    (rs_seq (rs_for (ri_enum rd_var) (rg_tup (rg_cons rg_name (rg_cons rg_name rg_nil))) (rs_seq (rs_set (rd_call (rd_cons (rd_dgetT T.lit rd_var rd_var) (rd_cons rd_var (rd_cons rd_var rd_nil)))))
      (rs_seq (rs_if (rt_b (rd_op os_lt rd_var rd_int)) (rs_ret (rd_tup (rd_cons rd_var (rd_cons rd_var (rd_cons rd_non rd_nil))))) rs_next)
      (rs_for (ri_seq (rd_op os_ix (rd_crowd T.sale rd_var) rd_var)) (rg_tup (rg_cons rg_name (rg_cons rg_name rg_nil))) (rs_if (rt_b (rd_op os_gt (rd_call (rd_cons (rd_dgetT T.lit rd_var (rd_op os_add (rd_op os_add (rd_sl rd_var ro_no (ro_part rd_var)) (rd_tup (rd_cons rd_var rd_nil))) (rd_sl rd_var (ro_part (rd_op os_add rd_var rd_int)) ro_no))) (rd_cons rd_var (rd_cons rd_var rd_nil)))) rd_var)) (rs_ret (rd_tup (rd_cons rd_var (rd_cons rd_var (rd_cons rd_var rd_nil))))) rs_next)))))
      (rs_ret rd_non))⟩
  exact key
theorem ok_flaw_of (T : Tx B mg) : FnOk P w B.K mg base CX0 3 T.D_flaw_of.f T.D_flaw_of.d P_flaw_of (spD B 2 f_flaw_of) := by
  have G_flaw_at := ok_flaw_at (P := P) (w := w) (base := base) T
  have key : FnOk P w B.K mg base CX0 3 T.D_flaw_of.f T.D_flaw_of.d P_flaw_of (spD B P_flaw_of.length (runD P_flaw_of.length N_flaw_of.length b_flaw_of)) := fn_ok (B := B) (W := []) (k := 2) (body := b_flaw_of) T.D_flaw_of.F sc_flaw_of (by rfl) fun cdv A outer s H E hr => ⟨_, (pss_cons (ps_setDcT (i := 2) (own := [("row", 3)]) (hu_of hr) (by rfl) sc_flaw_of.nd rfl rfl (swD rfl rfl rfl (by decide +kernel)) (pi_seq (pv 1)) (blkOk_by (own := [("row", 3)]) (N := N_flaw_of) (sc := defScope s_flaw_of) (by decide +kernel)) (fun _ _ _ _ _ => (pg_name (i := 3) sc_flaw_of.nd rfl (by first | exact Or.inl rfl | exact Or.inr rfl))) (fun _ _ _ _ _ => (pe_ix ix_seq (pv 3) pe_int (fun _ _ => rfl))) (fun _ _ _ _ _ => (pv 3)))
      (pss_cons (ps_for PassesOwn.never rfl (pi_seq (pv 1)) (pg_name (i := 3) sc_flaw_of.nd rfl (by first | exact Or.inl rfl | exact Or.inr rfl)) (pss_cons (ps_set (i := 4) sc_flaw_of.nd rfl (by first | exact Or.inl rfl | exact Or.inr rfl) (pe_call G_flaw_at (hr.mono (by decide)) (by rfl) T.D_flaw_at.m T.D_flaw_at.k T.D_flaw_at.b .nil pass0 (pa_cons (pv 0) (pa_cons (pv 2) (pa_cons (pe_ix ix_seq (pv 3) pe_int (fun _ _ => rfl)) pa_nil)))))
      (pss_one (ps_if (pt_cmpR op_notN (pv 4) pe_non (nomark _)) (pss_one (ps_ret (pv 4))) pss_nil))))
      (pss_one (ps_ret pe_non)))),
    (rs_seq (rs_set (rd_dc T.lit (ri_seq rd_var) rg_name (rd_op os_ix rd_var rd_int) rd_var))
      (rs_seq (rs_for (ri_seq rd_var) rg_name (rs_seq (rs_set (rd_call (rd_cons rd_var (rd_cons rd_var (rd_cons (rd_op os_ix rd_var rd_int) rd_nil)))))
      (rs_if (rt_b (rd_op os_notN rd_var rd_non)) (rs_ret rd_var) rs_next)))
      (rs_ret rd_non)))⟩
  exact key
theorem ok_flaw (T : Tx B mg) : FnOk P w B.K mg base (L2.CX P w) 5 T.D_flaw.f T.D_flaw.d P_flaw (spX B 2 f_flaw) := by
  have G_need_sale := ok_need_sale (P := P) (w := w) (base := base) T
  have G_need_rule := ok_need_rule (P := P) (w := w) (base := base) T
  have G_flaw_of := ok_flaw_of (P := P) (w := w) (base := base) T
  have key : FnOk P w B.K mg base (L2.CX P w) 5 T.D_flaw.f T.D_flaw.d P_flaw (spX B P_flaw.length (runD P_flaw.length N_flaw.length b_flaw)) := fnx_ok (B := B) (W := []) (k := 4) (body := b_flaw) T.D_flaw.F sc_flaw (by rfl) fun cdv A outer s H E hr => ⟨_, (pss_cons (ps_nox (ps_expr (pe_call G_need_sale (hr.mono (by decide)) (by rfl) T.D_need_sale.m T.D_need_sale.k T.D_need_sale.b .nil pass0 (pa_cons (pv 0) pa_nil))))
      (pss_cons (ps_expr (pe_callS G_need_rule (hr.mono (by decide)) (by rfl) T.D_need_rule.m T.D_need_rule.k T.D_need_rule.b (fun σ => passAt (takes_of rfl rfl rfl rfl) σ) (pa_cons (PE.nox (pv 0)) (pa_cons (PE.nox (pv 1)) pa_nil))))
      (pss_one (ps_nox (ps_ret (pe_call G_flaw_of (hr.mono (by decide)) (by rfl) T.D_flaw_of.m T.D_flaw_of.k T.D_flaw_of.b .nil pass0 (pa_cons (pv 0) (pa_cons (pv 1) pa_nil)))))))),
    (rs_seq (rs_q (rs_do (rd_call (rd_cons rd_var rd_nil))))
      (rs_seq (rs_do (rd_callS (rd_cons (rd_q rd_var) (rd_cons (rd_q rd_var) rd_nil))))
      (rs_q (rs_ret (rd_call (rd_cons rd_var (rd_cons rd_var rd_nil)))))))⟩
  exact key
theorem ok_total_of (T : Tx B mg) : FnOk P w B.K mg base CX0 1 T.D_total_of.f T.D_total_of.d P_total_of (spD B 1 f_total_of) := by
  have key : FnOk P w B.K mg base CX0 1 T.D_total_of.f T.D_total_of.d P_total_of (spD B P_total_of.length (runD P_total_of.length N_total_of.length b_total_of)) := fn_ok (B := B) (W := []) (k := 0) (body := b_total_of) T.D_total_of.F sc_total_of (by rfl) fun cdv A outer s H E hr => ⟨_, (pss_one (ps_ret (pe_callB (cr_sumU rfl) (by rfl) T.n_sum (by decide +kernel) (pa_cons (pe_lc (own := [("worth", 1), ("weight", 2)]) (by rfl) sc_total_of.nd (pi_seq (pv 0)) (blkOk_by (own := [("worth", 1), ("weight", 2)]) (N := N_total_of) (sc := defScope s_total_of) (by decide +kernel)) (fun _ _ _ _ _ => (pg_tl rfl (pgs_cons (pg_name (i := 1) sc_total_of.nd rfl (by first | exact Or.inl rfl | exact Or.inr rfl)) (pgs_cons (pg_name (i := 2) sc_total_of.nd rfl (by first | exact Or.inl rfl | exact Or.inr rfl)) pgs_nil)))) (fun _ _ _ _ _ => pts_nil) (fun _ _ _ _ _ => (pv 2))) pa_nil)))),
    (rs_ret (rd_b cs_sum (rd_cons (rd_comp (ri_seq rd_var) (rg_tup (rg_cons rg_name (rg_cons rg_name rg_nil))) rt_yes rd_var) rd_nil)))⟩
  exact key
theorem ok_takings_of (T : Tx B mg) : FnOk P w B.K mg base CX0 3 T.D_takings_of.f T.D_takings_of.d P_takings_of (spD B 2 f_takings_of) := by
  have G_total_of := ok_total_of (P := P) (w := w) (base := base) T
  have G_all_places := ok_all_places (P := P) (w := w) (base := base) T
  have G_made := ok_made (P := P) (w := w) (base := base) T
  have key : FnOk P w B.K mg base CX0 3 T.D_takings_of.f T.D_takings_of.d P_takings_of (spD B P_takings_of.length (runD P_takings_of.length N_takings_of.length b_takings_of)) := fn_ok (B := B) (W := []) (k := 2) (body := b_takings_of) T.D_takings_of.F sc_takings_of (by rfl) fun cdv A outer s H E hr => ⟨_, (pss_cons (ps_asg (pe_tup (pa_cons pe_int (pa_cons pe_int pa_nil))) (pg_tup rfl (pgs_cons (pg_name (i := 2) sc_takings_of.nd rfl (by first | exact Or.inl rfl | exact Or.inr rfl)) (pgs_cons (pg_name (i := 3) sc_takings_of.nd rfl (by first | exact Or.inl rfl | exact Or.inr rfl)) pgs_nil))))
      (pss_cons (ps_for PassesOwn.never rfl (pi_seq (pe_fld (pv 0) (by rfl))) (pg_name (i := 4) sc_takings_of.nd rfl (by first | exact Or.inl rfl | exact Or.inr rfl)) (pss_one (ps_set (i := 3) sc_takings_of.nd rfl (by first | exact Or.inl rfl | exact Or.inr rfl) (pe_op op_mulU (pv 3) (pe_call G_total_of (hr.mono (by decide)) (by rfl) T.D_total_of.m T.D_total_of.k T.D_total_of.b .nil pass0 (pa_cons (pv 4) pa_nil))))))
      (pss_cons (ps_for PassesOwn.never rfl (pi_enumU (by rfl) T.n_enumerate (pe_call G_all_places (hr.mono (by decide)) (by rfl) T.D_all_places.m T.D_all_places.k T.D_all_places.b .nil pass0 (pa_cons (pv 0) pa_nil))) (pg_tl rfl (pgs_cons (pg_name (i := 5) sc_takings_of.nd rfl (by first | exact Or.inl rfl | exact Or.inr rfl)) (pgs_cons (pg_name (i := 6) sc_takings_of.nd rfl (by first | exact Or.inl rfl | exact Or.inr rfl)) pgs_nil))) (pss_cons (ps_set (i := 7) sc_takings_of.nd rfl (by first | exact Or.inl rfl | exact Or.inr rfl) pe_int)
      (pss_cons (ps_for PassesOwn.never rfl (pi_enumU (by rfl) T.n_enumerate (pv 6)) (pg_tl rfl (pgs_cons (pg_name (i := 8) sc_takings_of.nd rfl (by first | exact Or.inl rfl | exact Or.inr rfl)) (pgs_cons (pg_name (i := 9) sc_takings_of.nd rfl (by first | exact Or.inl rfl | exact Or.inr rfl)) pgs_nil))) (pss_one (ps_set (i := 7) sc_takings_of.nd rfl (by first | exact Or.inl rfl | exact Or.inr rfl) (pe_op op_mulU (pv 7) (pe_ix ix_seq (pe_ix ix_seq (pe_ix ix_seq (pe_fld (pv 0) (by rfl)) (pv 8) (fun _ _ => rfl)) (pv 9) (fun _ _ => rfl)) pe_int (fun _ _ => rfl))))))
      (pss_one (ps_aug (i := 2) sc_takings_of.nd rfl (by first | exact Or.inl rfl | exact Or.inr rfl) (pe_op op_mulU (pv 7) (pe_callB (cr_sumU rfl) (by rfl) T.n_sum (by decide +kernel) (pa_cons (pe_ix ix_seq (pe_ix ix_seq (pv 1) (pv 5) (fun _ _ => rfl)) pe_int (fun _ _ => rfl)) pa_nil))) ip_add)))))
      (pss_one (ps_ret (pe_call G_made (hr.mono (by decide)) (by rfl) T.D_made.m T.D_made.k T.D_made.b .nil pass0 (pa_cons (pv 2) (pa_cons (pv 3) pa_nil)))))))),
    (rs_seq (rs_parT (is := [2, 3]) (rps_cons (rp_v rd_int) (rps_cons (rp_v rd_int) rps_nil)))
      (rs_seq (rs_for (ri_seq (rd_crowd T.sale rd_var)) rg_name (rs_set (rd_op os_mul rd_var (rd_call (rd_cons rd_var rd_nil)))))
      (rs_seq (rs_for (ri_enum (rd_call (rd_cons rd_var rd_nil))) (rg_tup (rg_cons rg_name (rg_cons rg_name rg_nil))) (rs_seq (rs_set rd_int)
      (rs_seq (rs_for (ri_enum rd_var) (rg_tup (rg_cons rg_name (rg_cons rg_name rg_nil))) (rs_set (rd_op os_mul rd_var (rd_op os_ix (rd_op os_ix (rd_op os_ix (rd_crowd T.sale rd_var) rd_var) rd_var) rd_int))))
      (rs_aug (rd_op os_mul rd_var (rd_b cs_sum (rd_cons (rd_op os_ix (rd_op os_ix rd_var rd_var) rd_int) rd_nil)))))))
      (rs_ret (rd_call (rd_cons rd_var (rd_cons rd_var rd_nil)))))))⟩
  exact key
theorem ok_takings (T : Tx B mg) : FnOk P w B.K mg base (L2.CX P w) 5 T.D_takings.f T.D_takings.d P_takings (spX B 2 f_takings) := by
  have G_need_sale := ok_need_sale (P := P) (w := w) (base := base) T
  have G_need_rule := ok_need_rule (P := P) (w := w) (base := base) T
  have G_takings_of := ok_takings_of (P := P) (w := w) (base := base) T
  have key : FnOk P w B.K mg base (L2.CX P w) 5 T.D_takings.f T.D_takings.d P_takings (spX B P_takings.length (runD P_takings.length N_takings.length b_takings)) := fnx_ok (B := B) (W := []) (k := 4) (body := b_takings) T.D_takings.F sc_takings (by rfl) fun cdv A outer s H E hr => ⟨_, (pss_cons (ps_nox (ps_expr (pe_call G_need_sale (hr.mono (by decide)) (by rfl) T.D_need_sale.m T.D_need_sale.k T.D_need_sale.b .nil pass0 (pa_cons (pv 0) pa_nil))))
      (pss_cons (ps_expr (pe_callS G_need_rule (hr.mono (by decide)) (by rfl) T.D_need_rule.m T.D_need_rule.k T.D_need_rule.b (fun σ => passAt (takes_of rfl rfl rfl rfl) σ) (pa_cons (PE.nox (pv 0)) (pa_cons (PE.nox (pv 1)) pa_nil))))
      (pss_one (ps_nox (ps_ret (pe_call G_takings_of (hr.mono (by decide)) (by rfl) T.D_takings_of.m T.D_takings_of.k T.D_takings_of.b .nil pass0 (pa_cons (pv 0) (pa_cons (pv 1) pa_nil)))))))),
    (rs_seq (rs_q (rs_do (rd_call (rd_cons rd_var rd_nil))))
      (rs_seq (rs_do (rd_callS (rd_cons (rd_q rd_var) (rd_cons (rd_q rd_var) rd_nil))))
      (rs_q (rs_ret (rd_call (rd_cons rd_var (rd_cons rd_var rd_nil)))))))⟩
  exact key
theorem ok__law_refused (T : Tx B mg) : FnOk P w B.K mg base CX0 6 T.D__law_refused.f T.D__law_refused.d P__law_refused (spD B 3 f__law_refused) := by
  have G_flaw := ok_flaw (P := P) (w := w) (base := base) T
  have G_takings := ok_takings (P := P) (w := w) (base := base) T
  have key : FnOk P w B.K mg base CX0 6 T.D__law_refused.f T.D__law_refused.d P__law_refused (spD B P__law_refused.length (runD P__law_refused.length N__law_refused.length b__law_refused)) := fn_ok (B := B) (W := []) (k := 5) (body := b__law_refused) T.D__law_refused.F sc__law_refused (by rfl) fun cdv A outer s H E hr => ⟨_, (pss_cons (ps_set (i := 3) sc__law_refused.nd rfl (by first | exact Or.inl rfl | exact Or.inr rfl) pe_bl)
      (pss_cons (ps_try_mix rfl rfl takes0 (fun Wx pn xe tk _ => (pss_one (ps_expr (pe_pick (Tb := tabX B 2 [("flaw", f_flaw), ("takings", f_takings)]) (k := 5) (PE.nox (pe_ix ix_seq (pe_lst (pa_cons (pe_glob (v := .ref (B.xc "flaw")) (by rfl) T.gf_flaw rfl) (pa_cons (pe_glob (v := .ref (B.xc "takings")) (by rfl) T.gf_takings rfl) pa_nil))) (pv 0) (fun _ _ => rfl))) (tabX_cons G_flaw (by decide) T.D_flaw.k T.D_flaw.b T.xa_flaw (tabX_cons G_takings (by decide) T.D_takings.k T.D_takings.b T.xa_takings tabX_nil)) (hr.mono (by decide)) (fun σ => passAt tk σ) (pa_cons (PE.nox (pv 1)) (pa_cons (PE.nox (pv 2)) pa_nil)))))) (.bare ⟨by rfl, by decide, .inl T.c_BadRule⟩ (fun a oe cls dd pn _ _ => (pss_one (ps_set (i := 3) sc__law_refused.nd rfl (by first | exact Or.inl rfl | exact Or.inr rfl) pe_bl))) .nil))
      (pss_one (ps_ret (pv 3))))),
    (rs_seq (rs_set rd_bl)
      (rs_seq (rs_tryP T.exm (fun E => (rd_q (rd_op os_ix (rd_lst (rd_cons (rd_c fun _ _ => .fn "flaw") (rd_cons (rd_c fun _ _ => .fn "takings") rd_nil))) rd_var))) (fun E => (rd_cons (rd_q rd_var) (rd_cons (rd_q rd_var) rd_nil))) (.cons (rh_s (rs_set rd_bl)) .nil))
      (rs_ret rd_var)))⟩
  exact key
theorem ok_law (T : Tx B mg) (hl : ∀ ns : List Int, ns.length ≤ 63 → ∃ s', b_law (lawEn N_law.length) ⟨ns, 0, 605, 0⟩ = .ok (.ret (.bl true)) s') : FnOk P w B.K mg base CX0 9 T.D_law.f T.D_law.d P_law (spLaw B.K) := by
  have G__law_parts := ok__law_parts (P := P) (w := w) (base := base) T
  have G__law_sale := ok__law_sale (P := P) (w := w) (base := base) T
  have G_rule_of := ok_rule_of (P := P) (w := w) (base := base) T
  have G__law_taken := ok__law_taken (P := P) (w := w) (base := base) T
  have G_is_rule := ok_is_rule (P := P) (w := w) (base := base) T
  have G__law_is_rule := ok__law_is_rule (P := P) (w := w) (base := base) T
  have G__law_refused := ok__law_refused (P := P) (w := w) (base := base) T
  exact law_ok (B := B) (W := [6, 15]) (k := 8) (seed := 605) (body := b_law) T.D_law.F sc_law (by decide) rfl (by decide) (fun cdv A outer s H E hr => ⟨_, pss_cons (ps_set (i := 1) sc_law.nd rfl (by first | exact Or.inl rfl | exact Or.inr rfl) (pe_lst (pa_cons (pv 0) (pa_cons pe_int (pa_cons pe_int (pa_cons pe_int pa_nil))))))
      (pss_cons (ps_set (i := 2) sc_law.nd rfl (by first | exact Or.inl rfl | exact Or.inr rfl) (pe_call G__law_parts (hr.mono (by decide)) (by rfl) T.D__law_parts.m T.D__law_parts.k T.D__law_parts.b .nil pass0 (pa_cons (pv 1) (pa_cons pe_int (pa_cons pe_int pa_nil)))))
      (pss_cons (ps_set (i := 3) sc_law.nd rfl (by first | exact Or.inl rfl | exact Or.inr rfl) (pe_call G__law_sale (hr.mono (by decide)) (by rfl) T.D__law_sale.m T.D__law_sale.k T.D__law_sale.b .nil pass0 (pa_cons (pv 2) pa_nil)))
      (pss_cons (ps_set (i := 4) sc_law.nd rfl (by first | exact Or.inl rfl | exact Or.inr rfl) (pe_callTy call_list_of (by rfl) T.n_list (by decide +kernel) (pa_cons (pe_call G_rule_of (hr.mono (by decide)) (by rfl) T.D_rule_of.m T.D_rule_of.k T.D_rule_of.b .nil pass0 (pa_cons (pv 3) pa_nil)) pa_nil)))
      (pss_cons (ps_for PassesOwn.never rfl (pi_range1 (by rfl) T.n_range (pa_cons pe_int pa_nil)) (pg_name (i := 5) sc_law.nd rfl (by first | exact Or.inl rfl | exact Or.inr rfl)) (pss_cons (ps_par3 (i := 6) (j := 7) (l := 8) (by rfl) sc_law.nd rfl rfl rfl (by decide) (by decide) (by decide) rfl rfl rfl (pa_cons (pe_callTy call_list_of (by rfl) T.n_list (by decide +kernel) (pa_cons (pv 4) pa_nil)) (pa_cons (pe_call G__law_taken (hr.mono (by decide)) (by rfl) T.D__law_taken.m T.D__law_taken.k T.D__law_taken.b .nil pass0 (pa_cons (pv 1) (pa_cons (pe_callB call_len (by rfl) T.n_len (by decide +kernel) (pa_cons (pv 4) pa_nil)) pa_nil))) (pa_cons (pe_call G__law_taken (hr.mono (by decide)) (by rfl) T.D__law_taken.m T.D__law_taken.k T.D__law_taken.b .nil pass0 (pa_cons (pv 1) (pa_cons pe_int pa_nil))) pa_nil))) (by rfl))
      (pss_cons (ps_asg (pe_ix ix_seq (pv 6) (pv 7) (fun _ _ => rfl)) (pg_tl rfl (pgs_cons (pg_name (i := 9) sc_law.nd rfl (by first | exact Or.inl rfl | exact Or.inr rfl)) (pgs_cons (pg_name (i := 10) sc_law.nd rfl (by first | exact Or.inl rfl | exact Or.inr rfl)) (pgs_cons (pg_name (i := 11) sc_law.nd rfl (by first | exact Or.inl rfl | exact Or.inr rfl)) pgs_nil)))))
      (pss_cons (ps_set (i := 12) sc_law.nd rfl (by first | exact Or.inl rfl | exact Or.inr rfl) (pe_lst (pa_cons pe_non (pa_cons pe_bl (pa_cons pe_int (pa_cons pe_int (pa_cons pe_str (pa_cons (pe_un un_neg pe_int) (pa_cons (pe_op op_pow pe_int pe_int) (pa_cons (pe_op op_addU (pe_op op_pow pe_int pe_int) pe_int) (pa_cons (pe_un un_neg (pe_op op_pow pe_int pe_int)) (pa_cons (pe_tup pa_nil) (pa_cons pe_bl pa_nil)))))))))))))
      (pss_cons (ps_set (i := 13) sc_law.nd rfl (by first | exact Or.inl rfl | exact Or.inr rfl) (pe_ix ix_seq (pv 12) (pe_call G__law_taken (hr.mono (by decide)) (by rfl) T.D__law_taken.m T.D__law_taken.k T.D__law_taken.b .nil pass0 (pa_cons (pv 1) (pa_cons (pe_callB call_len (by rfl) T.n_len (by decide +kernel) (pa_cons (pv 12) pa_nil)) pa_nil))) (fun _ _ => rfl)))
      (pss_cons (ps_set (i := 14) sc_law.nd rfl (by first | exact Or.inl rfl | exact Or.inr rfl) (pe_call G__law_taken (hr.mono (by decide)) (by rfl) T.D__law_taken.m T.D__law_taken.k T.D__law_taken.b .nil pass0 (pa_cons (pv 1) (pa_cons (pe_callB call_len (by rfl) T.n_len (by decide +kernel) (pa_cons (pv 9) pa_nil)) pa_nil))))
      (pss_cons (ps_set (i := 15) sc_law.nd rfl (by first | exact Or.inl rfl | exact Or.inr rfl) (pe_lst (pa_cons (pe_tup (pa_cons (pv 9) (pa_cons (pv 10) (pa_cons (pe_op op_addU (pe_op op_addU (pe_slice sl_U (pv 11) po_none (po_some (pv 14))) (pe_tup (pa_cons (pv 13) pa_nil))) (pe_slice sl_U (pv 11) (po_some (pe_op op_addU (pv 14) pe_int)) po_none)) pa_nil)))) pa_nil)))
      (pss_cons (ps_expr (pe_bm PySem.F.plainAttrs_list PySem.F.slot_list_append PySem.F.type_list_append mt_append (pv 15) (pa_cons (pe_tup (pa_cons (pv 9) (pa_cons (pe_op op_addU (pe_op op_addU (pe_slice sl_U (pv 10) po_none (po_some (pv 14))) (pe_tup (pa_cons (pv 13) pa_nil))) (pe_slice sl_U (pv 10) (po_some (pe_op op_addU (pv 14) pe_int)) po_none)) (pa_cons (pv 11) pa_nil)))) pa_nil)))
      (pss_cons (ps_expr (pe_bm PySem.F.plainAttrs_list PySem.F.slot_list_append PySem.F.type_list_append mt_append (pv 15) (pa_cons (pe_tup (pa_cons (pe_op op_addU (pe_op op_addU (pe_slice sl_U (pv 9) po_none (po_some (pv 14))) (pe_tup (pa_cons (pv 13) pa_nil))) (pe_slice sl_U (pv 9) (po_some (pe_op op_addU (pv 14) pe_int)) po_none)) (pa_cons (pv 10) (pa_cons (pv 11) pa_nil)))) pa_nil)))
      (pss_cons (ps_set (i := 15) sc_law.nd rfl (by first | exact Or.inl rfl | exact Or.inr rfl) (pe_op op_addU (pv 15) (pe_lst (pa_cons (pe_tup (pa_cons (pv 9) (pa_cons (pe_op op_mulU (pe_tup (pa_cons pe_bl pa_nil)) (pe_callB call_len (by rfl) T.n_len (by decide +kernel) (pa_cons (pv 9) pa_nil))) (pa_cons (pv 11) pa_nil)))) (pa_cons (pe_tup (pa_cons (pv 9) (pa_cons (pv 10) (pa_cons (pe_op op_addU (pv 11) (pe_tup (pa_cons pe_int pa_nil))) pa_nil)))) (pa_cons (pe_tup (pa_cons (pv 9) (pa_cons (pe_callTy call_list_of (by rfl) T.n_list (by decide +kernel) (pa_cons (pv 10) pa_nil)) (pa_cons (pv 11) pa_nil)))) pa_nil))))))
      (pss_cons (ps_set (i := 15) sc_law.nd rfl (by first | exact Or.inl rfl | exact Or.inr rfl) (pe_op op_addU (pv 15) (pe_lst (pa_cons pe_non (pa_cons (pe_tup pa_nil) (pa_cons (pe_tup (pa_cons (pv 9) (pa_cons (pv 10) pa_nil))) pa_nil))))))
      (pss_cons (ps_if (pt_cmpR (op_eqD hr.units) (pv 8) pe_int (nomark _)) (pss_one (ps_set (i := 6) sc_law.nd rfl (by first | exact Or.inl rfl | exact Or.inr rfl) (pe_op op_addU (pe_slice sl_U (pv 6) po_none (po_some (pv 7))) (pe_slice sl_U (pv 6) (po_some (pe_op op_addU (pv 7) pe_int)) po_none)))) (pss_one (ps_if (pt_cmpR (op_eqD hr.units) (pv 8) pe_int (nomark _)) (pss_one (ps_set (i := 6) sc_law.nd rfl (by first | exact Or.inl rfl | exact Or.inr rfl) (pe_revU (pv 6)))) (pss_one (ps_if (pt_cmpR (op_eqD hr.units) (pv 8) pe_int (nomark _)) (pss_one (ps_set (i := 6) sc_law.nd rfl (by first | exact Or.inl rfl | exact Or.inr rfl) (pe_op op_addU (pv 6) (pe_slice sl_U (pv 6) po_none (po_some (pe_op op_addU pe_int (pe_op op_mod (pv 7) pe_int))))))) (pss_one (ps_if (pt_cmpR op_lt (pv 8) pe_int (nomark _)) (pss_one (ps_asg (pe_ix ix_seq (pv 15) (pe_call G__law_taken (hr.mono (by decide)) (by rfl) T.D__law_taken.m T.D__law_taken.k T.D__law_taken.b .nil pass0 (pa_cons (pv 1) (pa_cons (pe_callB call_len (by rfl) T.n_len (by decide +kernel) (pa_cons (pv 15) pa_nil)) pa_nil))) (fun _ _ => rfl)) (pg_sub (pv 6) (pv 7) set_list))) pss_nil)))))))
      (pss_cons (ps_set (i := 16) sc_law.nd rfl (by first | exact Or.inl rfl | exact Or.inr rfl) (pe_callTy call_tuple_of (by rfl) T.n_tuple (by decide +kernel) (pa_cons (pv 6) pa_nil)))
      (pss_cons (ps_set (i := 17) sc_law.nd rfl (by first | exact Or.inl rfl | exact Or.inr rfl) (pe_call G_is_rule (hr.mono (by decide)) (by rfl) T.D_is_rule.m T.D_is_rule.k T.D_is_rule.b .nil pass0 (pa_cons (pv 3) (pa_cons (pv 16) pa_nil))))
      (pss_cons (ps_if (PW.pt (pw_or (pt_not (pt_val (pe_callB call_isi (by rfl) T.n_isinstance (by decide +kernel) (pa_cons (pv 17) (pa_cons (pe_bltn (v := .ty "bool") (by rfl) T.n_bool (by decide +kernel) rfl) pa_nil))))) (pw_or1 (pt_cmpR (op_neD hr.units) (pv 17) (pe_call G__law_is_rule (hr.mono (by decide)) (by rfl) T.D__law_is_rule.m T.D__law_is_rule.k T.D__law_is_rule.b .nil pass0 (pa_cons (pv 2) (pa_cons (pv 16) pa_nil))) (nomark _))))) (pss_one (ps_ret pe_bl)) pss_nil)
      (pss_one (ps_if (pt_cmpR (op_eqD hr.units) (pe_call G__law_refused (hr.mono (by decide)) (by rfl) T.D__law_refused.m T.D__law_refused.k T.D__law_refused.b .nil pass0 (pa_cons (pe_call G__law_taken (hr.mono (by decide)) (by rfl) T.D__law_taken.m T.D__law_taken.k T.D__law_taken.b .nil pass0 (pa_cons (pv 1) (pa_cons pe_int pa_nil))) (pa_cons (pv 3) (pa_cons (pv 16) pa_nil)))) (pv 17) (nomark _)) (pss_one (ps_ret pe_bl)) pss_nil)))))))))))))))))
      (pss_cons (ps_set (i := 12) sc_law.nd rfl (by first | exact Or.inl rfl | exact Or.inr rfl) (pe_lst (pa_cons pe_non (pa_cons (pe_tup pa_nil) (pa_cons (pv 4) (pa_cons pe_str (pa_cons pe_int (pa_cons pe_dnewK (pa_cons (pe_op op_mulU (pe_tup (pa_cons pe_non pa_nil)) (pe_callB call_len (by rfl) T.n_len (by decide +kernel) (pa_cons (pv 4) pa_nil))) pa_nil)))))))))
      (pss_cons (ps_set (i := 18) sc_law.nd rfl (by first | exact Or.inl rfl | exact Or.inr rfl) (pe_ix ix_seq (pv 12) (pe_call G__law_taken (hr.mono (by decide)) (by rfl) T.D__law_taken.m T.D__law_taken.k T.D__law_taken.b .nil pass0 (pa_cons (pv 1) (pa_cons (pe_callB call_len (by rfl) T.n_len (by decide +kernel) (pa_cons (pv 12) pa_nil)) pa_nil))) (fun _ _ => rfl)))
      (pss_one (ps_ret (pe_and (pe_not (pe_call G_is_rule (hr.mono (by decide)) (by rfl) T.D_is_rule.m T.D_is_rule.k T.D_is_rule.b .nil pass0 (pa_cons (pv 3) (pa_cons (pv 18) pa_nil)))) (pe_one (pe_call G__law_refused (hr.mono (by decide)) (by rfl) T.D__law_refused.m T.D__law_refused.k T.D__law_refused.b .nil pass0 (pa_cons (pe_call G__law_taken (hr.mono (by decide)) (by rfl) T.D__law_taken.m T.D__law_taken.k T.D__law_taken.b .nil pass0 (pa_cons (pv 1) (pa_cons pe_int pa_nil))) (pa_cons (pv 3) (pa_cons (pv 18) pa_nil)))))))))))))),
    (rs_seq (rs_set (rd_call (rd_cons rd_var (rd_cons rd_int (rd_cons rd_int rd_nil)))))
      (rs_seq (rs_set (rd_call (rd_cons rd_var rd_nil)))
      (rs_seq (rs_set (rd_b cs_list (rd_cons (rd_call (rd_cons rd_var rd_nil)) rd_nil)))
      (rs_seq (rs_for (ri_r1 (rd_cons rd_int rd_nil)) rg_name (rs_seq (rs_par3 (rps_cons (rp_n (rl_list (rd_cons rd_var rd_nil))) (rps_cons (rp_v (rd_call (rd_cons rd_var (rd_cons (rd_b cs_len (rd_cons rd_var rd_nil)) rd_nil)))) (rps_cons (rp_v (rd_call (rd_cons rd_var (rd_cons rd_int rd_nil)))) rps_nil))))
      (rs_seq (rs_asg (rd_ixO rd_var) (rg_tup (rg_cons rg_name (rg_cons rg_name (rg_cons rg_name rg_nil)))))
      (rs_seq (rs_set (rd_lst (rd_cons rd_non (rd_cons rd_bl (rd_cons rd_int (rd_cons rd_int (rd_cons rd_str (rd_cons (rd_un us_neg rd_int) (rd_cons (rd_op os_pow rd_int rd_int) (rd_cons (rd_op os_add (rd_op os_pow rd_int rd_int) rd_int) (rd_cons (rd_un us_neg (rd_op os_pow rd_int rd_int)) (rd_cons (rd_tup rd_nil) (rd_cons rd_bl rd_nil)))))))))))))
      (rs_seq (rs_set (rd_op os_ix rd_var (rd_call (rd_cons rd_var (rd_cons (rd_b cs_len (rd_cons rd_var rd_nil)) rd_nil)))))
      (rs_seq (rs_set (rd_call (rd_cons rd_var (rd_cons (rd_b cs_len (rd_cons rd_var rd_nil)) rd_nil))))
      (rs_seq (rs_own (rl_lst (rd_cons (rd_tup (rd_cons rd_var (rd_cons rd_var (rd_cons (rd_op os_add (rd_op os_add (rd_sl rd_var ro_no (ro_part rd_var)) (rd_tup (rd_cons rd_var rd_nil))) (rd_sl rd_var (ro_part (rd_op os_add rd_var rd_int)) ro_no)) rd_nil)))) rd_nil)))
      (rs_seq (rs_app (rd_tup (rd_cons rd_var (rd_cons (rd_op os_add (rd_op os_add (rd_sl rd_var ro_no (ro_part rd_var)) (rd_tup (rd_cons rd_var rd_nil))) (rd_sl rd_var (ro_part (rd_op os_add rd_var rd_int)) ro_no)) (rd_cons rd_var rd_nil)))))
      (rs_seq (rs_app (rd_tup (rd_cons (rd_op os_add (rd_op os_add (rd_sl rd_var ro_no (ro_part rd_var)) (rd_tup (rd_cons rd_var rd_nil))) (rd_sl rd_var (ro_part (rd_op os_add rd_var rd_int)) ro_no)) (rd_cons rd_var (rd_cons rd_var rd_nil)))))
      (rs_seq (rs_own (rl_addO (rd_lst (rd_cons (rd_tup (rd_cons rd_var (rd_cons (rd_op os_mul (rd_tup (rd_cons rd_bl rd_nil)) (rd_b cs_len (rd_cons rd_var rd_nil))) (rd_cons rd_var rd_nil)))) (rd_cons (rd_tup (rd_cons rd_var (rd_cons rd_var (rd_cons (rd_op os_add rd_var (rd_tup (rd_cons rd_int rd_nil))) rd_nil)))) (rd_cons (rd_tup (rd_cons rd_var (rd_cons (rd_b cs_list (rd_cons rd_var rd_nil)) (rd_cons rd_var rd_nil)))) rd_nil))))))
      (rs_seq (rs_own (rl_addO (rd_lst (rd_cons rd_non (rd_cons (rd_tup rd_nil) (rd_cons (rd_tup (rd_cons rd_var (rd_cons rd_var rd_nil))) rd_nil))))))
      (rs_seq (rs_if (rt_b (rd_op os_eq rd_var rd_int)) (rs_own (rl_addE (rd_slO ro_no (ro_part rd_var)) (rd_slO (ro_part (rd_op os_add rd_var rd_int)) ro_no))) (rs_if (rt_b (rd_op os_eq rd_var rd_int)) (rs_own rl_revO) (rs_if (rt_b (rd_op os_eq rd_var rd_int)) (rs_own (rl_addO (rd_slO ro_no (ro_part (rd_op os_add rd_int (rd_op os_mod rd_var rd_int)))))) (rs_if (rt_b (rd_op os_lt rd_var rd_int)) (rs_put (rd_ixO (rd_call (rd_cons rd_var (rd_cons (rd_peek (i := 15) (W' := [6]) (by rfl) (rd_b cs_len (rd_cons rd_var rd_nil))) rd_nil)))) rd_var) rs_next))))
      (rs_seq (rs_set rd_tupO)
      (rs_seq (rs_set (rd_call (rd_cons rd_var (rd_cons rd_var rd_nil))))
      (rs_seq (rs_if (rt_or (rt_not (rt_b (rd_isi rd_var))) (rt_b (rd_op os_ne rd_var (rd_call (rd_cons rd_var (rd_cons rd_var rd_nil)))))) (rs_ret rd_bl) rs_next)
      (rs_if (rt_b (rd_op os_eq (rd_call (rd_cons (rd_call (rd_cons rd_var (rd_cons rd_int rd_nil))) (rd_cons rd_var (rd_cons rd_var rd_nil)))) rd_var)) (rs_ret rd_bl) rs_next))))))))))))))))
      (rs_seq (rs_set (rd_lst (rd_cons rd_non (rd_cons (rd_tup rd_nil) (rd_cons rd_var (rd_cons rd_str (rd_cons rd_int (rd_cons rd_dic0 (rd_cons (rd_op os_mul (rd_tup (rd_cons rd_non rd_nil)) (rd_b cs_len (rd_cons rd_var rd_nil))) rd_nil)))))))))
      (rs_seq (rs_set (rd_op os_ix rd_var (rd_call (rd_cons rd_var (rd_cons (rd_b cs_len (rd_cons rd_var rd_nil)) rd_nil)))))
      (rs_ret (rd_andV (rd_notV (rd_call (rd_cons rd_var (rd_cons rd_var rd_nil)))) (rd_call (rd_cons (rd_call (rd_cons rd_var (rd_cons rd_int rd_nil))) (rd_cons rd_var (rd_cons rd_var rd_nil))))))))))))⟩) hl
end
theorem common_w (n : Nat) : ∀ (a b : D) (g l : Int) (s : S), 0 ≤ g → 0 ≤ l → l < n → whileN (cTst (cOp gGt (cVar 3) (cC (.int 0)))) (cPar (pCons [] 2 (cV (cVar 3)) (pCons [] 3 (cV (cOp gMod (cVar 2) (cVar 3))) pNil))) n [some a, some b, some (.int g), some (.int l)] s
    = .ok (.next [some a, some b, some (.int (Int.gcd g l)), some (.int 0)]) s := by
  induction n with
  | zero => intro a b g l s _ _ h; omega
  | succ n ih =>
    intro a b g l s hg h0 h
    by_cases hl : 0 < l
    · have e : gMod (.int g) (.int l) = some (.int (g % l)) := g_mod hl
      simp only [whileN, e_tst, e_op, e_var, e_c, e_par, e_pcons, e_pnil, e_cV, pc_v, List.getElem?_cons_succ, List.getElem?_cons_zero, Option.join_some, lift_some, bind_ok, g_gt, g_asB, decide_eq_true hl, if_true, e, List.not_mem_nil, if_false, List.set_cons_succ, List.set_cons_zero]
      rw [ih a b l (g % l) s (by omega) (Int.emod_nonneg _ (by omega)) (by have := Int.emod_lt_of_pos g hl; omega), gcd_em]
    · have : l = 0 := by omega
      subst this
      simp [whileN]
      omega
theorem common_is {a b : Int} (s : S) : f_common [.int a, .int b] s = .ok (.int (Int.gcd a b)) s := by
  rw [u_common]
  unfold b_common
  have := common_w (b.natAbs + 1) (.int a) (.int b) (a.natAbs : Int) (b.natAbs : Int) s (by omega) (by omega) (by omega)
  simp [fuelI]
  rw [this]
  simp [Int.gcd]
theorem made_is {a b : Int} (s : S) (hb : 0 < b) (hz : Bd 8000 b) : f_made [.int a, .int b] s = .ok (frD (Rat.divInt a b)) s := by
  have hg : 0 < (Int.gcd a b : Int) := by
    have := Int.gcd_pos_of_ne_zero_right a (show b ≠ 0 by omega)
    omega
  have hle : (Int.gcd a b : Int) ≤ b := by
    have := Int.gcd_dvd_right a b
    exact Int.le_of_dvd hb this
  have hgz : Bd 8000 (Int.gcd a b : Int) := by unfold Bd at *; omega
  rw [u_made]
  unfold b_made
  simp [common_is, g_fdiv hg hgz (show 8000 < 9000 by decide), frD, q_num hb, q_den hb]

/-! ### buyers and their stairs -/
abbrev P2 := Int × Int
def encB (x : P2) : D := .tup [.int x.1, .int x.2]
def buD (xs : List P2) : D := .tup (xs.map encB)
def tot (ys : List P2) : Int := (ys.map (·.2)).sum
structure VU (ys : List P2) : Prop where
  len1 : 1 ≤ ys.length
  len5 : ys.length ≤ 5
  ok : ∀ y ∈ ys, 0 ≤ y.1 ∧ y.1 ≤ 1000000000 ∧ 1 ≤ y.2 ∧ y.2 ≤ 1000000000
  up : ys.Pairwise fun a b => a.1 < b.1
theorem sum_bd : ∀ (ys : List P2), (∀ y ∈ ys, 1 ≤ y.2 ∧ y.2 ≤ 1000000000) → (ys.length : Int) ≤ tot ys ∧ tot ys ≤ 1000000000 * ys.length
  | [], _ => by simp [tot]
  | y :: ys, h => by
    have ih := sum_bd ys fun z hz => h z (by simp [hz])
    have := h y (by simp)
    unfold tot at *
    simp; omega
theorem bd_of {x : Int} (h : -(2 ^ 40) < x ∧ x < 2 ^ 40) : Bd 40 x := by unfold Bd; omega
theorem is_from_is (v lo hi : Int) (s : S) : f_is_from [.int v, .int lo, .int hi] s = .ok (.bl (decide (lo ≤ v ∧ v ≤ hi))) s := by
  rw [u_is_from]; unfold b_is_from
  by_cases h : lo ≤ v <;> simp [h]
theorem is_pair_is {x : P2} (s : S) (h : 0 ≤ x.1 ∧ x.1 ≤ 1000000000 ∧ 1 ≤ x.2 ∧ x.2 ≤ 1000000000) : f_is_pair [encB x] s = .ok (.bl true) s := by
  rw [u_is_pair]; unfold b_is_pair encB
  have e1 : (decide (0 ≤ x.1 ∧ x.1 ≤ 1000000000)) = true := by simp; omega
  have e2 : (decide (1 ≤ x.2 ∧ x.2 ≤ 1000000000)) = true := by simp; omega
  simp [is_from_is, e1, e2]
theorem is_buyer_is {xs : List P2} (v : VU xs) (s : S) : f_is_buyer [buD xs] s = .ok (.bl true) s := by
  have l1 := v.len1
  have l5 := v.len5
  have hr : gR1 [.int ((xs.length : Int) - 1)] = some (upto 0 (xs.length - 1)) := by
    rw [show (xs.length : Int) - 1 = ((xs.length - 1 : Nat) : Int) by omega]
    exact g_r1 _ (by omega)
  have d1 : (1 : Int) ≤ xs.length := by omega
  have d5 : (xs.length : Int) ≤ 5 := by omega
  rw [u_is_buyer]; unfold b_is_buyer buD
  simp [d1, d5, show xs.length ≤ 100000 by omega]
  rw [comp_map (xs := xs) (enc := encB) (e := fun _ => .bl true)]
  · simp [hr, show xs.length - 1 ≤ 100000 by omega]
    rw [upto0, comp_map (e := fun _ => .bl true)]
    · simp
    · intro i hi
      refine ⟨_, rfl, fun s => ?_⟩
      have hi : i < xs.length - 1 := List.mem_range.mp hi
      have e1 : xs[i]? = some xs[i] := List.getElem?_eq_getElem (by omega)
      have e2 : xs[i + 1]? = some xs[i + 1] := List.getElem?_eq_getElem (by omega)
      have hlt := List.pairwise_iff_getElem.mp v.up i (i + 1) (by omega) (by omega) (by omega)
      have a1 : atI (xs.map encB) (i : Int) = some (encB xs[i]) := by rw [at_nat, List.getElem?_map, e1]; rfl
      have a2 : atI (xs.map encB) ((i : Int) + 1) = some (encB xs[i + 1]) := by
        rw [show (i : Int) + 1 = ((i + 1 : Nat) : Int) by omega, at_nat, List.getElem?_map, e2]; rfl
      simp [a1, a2, encB, hlt, -at_nat]
  · intro x hx
    exact ⟨_, rfl, fun s => by simp [is_pair_is s (v.ok x hx)]⟩

def stp : Int → List P2 → List P2
  | _, [] => []
  | b, y :: r => (b + y.2, y.1 * (b + y.2)) :: stp (b + y.2) r
def pts (ys : List P2) : List P2 := (0, 0) :: stp 0 ys.reverse
theorem tot_snoc (pre : List P2) (x : P2) : tot (pre ++ [x]) = tot pre + x.2 := by simp [tot]
theorem stp_snoc : ∀ (b : Int) (pre : List P2) (x : P2), stp b (pre ++ [x]) = stp b pre ++ [(b + tot pre + x.2, x.1 * (b + tot pre + x.2))]
  | b, [], x => by simp [stp, tot]
  | b, y :: r, x => by
    show _ :: stp (b + y.2) (r ++ [x]) = _ :: (stp (b + y.2) r ++ _)
    rw [stp_snoc (b + y.2) r x]
    have : b + tot (y :: r) = b + y.2 + tot r := by simp [tot]; omega
    rw [this]
theorem stp_len : ∀ (b : Int) (l : List P2), (stp b l).length = l.length
  | _, [] => rfl
  | b, y :: r => by simp [stp, stp_len]
theorem pts_len (ys : List P2) : (pts ys).length = ys.length + 1 := by simp [pts, stp_len]
theorem VU.pre {ys pre post : List P2} {x : P2} (v : VU ys) (e : ys.reverse = pre ++ x :: post) : pre.length ≤ 4 ∧ 0 ≤ tot pre ∧ tot pre ≤ 4000000000 ∧ 0 ≤ x.1 ∧ x.1 ≤ 1000000000 ∧ 1 ≤ x.2 ∧ x.2 ≤ 1000000000 := by
  have l5 := v.len5
  have hl := congrArg List.length e
  simp at hl
  have hm : ∀ y ∈ pre ++ x :: post, y ∈ ys := fun y hy => by rw [← e] at hy; simpa using hy
  have hx := v.ok x (hm x (by simp))
  have hs := sum_bd pre fun y hy => (v.ok y (hm y (by simp [hy]))).2.2
  refine ⟨by omega, by omega, by omega, hx⟩
theorem stair_is {ys : List P2} (v : VU ys) (s : S) : f_stair [buD ys] s = .ok (.lst ((pts ys).map encB)) s := by
  have key := for_inv (tg := tgTup 2 (tgCons (tgName 3) (tgCons (tgName 4) tgNil))) (F := l1_stair)
    (enc := encB) (xs := ys.reverse) (fun pre δ s' => s' = s ∧ ∃ d e, δ = [some (buD ys), some (.lst (((0, 0) :: stp 0 pre).map encB)), some (.int (tot pre)), d, e])
    (δ := [some (buD ys), some (.lst [encB (0, 0)]), some (.int 0), none, none]) (s := s) ⟨rfl, none, none, rfl⟩ ?_
  · obtain ⟨δ', s', h1, rfl, d, e, rfl⟩ := key
    rw [u_stair]; unfold b_stair
    simp [buD, List.map_reverse] at h1 ⊢
    simp [encB] at h1 ⊢
    rw [h1]; simp [pts, encB]
  · rintro pre x post δ s' e ⟨rfl, d, f, rfl⟩
    have hp := v.pre e
    refine ⟨_, [some (buD ys), some (.lst (((0, 0) :: stp 0 (pre ++ [x])).map encB)), some (.int (tot (pre ++ [x]))), some (.int x.1), some (.int x.2)], s', rfl, ?_, rfl, _, _, rfl⟩
    unfold l1_stair
    have m := g_mul (bd_of (x := x.1) (by omega)) (bd_of (x := tot pre + x.2) (by omega)) (by decide)
    simp [m, stp_len, show pre.length + 1 < 100000 by omega, stp_snoc, tot_snoc, encB]

/-! ### lines above points, in plain numbers -/
section
variable {x y : Nat → Rat} {n : Nat}
def slo (x y : Nat → Rat) (i j : Nat) : Rat := (y j - y i) / (x j - x i)
def und (x y : Nat → Rat) (i j k : Nat) : Prop := y k ≤ y i + slo x y i j * (x k - x i)
def Inc (x : Nat → Rat) (n : Nat) : Prop := ∀ i j, i < j → j ≤ n → x i < x j
theorem mulL {a b c : Rat} (h : a ≤ b) (hc : 0 ≤ c) : a * c ≤ b * c := Rat.mul_le_mul_of_nonneg_right h hc
theorem unmulL {a b c : Rat} (h : a * c ≤ b * c) (hc : 0 < c) : a ≤ b := Rat.not_lt.mp fun z => by
  have := Rat.mul_lt_mul_of_pos_right z hc
  exact absurd h (Rat.not_le.mpr this)
theorem slo_mul {i j : Nat} (h : x i < x j) : slo x y i j * (x j - x i) = y j - y i := by
  unfold slo
  have : x j - x i ≠ 0 := by grind
  rw [Rat.div_mul_cancel this]
theorem und_of {i j t : Nat} (h1 : x i < x j) (h2 : x j < x t) (h : slo x y j t ≤ slo x y i j) : und x y i j t := by
  have a := slo_mul (y := y) h1
  have b := slo_mul (y := y) h2
  have c := mulL (c := x t - x j) h (by grind)
  unfold und
  grind
theorem und_le {i j t : Nat} (h1 : x i < x j) (h2 : x j < x t) (h : und x y i j t) : slo x y j t ≤ slo x y i j := by
  have a := slo_mul (y := y) h1
  have b := slo_mul (y := y) h2
  refine unmulL (c := x t - x j) ?_ (by grind)
  unfold und at h
  grind
theorem und_left {s t p k : Nat} (h1 : x s < x t) (h2 : x t < x p) (hk : x k ≤ x t) (h : und x y s t k) (hs : slo x y t p ≤ slo x y s t) : und x y t p k := by
  have a := slo_mul (y := y) h1
  have c := mulL (c := x t - x k) hs (by grind)
  unfold und at *
  grind
theorem und_pop {s t p k : Nat} (h1 : x s < x t) (h2 : x t < x p) (hk : x s ≤ x k) (h : und x y s t k) (hs : slo x y s t ≤ slo x y t p) : und x y s p k := by
  have a := slo_mul (y := y) h1
  have b := slo_mul (y := y) h2
  have d := slo_mul (y := y) (show x s < x p by grind)
  have c := mulL (c := x p - x t) hs (by grind)
  have e : slo x y s t ≤ slo x y s p := unmulL (c := x p - x s) (by grind) (by grind)
  have f := mulL (c := x k - x s) e (by grind)
  unfold und at *
  grind
theorem und_down {r s t p : Nat} (h0 : x r < x s) (h1 : x s < x t) (h2 : x t < x p) (ha : und x y r s t) (hb : und x y s t p) : und x y r s p := by
  have e := und_le h0 h1 ha
  have a := slo_mul (y := y) h0
  have c := mulL (c := x p - x s) e (by grind)
  unfold und at *
  grind
theorem und_self {i j : Nat} (h : x i < x j) : und x y i j j ∧ und x y i j i := by
  have a := slo_mul (y := y) h
  unfold und
  exact ⟨by grind, by grind⟩
def LevOk (x y : Nat → Rat) (n p : Nat) (q : Rat) : Prop := ∃ i j, i ≤ p ∧ p < j ∧ j ≤ n ∧ q = slo x y i j ∧ ∀ k, k ≤ n → und x y i j k
theorem lev_mono {p p' : Nat} {q q' : Rat} (hx : Inc x n) (h : LevOk x y n p q) (h' : LevOk x y n p' q') (hp : p ≤ p') : q' ≤ q := by
  obtain ⟨i, j, a1, a2, a3, rfl, a4⟩ := h
  obtain ⟨k, l, b1, b2, b3, rfl, b4⟩ := h'
  have e1 := hx i l (by omega) b3
  have e2 := hx i j (by omega) a3
  have e3 := hx k l (by omega) b3
  have c1 := b4 i (by omega)
  have c2 := a4 l (by omega)
  have m1 := slo_mul (y := y) e2
  have m2 := slo_mul (y := y) e3
  refine unmulL (c := x l - x i) ?_ (by grind)
  unfold und at c1 c2
  grind
def MinMax (x y : Nat → Rat) (n p : Nat) (q : Rat) : Prop := (∃ a, a ≤ p ∧ ∀ b, p < b → b ≤ n → slo x y a b ≤ q) ∧ ∀ a, a ≤ p → ∃ b, p < b ∧ b ≤ n ∧ q ≤ slo x y a b
theorem minmax_eq {p : Nat} {q q' : Rat} (hx : Inc x n) (h : LevOk x y n p q) (h' : MinMax x y n p q') : q = q' := by
  obtain ⟨i, j, a1, a2, a3, rfl, a4⟩ := h
  obtain ⟨⟨a, b1, b2⟩, b3⟩ := h'
  have e2 := hx i j (by omega) a3
  have m1 := slo_mul (y := y) e2
  refine Rat.le_antisymm ?_ ?_
  · have := b2 j a2 a3
    have e3 := hx a j (by omega) a3
    have m2 := slo_mul (y := y) e3
    have c := a4 a (by omega)
    have : slo x y i j ≤ slo x y a j := by
      refine unmulL (c := x j - x a) ?_ (by grind)
      unfold und at c
      grind
    grind
  · obtain ⟨b, c1, c2, c3⟩ := b3 i a1
    have e3 := hx i b (by omega) c2
    have m2 := slo_mul (y := y) e3
    have c := a4 b c2
    have : slo x y i b ≤ slo x y i j := by
      refine unmulL (c := x b - x i) ?_ (by grind)
      unfold und at c
      grind
    grind
/-- a chain, its top first: every line of it lies above all points up to `at` -/
def Ch (x y : Nat → Rat) (m : Nat) : List Nat → Prop
  | [] => False
  | [t] => t = 0
  | t :: s :: r => s < t ∧ (∀ k, k ≤ m → und x y s t k) ∧ Ch x y m (s :: r)
theorem ch_up {m : Nat} (hx : Inc x n) (hm : m + 1 ≤ n) : ∀ {r : List Nat} {s t : Nat}, t ≤ m → Ch x y m (t :: s :: r) → und x y s t (m + 1) → Ch x y (m + 1) (t :: s :: r)
  | [], s, t, ht, ⟨h1, h2, h3⟩, h => ⟨h1, fun k hk => by
      rcases Nat.lt_or_ge m k with z | z
      · rw [show k = m + 1 by omega]; exact h
      · exact h2 k z, h3⟩
  | q :: r, s, t, ht, ⟨h1, h2, h3⟩, h => ⟨h1, fun k hk => by
      rcases Nat.lt_or_ge m k with z | z
      · rw [show k = m + 1 by omega]; exact h
      · exact h2 k z, ch_up hx hm (by omega) h3 (und_down (hx _ _ h3.1 (by omega)) (hx _ _ h1 (by omega)) (hx _ _ (show t < m + 1 by omega) hm) (h3.2.1 t ht) h)⟩
theorem ch_add {m : Nat} (hx : Inc x n) (hm : m + 1 ≤ n) {t : Nat} {r : List Nat} (ht : t ≤ m) (hc : Ch x y m (t :: r)) (h2 : ∀ k, k ≤ m → t < k → und x y t (m + 1) k)
    (hb : ∀ s r', r = s :: r' → slo x y t (m + 1) < slo x y s t) : Ch x y (m + 1) ((m + 1) :: t :: r) := by
  have htp := hx t (m + 1) (by omega) hm
  refine ⟨by omega, fun k hk => ?_, ?_⟩
  · rcases Nat.lt_or_ge m k with z | z
    · rw [show k = m + 1 by omega]; exact (und_self htp).1
    · rcases Nat.lt_trichotomy t k with w | w | w
      · exact h2 k z w
      · subst w; exact (und_self htp).2
      · cases r with
        | nil => have : t = 0 := hc; omega
        | cons s r =>
          exact und_left (hx _ _ hc.1 (by omega)) htp (Rat.le_of_lt (hx k t w (by omega))) (hc.2.1 k z) (Rat.le_of_lt (hb s r rfl))
  · cases r with
    | nil => exact hc
    | cons s r => exact ch_up hx hm ht hc (und_of (hx _ _ hc.1 (by omega)) htp (Rat.le_of_lt (hb s r rfl)))
end

/-! ### the stair's points -/
def pz (zs : List P2) (i : Nat) : P2 := zs.getD i (0, 0)
def xq (zs : List P2) (i : Nat) : Rat := ((pz zs i).1 : Rat)
def yq (zs : List P2) (i : Nat) : Rat := ((pz zs i).2 : Rat)
structure Pz (zs : List P2) (n : Nat) : Prop where
  len : zs.length = n + 1
  n1 : 1 ≤ n
  n5 : n ≤ 5
  ok : ∀ i, i ≤ n → 0 ≤ (pz zs i).1 ∧ (pz zs i).1 ≤ 5000000000 ∧ 0 ≤ (pz zs i).2 ∧ (pz zs i).2 ≤ 309485009821345068724781056
  up : ∀ i j, i < j → j ≤ n → (pz zs i).1 < (pz zs j).1
section
variable {zs : List P2} {n : Nat}
theorem Pz.inc (h : Pz zs n) : Inc (xq zs) n := fun i j a b => by
  unfold xq
  exact Rat.intCast_lt_intCast.mpr (h.up i j a b)
theorem Pz.at (h : Pz zs n) {i : Nat} (hi : i ≤ n) : (zs.map encB)[i]? = some (encB (pz zs i)) := by
  have := h.len
  rw [List.getElem?_map, List.getElem?_eq_getElem (by omega)]
  unfold pz; simp [List.getD_eq_getElem?_getD, show i < zs.length by omega]
abbrev sq (zs : List P2) (i j : Nat) : Rat := slo (xq zs) (yq zs) i j
theorem sq_eq (zs : List P2) (i j : Nat) : Rat.divInt ((pz zs j).2 - (pz zs i).2) ((pz zs j).1 - (pz zs i).1) = sq zs i j := by
  rw [Rat.divInt_eq_div]
  unfold sq slo xq yq
  rw [Rat.intCast_sub, Rat.intCast_sub]
theorem q_bd {a b : Int} (hb : 0 < b) (ha : Bd 90 a) (hb2 : b < 2 ^ 40) : Bd 400000 (Rat.divInt a b).num ∧ Bd 400000 ((Rat.divInt a b).den : Int) ∧ ((Rat.divInt a b).den : Int) < 2 ^ 40 ∧ Bd 90 (Rat.divInt a b).num := by
  rw [q_num hb, q_den hb]
  have hd : b / (Int.gcd a b : Int) ≤ b := Int.ediv_le_self _ (by omega)
  have hd0 : 0 ≤ b / (Int.gcd a b : Int) := Int.ediv_nonneg (by omega) (by omega)
  have z : Bd 90 (a / (Int.gcd a b : Int)) := by
    unfold Bd at *
    exact Nat.lt_of_le_of_lt (Int.natAbs_ediv_le_natAbs _ _) ha
  refine ⟨z.mono (by decide), ?_, by omega, z⟩
  refine Bd.mono (n := 40) ?_ (by decide)
  unfold Bd at *
  omega
theorem Pz.dif (h : Pz zs n) {i j : Nat} (hij : i < j) (hj : j ≤ n) : 0 < (pz zs j).1 - (pz zs i).1 ∧ (pz zs j).1 - (pz zs i).1 < 2 ^ 40 ∧ Bd 90 ((pz zs j).2 - (pz zs i).2) := by
  have a := h.ok i (by omega)
  have b := h.ok j hj
  have c := h.up i j hij hj
  exact ⟨by omega, by omega, by unfold Bd; omega⟩
theorem Pz.bd (h : Pz zs n) {i j : Nat} (hij : i < j) (hj : j ≤ n) : Bd 400000 (sq zs i j).num ∧ Bd 400000 ((sq zs i j).den : Int) ∧ ((sq zs i j).den : Int) < 2 ^ 40 ∧ Bd 90 (sq zs i j).num := by
  have d := h.dif hij hj
  rw [← sq_eq]
  exact q_bd d.1 d.2.2 d.2.1
theorem slope_is (h : Pz zs n) {i j : Nat} (hij : i < j) (hj : j ≤ n) (s : S) : f_slope [encB (pz zs i), encB (pz zs j)] s = .ok (frD (sq zs i j)) s := by
  have d := h.dif hij hj
  have m := made_is (a := (pz zs j).2 - (pz zs i).2) (b := (pz zs j).1 - (pz zs i).1) s d.1 (by unfold Bd; omega)
  rw [u_slope]; unfold b_slope encB
  simp [m, sq_eq]
theorem is_less_is {p q : Rat} (s : S) (h1 : Bd 400000 p.num) (h2 : Bd 400000 p.den) (h3 : Bd 400000 q.num) (h4 : Bd 400000 q.den) : f_is_less [frD p, frD q] s = .ok (.bl (decide (p < q))) s := by
  rw [u_is_less]; unfold b_is_less frD
  have e : decide (p < q) = decide (p.num * q.den < q.num * p.den) := by simp [Rat.lt_iff]
  simp [g_mul h1 h4 (by decide), g_mul h3 h2 (by decide), e]
theorem is_bend_is (h : Pz zs n) {i j k : Nat} (hij : i < j) (hjk : j < k) (hk : k ≤ n) (s : S) : f_is_bend [encB (pz zs i), encB (pz zs j), encB (pz zs k)] s = .ok (.bl (decide (sq zs j k < sq zs i j))) s := by
  have b1 := h.bd hij (by omega)
  have b2 := h.bd hjk hk
  rw [u_is_bend]; unfold b_is_bend
  simp [slope_is h hij (show j ≤ n by omega), slope_is h hjk hk, is_less_is s b2.1 b2.2.1 b1.1 b1.2.1]
theorem at_m2 {α : Type} (l : List α) (a b : α) : atI (l ++ [a, b]) (-2) = some a := by
  unfold atI ixN
  have e : (-2 + ((l ++ [a, b]).length : Int)).toNat = l.length := by simp; omega
  rw [if_neg (by omega), if_pos (by simp; omega), e]
  simp
def iD (i : Nat) : D := .int (i : Int)
abbrev hullC : En → M Bool := cAnd (cPk (cTst (cOp gGt (cB gLen (cCons (cVar 1) cNil)) (cC (.int 1))))) (cNot (cTst (cCall 3 f_is_bend (cCons (cOp gIx (cVar 0) (cScal (cOp gIx (cVar 1) (cUn gNeg (cC (.int 2)))))) (cCons (cOp gIx (cVar 0) (cScal (cOp gIx (cVar 1) (cUn gNeg (cC (.int 1)))))) (cCons (cVar 3) cNil))))))
theorem hull_c (h : Pz zs n) {q t p : Nat} {L : List D} {e : Option D} (hl : 1 < L.length) (i2 : atI L (-2) = some (iD q)) (i1 : atI L (-1) = some (iD t)) (hq : q < t) (ht : t < p) (hp : p ≤ n) (s : S) :
    hullC [some (.lst (zs.map encB)), some (.lst L), e, some (encB (pz zs p))] s = .ok (!decide (sq zs t p < sq zs q t)) s := by
  have hl' : (1 : Int) < (L.length : Int) := by omega
  have p1 := h.at (i := q) (by omega)
  have p2 := h.at (i := t) (by omega)
  have bend := is_bend_is h hq ht hp s
  have s1 : atI (zs.map encB) (q : Int) = some (encB (pz zs q)) := by rw [at_nat]; exact p1
  have s2 : atI (zs.map encB) (t : Int) = some (encB (pz zs t)) := by rw [at_nat]; exact p2
  simp [hl', i1, i2, iD, PV.scal, s1, s2, bend, -at_nat]
theorem hull_w (h : Pz zs n) {m : Nat} (hm : m + 1 ≤ n) (s : S) : ∀ (st : List Nat) (t : Nat) (fu : Nat), (t :: st).length < fu → t ≤ m → Ch (xq zs) (yq zs) m (t :: st) → (∀ k, k ≤ m → t < k → und (xq zs) (yq zs) t (m + 1) k) →
    ∃ t' st', whileN hullC (cPop 1) fu [some (.lst (zs.map encB)), some (.lst ((t :: st).reverse.map iD)), some (iD (m + 1)), some (encB (pz zs (m + 1)))] s
      = .ok (.next [some (.lst (zs.map encB)), some (.lst ((t' :: st').reverse.map iD)), some (iD (m + 1)), some (encB (pz zs (m + 1)))]) s ∧ (t' :: st').length ≤ (t :: st).length ∧ Ch (xq zs) (yq zs) (m + 1) ((m + 1) :: t' :: st')
  | [], t, fu, hf, ht, hc, h2 => by
    obtain ⟨fu, rfl⟩ : ∃ k, fu = k + 1 := ⟨fu - 1, by simp at hf; omega⟩
    refine ⟨t, [], ?_, Nat.le_refl _, ch_add h.inc hm ht hc h2 (fun _ _ e => by cases e)⟩
    simp [whileN]
  | q :: st, t, fu, hf, ht, hc, h2 => by
    obtain ⟨fu, rfl⟩ : ∃ k, fu = k + 1 := ⟨fu - 1, by simp at hf; omega⟩
    have ix2 : atI ((t :: q :: st).reverse.map iD) (-2) = some (iD q) := by
      have : (t :: q :: st).reverse.map iD = (st.reverse.map iD) ++ [iD q, iD t] := by simp
      rw [this, at_m2]
    have ix1 : atI ((t :: q :: st).reverse.map iD) (-1) = some (iD t) := by
      rw [at_m1]; simp
    have hq := hc.1
    have cc := hull_c h (e := some (iD (m + 1))) (L := (t :: q :: st).reverse.map iD) (by simp) ix2 ix1 hq (show t < m + 1 by omega) hm s
    by_cases hb : sq zs t (m + 1) < sq zs q t
    · refine ⟨t, q :: st, ?_, Nat.le_refl _, ch_add h.inc hm ht hc h2 (fun a b e => by cases e; exact hb)⟩
      rw [whileN, cc]
      simp [hb]
    · have dl : ((t :: q :: st).reverse.map iD).dropLast = (q :: st).reverse.map iD := by simp
      have ne : (t :: q :: st).reverse.map iD ≠ [] := by simp
      obtain ⟨t', st', e1, e2, e3⟩ := hull_w h hm s st q fu (by simp at hf ⊢; omega) (by omega) hc.2.2 fun k hk hqk =>
        und_pop (h.inc q t hq (by omega)) (h.inc t (m + 1) (by omega) hm) (Rat.le_of_lt (h.inc q k hqk (by omega))) (hc.2.1 k hk) (Rat.not_lt.mp hb)
      refine ⟨t', st', ?_, by simp at e2 ⊢; omega, e3⟩
      rw [whileN, cc]
      have pop : cPop 1 [some (.lst (zs.map encB)), some (.lst ((t :: q :: st).reverse.map iD)), some (iD (m + 1)), some (encB (pz zs (m + 1)))] s = .ok (.next [some (.lst (zs.map encB)), some (.lst ((q :: st).reverse.map iD)), some (iD (m + 1)), some (encB (pz zs (m + 1)))]) s := by
        have : cPop 1 [some (.lst (zs.map encB)), some (.lst ((t :: q :: st).reverse.map iD)), some (iD (m + 1)), some (encB (pz zs (m + 1)))] s = if (t :: q :: st).reverse.map iD ≠ [] then .ok (.next [some (.lst (zs.map encB)), some (.lst ((t :: q :: st).reverse.map iD).dropLast), some (iD (m + 1)), some (encB (pz zs (m + 1)))]) s else .stuck := rfl
        rw [this, if_pos ne, dl]
      rw [bind_ok, if_pos (by simp [hb]), pop, bind_ok]
      exact e1
theorem range_split {n x : Nat} {pre post : List Nat} (e : List.range n = pre ++ x :: post) : x = pre.length ∧ pre.length < n := by
  have hl := congrArg List.length e
  simp at hl
  have h1 : (List.range n)[pre.length]? = some x := by rw [e]; simp
  rw [List.getElem?_range (by omega)] at h1
  exact ⟨by cases h1; rfl, by omega⟩
theorem ch_bot {x y : Nat → Rat} {m : Nat} : ∀ {r : List Nat} {t : Nat}, Ch x y m (t :: r) → (t :: r).length ≤ t + 1
  | [], t, h => by simp
  | s :: r, t, h => by
    have := ch_bot h.2.2
    have := h.1
    simp at *; omega
theorem hull_is (h : Pz zs n) (s : S) : ∃ st, f_hull [.lst (zs.map encB)] s = .ok (.lst ((n :: st).reverse.map iD)) s ∧ Ch (xq zs) (yq zs) n (n :: st) := by
  have key := for_inv (tg := tgTup 2 (tgCons (tgName 2) (tgCons (tgName 3) tgNil))) (F := l1_hull)
    (enc := fun i => .tup [iD i, encB (pz zs i)]) (xs := List.range (n + 1)) (fun pre δ s' => s' = s ∧ ∃ L d e, δ = [some (.lst (zs.map encB)), some (.lst L), d, e] ∧ ((pre = [] ∧ L = []) ∨ ∃ m st, pre.length = m + 1 ∧ L = (m :: st).reverse.map iD ∧ Ch (xq zs) (yq zs) m (m :: st)))
    (δ := [some (.lst (zs.map encB)), some (.lst []), none, none]) (s := s) ⟨rfl, [], none, none, rfl, .inl ⟨rfl, rfl⟩⟩ ?_
  · obtain ⟨δ', s', h1, rfl, L, d, e, rfl, hL⟩ := key
    rcases hL with ⟨z, _⟩ | ⟨m, st, z, rfl, hc⟩
    · simp at z
    · have : m = n := by simp at z; omega
      subst this
      refine ⟨st, ?_, hc⟩
      have en : enumD (zs.map encB) = (List.range (m + 1)).map fun i => .tup [iD i, encB (pz zs i)] := by
        unfold enumD
        rw [List.length_map, h.len]
        refine List.map_congr_left fun i hi => ?_
        have hi := List.mem_range.mp hi
        rw [List.getD_eq_getElem?_getD, h.at (by omega)]; rfl
      rw [u_hull]; unfold b_hull
      simp [en]
      simp at h1
      rw [h1]; simp
  · rintro pre x post δ s' e ⟨rfl, L, d, e', rfl, hL⟩
    obtain ⟨hx, hp⟩ := range_split e
    rcases hL with ⟨rfl, rfl⟩ | ⟨m, st, z, rfl, hc⟩
    · refine ⟨_, [some (.lst (zs.map encB)), some (.lst [iD 0]), some (iD 0), some (encB (pz zs 0))], s', rfl, ?_, rfl, _, _, _, rfl, .inr ⟨0, [], rfl, rfl, rfl⟩⟩
      simp at hx
      subst hx
      unfold l1_hull
      simp [fuelL, whileN, iD]
    · have hxm : x = m + 1 := by omega
      subst hxm
      obtain ⟨t', st', e1, e2, e3⟩ := hull_w h (m := m) (by omega) s' st m ((m :: st).length + 1) (by omega) (Nat.le_refl _) hc (fun k a b => by omega)
      have hb := ch_bot hc
      have hn := h.n5
      refine ⟨_, [some (.lst (zs.map encB)), some (.lst (((m + 1) :: t' :: st').reverse.map iD)), some (iD (m + 1)), some (encB (pz zs (m + 1)))], s', rfl, ?_, rfl, _, _, _, rfl, .inr ⟨m + 1, t' :: st', by simp; omega, rfl, e3⟩⟩
      have fu : fuelL 1 [some (.lst (zs.map encB)), some (.lst ((m :: st).reverse.map iD)), some (iD (m + 1)), some (encB (pz zs (m + 1)))] = (m :: st).length + 1 := by
        show ((m :: st).reverse.map iD).length + 1 = _
        simp
      unfold l1_hull
      rw [e_seq, e_while, show ([some (.lst (zs.map encB)), some (.lst ((m :: st).reverse.map iD)), d, e'].set 2 (some (iD (m + 1)))).set 3 (some (encB (pz zs (m + 1)))) = [some (.lst (zs.map encB)), some (.lst ((m :: st).reverse.map iD)), some (iD (m + 1)), some (encB (pz zs (m + 1)))] from rfl, fu, e1, bind_ok]
      have hlen : ((t' :: st').reverse.map iD).length < 100000 := by simp at e2 hb ⊢; omega
      simp only [e_app, e_var, ow_eq, List.getElem?_cons_succ, List.getElem?_cons_zero, Option.join_some, Option.bind_some, g_asLst, lift_some, bind_ok, if_pos hlen]
      simp
end

theorem stp_ok : ∀ (l : List P2) (b : Int), (∀ y ∈ l, 0 ≤ y.1 ∧ y.1 ≤ 1000000000 ∧ 1 ≤ y.2 ∧ y.2 ≤ 1000000000) → 0 ≤ b →
    (∀ z ∈ stp b l, b < z.1 ∧ z.1 ≤ b + 1000000000 * l.length ∧ 0 ≤ z.2 ∧ z.2 ≤ 1000000000 * z.1) ∧ (stp b l).Pairwise (fun a c => a.1 < c.1)
  | [], _, _, _ => ⟨by simp [stp], by simp [stp]⟩
  | y :: r, b, h, hb => by
    have hy := h y (by simp)
    have ih := stp_ok r (b + y.2) (fun z hz => h z (by simp [hz])) (by omega)
    have h0 : 0 ≤ y.1 * (b + y.2) := Int.mul_nonneg hy.1 (by omega)
    have h1 : y.1 * (b + y.2) ≤ 1000000000 * (b + y.2) := Int.mul_le_mul_of_nonneg_right hy.2.1 (by omega)
    refine ⟨fun z hz => ?_, ?_⟩
    · rcases List.mem_cons.mp hz with q | q
      · subst q
        refine ⟨?_, ?_, h0, h1⟩
        · show b < b + y.2; omega
        · show b + y.2 ≤ _; simp; omega
      · have := ih.1 z q
        simp
        omega
    · refine List.pairwise_cons.mpr ⟨fun z hz => ?_, ih.2⟩
      exact (ih.1 z hz).1
theorem pts_ok {ys : List P2} (v : VU ys) : Pz (pts ys) ys.length := by
  have l5 := v.len5
  have h := stp_ok ys.reverse 0 (fun y hy => v.ok y (by simpa using hy)) (by omega)
  have hp : (pts ys).Pairwise (fun a c => a.1 < c.1) := List.pairwise_cons.mpr ⟨fun z hz => (h.1 z hz).1, h.2⟩
  have hl := pts_len ys
  have hz : ∀ z ∈ pts ys, 0 ≤ z.1 ∧ z.1 ≤ 5000000000 ∧ 0 ≤ z.2 ∧ z.2 ≤ 5000000000000000000 := fun z hz => by
    rcases List.mem_cons.mp hz with q | q
    · subst q; simp
    · have := h.1 z q
      rw [List.length_reverse] at this
      omega
  refine ⟨hl, v.len1, l5, fun i hi => ?_, fun i j hij hj => ?_⟩
  · have e : pz (pts ys) i = (pts ys)[i]'(by omega) := by unfold pz; simp [List.getD_eq_getElem?_getD, show i < (pts ys).length by omega]
    rw [e]; have := hz _ (List.getElem_mem (show i < (pts ys).length by omega)); omega
  · have e : ∀ k (hk : k < (pts ys).length), pz (pts ys) k = (pts ys)[k] := fun k hk => by unfold pz; simp [List.getD_eq_getElem?_getD, hk]
    rw [e i (by omega), e j (by omega)]
    exact List.pairwise_iff_getElem.mp hp i j (by omega) (by omega) hij

/-! ### the hull, stretch by stretch -/
def segs (f : Nat → Nat → Rat) : List Nat → List Rat
  | a :: b :: r => List.replicate (b - a) (f a b) ++ segs f (b :: r)
  | _ => []
def HulF (x y : Nat → Rat) (n : Nat) : List Nat → Prop
  | [] => False
  | [a] => a = n
  | a :: b :: r => a < b ∧ (∀ k, k ≤ n → und x y a b k) ∧ HulF x y n (b :: r)
theorem segs_snoc (f : Nat → Nat → Rat) (a b : Nat) : ∀ M : List Nat, segs f (M ++ [a, b]) = segs f (M ++ [a]) ++ List.replicate (b - a) (f a b)
  | [] => by simp [segs]
  | [c] => by simp [segs]
  | c :: d :: M => by
    have ih := segs_snoc f a b (d :: M)
    show List.replicate (d - c) (f c d) ++ segs f (d :: M ++ [a, b]) = List.replicate (d - c) (f c d) ++ segs f (d :: M ++ [a]) ++ _
    rw [ih, List.append_assoc]
theorem hulF_of {x y : Nat → Rat} {n : Nat} : ∀ {L : List Nat}, L.getLast? = some n → (∀ i a b, L[i]? = some a → L[i + 1]? = some b → a < b ∧ ∀ k, k ≤ n → und x y a b k) → HulF x y n L
  | [], h, _ => by cases h
  | [a], h, _ => by simpa [HulF] using h
  | a :: b :: r, h, hd => by
    have h0 := hd 0 a b rfl rfl
    exact ⟨h0.1, h0.2, hulF_of (by simpa using h) fun i c d h1 h2 => hd (i + 1) c d (by simpa using h1) (by simpa using h2)⟩
section
variable {x y : Nat → Rat} {n : Nat}
theorem hul_le : ∀ {r : List Nat} {a : Nat}, HulF x y n (a :: r) → a ≤ n
  | [], a, h => by have : a = n := h; omega
  | b :: r, a, h => by
    have := hul_le h.2.2
    have := h.1
    omega
theorem segs_len (f : Nat → Nat → Rat) : ∀ {r : List Nat} {a : Nat}, HulF x y n (a :: r) → (segs f (a :: r)).length + a = n
  | [], a, h => by have : a = n := h; simp [segs, this]
  | b :: r, a, h => by
    have ih := segs_len f h.2.2
    have := h.1
    simp [segs]; omega
theorem segs_mem (f : Nat → Nat → Rat) {q : Rat} : ∀ {r : List Nat} {a : Nat}, HulF x y n (a :: r) → q ∈ segs f (a :: r) → ∃ i j, i < j ∧ j ≤ n ∧ q = f i j
  | [], a, h, hq => by cases hq
  | b :: r, a, h, hq => by
    rcases List.mem_append.mp hq with z | z
    · exact ⟨a, b, h.1, hul_le h.2.2, (List.mem_replicate.mp z).2⟩
    · exact segs_mem f h.2.2 z
theorem segs_lev : ∀ {r : List Nat} {a : Nat}, HulF x y n (a :: r) → ∀ p q, (segs (slo x y) (a :: r))[p]? = some q → LevOk x y n (a + p) q
  | [], a, h, p, q, e => by simp [segs] at e
  | b :: r, a, h, p, q, e => by
    have hb := hul_le h.2.2
    have hab := h.1
    rcases Nat.lt_or_ge p (b - a) with z | z
    · rw [segs, List.getElem?_append_left (by simpa using z)] at e
      obtain ⟨w1, w2⟩ := List.getElem?_eq_some_iff.mp e
      rw [List.getElem_replicate] at w2
      exact ⟨a, b, by omega, by omega, hb, w2.symm, h.2.1⟩
    · rw [segs, List.getElem?_append_right (by simpa using z), List.length_replicate] at e
      have := segs_lev h.2.2 _ _ e
      rw [show b + (p - (b - a)) = a + p by omega] at this
      exact this
def tel (x : Nat → Rat) (g : Rat → Rat) : Nat → List Rat → Rat
  | _, [] => 0
  | i, q :: qs => g q * (x (i + 1) - x i) + tel x g (i + 1) qs
theorem tel_app (x : Nat → Rat) (g : Rat → Rat) : ∀ (i : Nat) (as bs : List Rat), tel x g i (as ++ bs) = tel x g i as + tel x g (i + as.length) bs
  | i, [], bs => by simp [tel]; grind
  | i, a :: as, bs => by
    show g a * _ + tel x g (i + 1) (as ++ bs) = g a * _ + tel x g (i + 1) as + tel x g (i + (as.length + 1)) bs
    rw [tel_app x g (i + 1) as bs, show i + (as.length + 1) = i + 1 + as.length by omega]
    grind
theorem tel_rep (x : Nat → Rat) (g : Rat → Rat) (q : Rat) : ∀ (i k : Nat), tel x g i (List.replicate k q) = g q * (x (i + k) - x i)
  | i, 0 => by simp [tel]; grind
  | i, k + 1 => by
    rw [List.replicate_succ]
    show g q * _ + tel x g (i + 1) (List.replicate k q) = _
    rw [tel_rep x g q (i + 1) k, show i + 1 + k = i + (k + 1) by omega]
    grind
theorem tel_segs (g : Rat → Rat) (f : Nat → Nat → Rat) {a b : Nat} {r : List Nat} (h : a < b) : tel x g a (segs f (a :: b :: r)) = g (f a b) * (x b - x a) + tel x g b (segs f (b :: r)) := by
  rw [segs, tel_app, tel_rep, List.length_replicate, show a + (b - a) = b by omega]
/-- later slopes are no greater -/
theorem hul_down (hx : Inc x n) {s : Rat} {a b : Nat} (hab : a < b) (hu : ∀ k, k ≤ n → und x y a b k) (hs : slo x y a b ≤ s) : ∀ {r : List Nat} {c : Nat}, b ≤ c → HulF x y n (c :: r) → ∀ q ∈ segs (slo x y) (c :: r), q ≤ s
  | [], c, hc, h, q, hq => by cases hq
  | d :: r, c, hc, h, q, hq => by
    have hd := hul_le h.2.2
    have hcd := h.1
    rcases List.mem_append.mp hq with z | z
    · have e := (List.mem_replicate.mp z).2
      subst e
      have c1 := hu c (by omega)
      have c2 := h.2.1 a (by omega)
      have e1 := hx a c (by omega) (by omega)
      refine Rat.le_trans (unmulL (c := x c - x a) ?_ (by grind)) hs
      unfold und at c1 c2
      grind
    · exact hul_down hx hab hu hs (by omega) h.2.2 q z
theorem tel_zero (g : Rat → Rat) : ∀ (i : Nat) (l : List Rat), (∀ q ∈ l, g q = 0) → tel x g i l = 0
  | i, [], _ => rfl
  | i, q :: l, h => by
    show g q * _ + tel x g (i + 1) l = 0
    rw [h q (by simp), tel_zero g (i + 1) l fun z hz => h z (by simp [hz])]; grind
def pos (q : Rat) : Rat := if 0 < q then q else 0
theorem pos_nn (q : Rat) : 0 ≤ pos q := by unfold pos; split <;> grind
/-- the sum of the rising stretches is the greatest height -/
theorem hul_max (hx : Inc x n) : ∀ {r : List Nat} {a : Nat}, HulF x y n (a :: r) → (∃ v, a ≤ v ∧ v ≤ n ∧ tel x pos a (segs (slo x y) (a :: r)) = y v - y a) ∧ ∀ k, a ≤ k → k ≤ n → y k - y a ≤ tel x pos a (segs (slo x y) (a :: r))
  | [], a, h => by
    have : a = n := h
    subst this
    refine ⟨⟨a, Nat.le_refl _, Nat.le_refl _, by simp [segs, tel]; grind⟩, fun k h1 h2 => ?_⟩
    rw [show k = a by omega]; simp [segs, tel]; grind
  | b :: r, a, h => by
    have hab := h.1
    have hb := hul_le h.2.2
    obtain ⟨⟨v, v1, v2, v3⟩, ih⟩ := hul_max hx h.2.2
    have e1 := hx a b hab hb
    have m1 := slo_mul (y := y) e1
    rw [tel_segs pos (slo x y) hab]
    by_cases hp : 0 < slo x y a b
    · have ep : pos (slo x y a b) = slo x y a b := by unfold pos; rw [if_pos hp]
      rw [ep, m1]
      refine ⟨⟨v, by omega, v2, by rw [v3]; grind⟩, fun k h1 h2 => ?_⟩
      rcases Nat.lt_or_ge k b with z | z
      · have c := h.2.1 k h2
        have i0 := ih b (Nat.le_refl _) hb
        have e2 := hx k b z hb
        have c3 := mulL (a := 0) (b := slo x y a b) (c := x b - x k) (Rat.le_of_lt hp) (by grind)
        unfold und at c
        grind
      · have := ih k z h2
        grind
    · have hp' : slo x y a b ≤ 0 := Rat.not_lt.mp hp
      have ep : pos (slo x y a b) = 0 := by unfold pos; rw [if_neg hp]
      have hd := hul_down hx hab h.2.1 hp' (Nat.le_refl b) h.2.2
      have e0 := tel_zero (x := x) pos b (segs (slo x y) (b :: r)) fun q hq => by unfold pos; rw [if_neg (Rat.not_lt.mpr (hd q hq))]
      rw [ep, e0]
      refine ⟨⟨a, Nat.le_refl _, by omega, by grind⟩, fun k h1 h2 => ?_⟩
      have c := h.2.1 k h2
      have e2 : 0 ≤ x k - x a := by
        rcases Nat.lt_or_ge a k with z | z
        · have := hx a k z h2; grind
        · rw [show k = a by omega]; grind
      have c3 := mulL (c := x k - x a) hp' e2
      unfold und at c
      grind
/-- slopes never rise -/
theorem hul_sorted (hx : Inc x n) : ∀ {r : List Nat} {a : Nat}, HulF x y n (a :: r) → (segs (slo x y) (a :: r)).Pairwise (fun p q => q ≤ p)
  | [], a, h => List.Pairwise.nil
  | b :: r, a, h => by
    rw [segs]
    refine List.pairwise_append.mpr ⟨List.pairwise_replicate.mpr (.inr (Rat.le_refl)), hul_sorted hx h.2.2, fun p hp q hq => ?_⟩
    have e := (List.mem_replicate.mp hp).2
    subst e
    exact hul_down hx h.1 h.2.1 Rat.le_refl (Nat.le_refl b) h.2.2 q hq
end

/-! ### sales -/
abbrev crD (bs : List (List P2)) : D := .tup (bs.map buD)
abbrev salD (bs : List (List P2)) (m : Int) : D := .sal (crD bs) (.int m)
structure VS (bs : List (List P2)) (m : Int) : Prop where
  len1 : 1 ≤ bs.length
  len4 : bs.length ≤ 4
  ok : ∀ b ∈ bs, VU b
  m1 : 1 ≤ m
  m3 : m ≤ 3
theorem sale_is {bs : List (List P2)} {m : Int} (v : VS bs m) (s : S) : f_Sale [crD bs, .int m] s = .ok (salD bs m) s := by
  have l1 := v.len1
  have l4 := v.len4
  have d1 : (1 : Int) ≤ bs.length := by omega
  have d4 : (bs.length : Int) ≤ 4 := by omega
  have em : decide (1 ≤ m ∧ m ≤ 3) = true := by have := v.m1; have := v.m3; simp; omega
  have key := for_inv (tg := tgTup 2 (tgCons (tgName 3) (tgCons (tgName 4) tgNil))) (F := l1_Sale) (enc := fun (p : Nat × List P2) => D.tup [.int (p.1 : Int), buD p.2]) (xs := idx bs)
    (fun pre δ s' => s' = s ∧ ∃ d e, δ = [some (.obj 0), some (crD bs), some (.int m), d, e]) (δ := [some (.obj 0), some (crD bs), some (.int m), none, none]) (s := s) ⟨rfl, none, none, rfl⟩ ?_
  · obtain ⟨δ', s', h1, rfl, d, e, rfl⟩ := key
    have t1 : t1_Sale [some (.obj 0), some (crD bs), some (.int m), none, none] s' = .ok false s' := by
      unfold t1_Sale
      simp [d1, d4]
    have t3 : ∀ s, t3_Sale [some (.obj 0), some (crD bs), some (.int m), d, e] s = .ok false s := fun s => by
      unfold t3_Sale
      simp [is_from_is, em]
    show (b_Sale [some (.obj 0), some (crD bs), some (.int m), none, none] s').bind (saleE 0) = _
    unfold b_Sale
    simp [t1, enum_idx]
    rw [h1]
    simp [t3, saleE, isOb]
  · rintro pre x post δ s' e ⟨rfl, d, f, rfl⟩
    obtain ⟨h1, h2, h3⟩ := idx_split e
    refine ⟨_, [some (.obj 0), some (crD bs), some (.int m), some (.int (x.1 : Int)), some (buD x.2)], s', rfl, ?_, rfl, _, _, rfl⟩
    unfold l1_Sale
    have ib := is_buyer_is (v.ok _ (List.mem_of_getElem? h2)) s'
    simp [ib]

theorem need_sale_is (bs : List (List P2)) (m : Int) (s : S) : f_need_sale [salD bs m] s = .ok .non s := by
  rw [u_need_sale]; unfold b_need_sale
  simp

theorem total_of_is {b : List P2} (h : b.length ≤ 5) (s : S) : f_total_of [buD b] s = .ok (.int (tot b)) s := by
  rw [u_total_of]; unfold b_total_of buD
  simp [show b.length ≤ 100000 by omega]
  rw [comp_map (xs := b) (enc := encB) (e := fun y => .int y.2)]
  · simp [tot]
  · intro x hx
    exact ⟨_, rfl, fun s => by simp [encB]⟩

/-! ### all places -/
def plD (p : List Nat) : D := .tup (p.map fun (i : Nat) => D.int (i : Int))
def plS (acc : List (List Nat)) (b : List P2) : List (List Nat) := acc.flatMap fun p => (List.range b.length).map fun i => p ++ [i]
def plc (bs : List (List P2)) : List (List Nat) := bs.foldl plS [[]]
theorem plS_len (acc : List (List Nat)) (b : List P2) : (plS acc b).length = acc.length * b.length := by
  unfold plS
  induction acc with
  | nil => simp
  | cons p acc ih => rw [List.flatMap_cons, List.length_append, ih]; simp [Nat.succ_mul]; omega
theorem plc_snoc (bs : List (List P2)) (b : List P2) : plc (bs ++ [b]) = plS (plc bs) b := by unfold plc; rw [List.foldl_append]; rfl
theorem plc_mem {p : List Nat} : ∀ {bs : List (List P2)}, p ∈ plc bs ↔ p.length = bs.length ∧ ∀ k, k < bs.length → p.getD k 0 < (bs.getD k []).length := by
  intro bs
  rcases List.eq_nil_or_concat bs with h | ⟨bs', b, h⟩
  · subst h
    show p ∈ [[]] ↔ _
    simp
  · subst h
    rw [List.concat_eq_append, plc_snoc]
    unfold plS
    rw [List.mem_flatMap]
    constructor
    · rintro ⟨p', h1, h2⟩
      obtain ⟨i, hi, rfl⟩ := List.mem_map.mp h2
      have ih := (plc_mem (bs := bs')).mp h1
      refine ⟨by simp [ih.1], fun k hk => ?_⟩
      simp at hk
      rcases Nat.lt_or_ge k bs'.length with z | z
      · have := ih.2 k z
        simp [List.getD_eq_getElem?_getD, List.getElem?_append_left, ih.1, z] at this ⊢
        exact this
      · have e : k = bs'.length := by omega
        subst e
        have hi := List.mem_range.mp hi
        simp [List.getD_eq_getElem?_getD, ih.1.symm]
        exact hi
    · rintro ⟨h1, h2⟩
      simp at h1 h2
      rcases List.eq_nil_or_concat p with h | ⟨p', i, h⟩
      · subst h; simp at h1
      · subst h
        rw [List.concat_eq_append] at *
        simp at h1
        refine ⟨p', (plc_mem (bs := bs')).mpr ⟨h1, fun k hk => ?_⟩, List.mem_map.mpr ⟨i, List.mem_range.mpr ?_, rfl⟩⟩
        · have := h2 k (by omega)
          simp [List.getD_eq_getElem?_getD, List.getElem?_append_left, h1, hk] at this ⊢
          exact this
        · have := h2 bs'.length (by omega)
          rw [← h1] at this
          simp [List.getD_eq_getElem?_getD] at this
          rw [h1] at this
          simpa using this
termination_by bs => bs.length
decreasing_by all_goals simp_all
theorem plc_len_le : ∀ (bs : List (List P2)), (∀ b ∈ bs, b.length ≤ 5) → (plc bs).length ≤ 5 ^ bs.length := by
  intro bs h
  rcases List.eq_nil_or_concat bs with h' | ⟨bs', b, h'⟩
  · subst h'; simp [plc]
  · subst h'
    rw [List.concat_eq_append] at *
    have ih := plc_len_le bs' fun c hc => h c (by simp [hc])
    rw [plc_snoc, plS_len, List.length_append, List.length_singleton, Nat.pow_succ]
    exact Nat.mul_le_mul ih (h b (by simp))
termination_by bs => bs.length
decreasing_by simp_all
theorem all_places_is {bs : List (List P2)} {m : Int} (h4 : bs.length ≤ 4) (h5 : ∀ b ∈ bs, b.length ≤ 5) (s : S) : f_all_places [salD bs m] s = .ok (.lst ((plc bs).map plD)) s := by
  have key := for_inv (tg := tgName 2) (F := l1_all_places) (enc := buD) (xs := bs) (fun pre δ s' => s' = s ∧ ∃ c d e, δ = [some (salD bs m), some (.lst ((plc pre).map plD)), c, d, e])
    (δ := [some (salD bs m), some (.lst ((plc []).map plD)), none, none, none]) (s := s) ⟨rfl, none, none, none, rfl⟩ ?_
  · obtain ⟨δ', s', h1, rfl, c, d, e, rfl⟩ := key
    rw [u_all_places]; unfold b_all_places
    have e0 : (plc []).map plD = [.tup []] := rfl
    rw [e0] at h1
    simp -implicitDefEqProofs
    rw [h1]; simp -implicitDefEqProofs
  · rintro pre x post δ s' e ⟨rfl, c, d, f, rfl⟩
    have hp5 : ∀ b ∈ pre ++ [x], b.length ≤ 5 := fun b hb => h5 b (by rw [e]; simp at hb ⊢; rcases hb with hb | hb <;> simp [hb])
    have hl := plc_len_le (pre ++ [x]) hp5
    have hlen := congrArg List.length e
    simp at hlen
    have hx5 : x.length ≤ 5 := hp5 x (by simp)
    have h625 : (plc (pre ++ [x])).length ≤ 625 := Nat.le_trans hl (Nat.le_trans (Nat.pow_le_pow_right (by decide) (show (pre ++ [x]).length ≤ 4 by simp; omega)) (by decide))
    refine ⟨_, [some (salD bs m), some (.lst ((plc (pre ++ [x])).map plD)), some (buD x), d, f], s', rfl, ?_, rfl, _, _, _, rfl⟩
    unfold l1_all_places
    simp -implicitDefEqProofs
    rw [out_pure (enc := plD) (enc1 := fun (i : Nat) => D.int (i : Int)) (ys := fun _ => List.range x.length) (p := fun _ _ => true) (e := fun p i => plD (p ++ [i]))]
    · simp -implicitDefEqProofs [plc_snoc, plS, List.map_flatMap, Function.comp_def]
      simp only [List.filter_eq_self.mpr (fun _ _ => rfl)]
    · have : ((plc pre).flatMap fun _ => List.range x.length).length = (plS (plc pre) x).length := by simp [plS]
      rw [this, ← plc_snoc]; simp; omega
    · intro p hp
      refine ⟨_, rfl, fun s => ?_, fun i hi => ⟨_, rfl, fun s => rfl, fun _ s => ?_⟩⟩
      · simp -implicitDefEqProofs [buD, g_r1 x.length (by omega), upto0]
      · have hpl := (plc_mem.mp hp).1
        have hpl2 : pre.length ≤ 4 := by omega
        simp -implicitDefEqProofs [plD]
        rw [g_addT _ _ (by simp; omega)]
        simp -implicitDefEqProofs

/-! ### one divisor for all -/
def rwD (r : List Rat) : D := .lst (r.map frD)
def rowsD (rows : List (List Rat)) : D := .lst (rows.map rwD)
def tabD (t : List (List Int)) : D := .lst (t.map fun r => .lst (r.map D.int))
def lcU (u : Int) (q : Rat) : Int := u * q.den / (Int.gcd u q.den : Int)
def scU (rows : List (List Rat)) : Int := rows.flatten.foldl lcU 1
def sc (u : Int) (q : Rat) : Int := q.num * (u / q.den)
theorem lcU_ok {u : Int} (hu : 0 < u) (q : Rat) : 0 < lcU u q ∧ u ∣ lcU u q ∧ (q.den : Int) ∣ lcU u q ∧ lcU u q ≤ u * q.den := by
  have hd : 0 < (q.den : Int) := by have := q.den_pos; omega
  have g0 : 0 < (Int.gcd u q.den : Int) := by have := Int.gcd_pos_of_ne_zero_left q.den (show u ≠ 0 by omega); omega
  obtain ⟨a, ha⟩ := Int.gcd_dvd_left u (q.den : Int)
  obtain ⟨b, hb⟩ := Int.gcd_dvd_right u (q.den : Int)
  unfold lcU
  generalize (Int.gcd u q.den : Int) = g at *
  have b0 : 0 < b := by
    refine Int.not_le.mp fun z => ?_
    have := Int.mul_le_mul_of_nonneg_left z (show 0 ≤ g by omega)
    omega
  have e : u * q.den / g = u * b := by
    conv => lhs; rw [hb]
    rw [show u * (g * b) = g * (u * b) by rw [← Int.mul_assoc, ← Int.mul_assoc, Int.mul_comm u g], Int.mul_ediv_cancel_left _ (by omega)]
  rw [e]
  have e2 : u * b = q.den * a := by rw [hb, ha, Int.mul_assoc, Int.mul_assoc, Int.mul_comm a b]
  refine ⟨Int.mul_pos hu b0, Int.dvd_mul_right _ _, ?_, ?_⟩
  · rw [e2]; exact Int.dvd_mul_right _ _
  · refine Int.mul_le_mul_of_nonneg_left ?_ (by omega)
    rw [hb]
    have := Int.mul_le_mul_of_nonneg_right (show 1 ≤ g by omega) (show 0 ≤ b by omega)
    omega
theorem scU_step (l : List Rat) : ∀ (u : Int), 0 < u → 0 < l.foldl lcU u ∧ u ∣ l.foldl lcU u ∧ (∀ q ∈ l, (q.den : Int) ∣ l.foldl lcU u) := by
  induction l with
  | nil => intro u hu; exact ⟨hu, Int.dvd_refl _, by simp⟩
  | cons q l ih =>
    intro u hu
    have h := lcU_ok hu q
    have ih := ih (lcU u q) h.1
    refine ⟨ih.1, Int.dvd_trans h.2.1 ih.2.1, fun p hp => ?_⟩
    rcases List.mem_cons.mp hp with e | e
    · subst e; exact Int.dvd_trans h.2.2.1 ih.2.1
    · exact ih.2.2 p e
theorem scU_bd (l : List Rat) (hl : ∀ q ∈ l, Bd 100 (q.den : Int)) : ∀ (u : Int) (n : Nat), 0 < u → Bd n u → Bd (n + 100 * l.length) (l.foldl lcU u) := by
  induction l with
  | nil => intro u n _ h; exact h
  | cons q l ih =>
    intro u n hu h
    have k := lcU_ok hu q
    have := ih (fun p hp => hl p (by simp [hp])) (lcU u q) (n + 100) k.1 ((h.mul (hl q (by simp))).of_le (by omega) k.2.2.2)
    rw [List.length_cons, show n + 100 * (l.length + 1) = n + 100 + 100 * l.length by omega]
    exact this
theorem sc_eq {u : Int} {q : Rat} (h : (q.den : Int) ∣ u) : ((sc u q : Int) : Rat) = q * (u : Rat) := by
  obtain ⟨k, rfl⟩ := h
  have hd : (q.den : Int) ≠ 0 := by have := q.den_pos; omega
  unfold sc
  rw [Int.mul_ediv_cancel_left _ hd, Rat.intCast_mul, Rat.intCast_mul]
  have e : q * ((q.den : Int) : Rat) = (q.num : Rat) := by
    have h1 : q = (q.num : Rat) / ((q.den : Int) : Rat) := by rw [← Rat.divInt_eq_div]; exact (q_self q).symm
    have h2 : ((q.den : Int) : Rat) ≠ 0 := by
      intro z
      have : ((q.den : Int) : Rat) = ((0 : Int) : Rat) := z
      exact hd (Rat.intCast_inj.mp this)
    conv => lhs; lhs; rw [h1]
    exact Rat.div_mul_cancel h2
  rw [← Rat.mul_assoc, e]
theorem sc_bd {u : Int} {q : Rat} {n m : Nat} (h0 : 0 < u) (h1 : Bd n u) (h2 : Bd m q.num) : Bd (m + n) (sc u q) := by
  have hd : 0 < (q.den : Int) := by have := q.den_pos; omega
  refine h2.mul (h1.of_le (Int.ediv_nonneg (by omega) (by omega)) (Int.ediv_le_self _ (by omega)))
structure RwOk (rows : List (List Rat)) : Prop where
  len : rows.length ≤ 4
  row : ∀ r ∈ rows, r.length ≤ 5
  bd : ∀ r ∈ rows, ∀ q ∈ r, Bd 300 q.num ∧ Bd 100 (q.den : Int)
theorem flat_le : ∀ {rows : List (List Rat)}, (∀ r ∈ rows, r.length ≤ 5) → rows.flatten.length ≤ 5 * rows.length
  | [], _ => by simp
  | r :: rows, h => by
    have ih := flat_le (rows := rows) fun z hz => h z (by simp [hz])
    have := h r (by simp)
    rw [List.flatten_cons, List.length_append, List.length_cons]; omega
theorem RwOk.fl {rows : List (List Rat)} (h : RwOk rows) : rows.flatten.length ≤ 20 := by
  have := flat_le h.row
  have := h.len
  omega
theorem RwOk.u {rows : List (List Rat)} (h : RwOk rows) : 0 < scU rows ∧ Bd 2001 (scU rows) ∧ ∀ r ∈ rows, ∀ q ∈ r, (q.den : Int) ∣ scU rows := by
  have a := scU_step rows.flatten 1 (by decide)
  have hb : ∀ q ∈ rows.flatten, Bd 100 (q.den : Int) := fun q hq => by
    obtain ⟨r, hr, hq⟩ := List.mem_flatten.mp hq
    exact (h.bd r hr q hq).2
  have b := scU_bd rows.flatten hb 1 1 (by decide) (by unfold Bd; decide)
  have := h.fl
  exact ⟨a.1, b.mono (by omega), fun r hr q hq => a.2.2 q (List.mem_flatten.mpr ⟨r, hr, hq⟩)⟩
theorem scaled_is {rows : List (List Rat)} (h : RwOk rows) (s : S) : f_scaled [rowsD rows] s = .ok (.tup [tabD (rows.map fun r => r.map (sc (scU rows))), .int (scU rows)]) s := by
  have hb : ∀ q ∈ rows.flatten, Bd 100 (q.den : Int) := fun q hq => by
    obtain ⟨r, hr, hq⟩ := List.mem_flatten.mp hq
    exact (h.bd r hr q hq).2
  have hfl := h.fl
  have step : ∀ (l : List Rat) (q : Rat) (d : Option D), (∃ t, l ++ [q] ++ t = rows.flatten) → ∀ s, l1_scaled [some (rowsD rows), some (.int (l.foldl lcU 1)), d, some (.int q.num), some (.int (q.den : Int))] s = .ok (.next [some (rowsD rows), some (.int ((l ++ [q]).foldl lcU 1)), d, some (.int q.num), some (.int (q.den : Int))]) s := by
    intro l q d ⟨t, ht⟩ s
    have hl : ∀ p ∈ l ++ [q], Bd 100 (p.den : Int) := fun p hp => hb p (by rw [← ht]; exact List.mem_append_left _ hp)
    have hlen : l.length ≤ 19 := by have := congrArg List.length ht; rw [List.length_append, List.length_append, List.length_singleton] at this; omega
    have u0 := (scU_step l 1 (by decide)).1
    have ub := scU_bd l (fun p hp => hl p (by simp [hp])) 1 1 (by decide) (by unfold Bd; decide)
    have qb := hl q (by simp)
    generalize hu : l.foldl lcU 1 = u at *
    have hg : 0 < (Int.gcd u q.den : Int) := by have := Int.gcd_pos_of_ne_zero_left q.den (show u ≠ 0 by omega); omega
    have hgle : (Int.gcd u q.den : Int) ≤ q.den := Int.le_of_dvd (by have := q.den_pos; omega) (Int.gcd_dvd_right _ _)
    unfold l1_scaled
    simp [common_is, g_mul ub qb (by omega), g_fdiv hg (qb.of_le (by omega) hgle) (by decide), List.foldl_append, hu, lcU]
  have key := for_inv (tg := tgName 2) (F := l2_scaled) (enc := rwD) (xs := rows) (fun pre δ s' => s' = s ∧ ∃ c d e, δ = [some (rowsD rows), some (.int (pre.flatten.foldl lcU 1)), c, d, e])
    (δ := [some (rowsD rows), some (.int 1), none, none, none]) (s := s) ⟨rfl, none, none, none, rfl⟩ ?_
  · obtain ⟨δ', s', h1, rfl, c, d, e, rfl⟩ := key
    have hu := h.u
    rw [u_scaled]; unfold b_scaled
    have l4 := h.len
    simp -implicitDefEqProofs [rowsD, show rows.length ≤ 100000 by omega] at h1 ⊢
    rw [h1]
    simp -implicitDefEqProofs [show rows.length ≤ 100000 by omega]
    rw [comp_map (xs := rows) (enc := rwD) (e := fun r => .lst ((r.map (sc (scU rows))).map D.int))]
    · simp -implicitDefEqProofs [tabD, scU]
    · intro r hr
      refine ⟨_, rfl, fun s => ?_⟩
      have r5 := h.row r hr
      simp -implicitDefEqProofs [rwD, show r.length ≤ 100000 by omega]
      rw [comp_map (xs := r) (enc := frD) (e := fun q => .int (sc (scU rows) q))]
      · simp -implicitDefEqProofs [Function.comp_def]
      · intro q hq
        refine ⟨_, rfl, fun s => ?_⟩
        have hd : 0 < (q.den : Int) := by have := q.den_pos; omega
        have b := h.bd r hr q hq
        have b2 : Bd 2001 (scU rows / (q.den : Int)) := hu.2.1.of_le (Int.ediv_nonneg (by omega) (by omega)) (Int.ediv_le_self _ (by omega))
        simp -implicitDefEqProofs
        rw [show List.foldl lcU 1 rows.flatten = scU rows from rfl, g_fdiv hd b.2 (by decide)]
        simp -implicitDefEqProofs [g_mul b.1 b2 (by decide), sc]
  · rintro pre r post δ s' e ⟨rfl, c, d, f, rfl⟩
    have key := for_inv (tg := tgTup 2 (tgCons (tgName 3) (tgCons (tgName 4) tgNil))) (F := l1_scaled) (enc := frD) (xs := r) (fun p δ s2 => s2 = s' ∧ ∃ d e, δ = [some (rowsD rows), some (.int ((pre.flatten ++ p).foldl lcU 1)), some (rwD r), d, e])
      (δ := [some (rowsD rows), some (.int (pre.flatten.foldl lcU 1)), some (rwD r), d, f]) (s := s') ⟨rfl, d, f, by simp⟩ (by
        rintro p q t δ s2 e2 ⟨rfl, d', e', rfl⟩
        refine ⟨_, _, s2, rfl, step (pre.flatten ++ p) q _ ⟨t ++ post.flatten, by rw [e, e2]; simp⟩ s2, rfl, _, _, by rw [List.append_assoc]⟩)
    obtain ⟨δ', s2, h1, rfl, d', e', rfl⟩ := key
    refine ⟨_, [some (rowsD rows), some (.int ((pre.flatten ++ r).foldl lcU 1)), some (rwD r), d', e'], s2, rfl, ?_, rfl, some (rwD r), d', e', by simp⟩
    unfold l2_scaled
    simp -implicitDefEqProofs [rwD] at h1 ⊢
    rw [h1]

/-! ### who gets things -/
def tRow (t : List (List Int)) (k : Nat) : List Int := t.getD k []
def tAt (t : List (List Int)) (k i : Nat) : Int := (tRow t k).getD i 0
/-- the numbers at these places -/
def valsA (t : List (List Int)) (p : List Nat) : List Int := (idx p).map fun x => tAt t x.1 x.2
def posP (vs : List Int) : List (Int × Int) := ((idx vs).filter fun x => decide (0 < x.2)).map fun x => (-x.2, (x.1 : Int))
/-- first m of the greatest ones above 0 -/
def chs (m : Nat) (vs : List Int) : List (Int × Int) := (sortP (posP vs)).take m
def topV (m : Nat) (vs : List Int) : Int := ((chs m vs).map fun x => -x.1).sum
structure TabOk (t : List (List Int)) (p : List Nat) : Prop where
  len : p.length ≤ t.length
  at_ : ∀ k i, p[k]? = some i → i < (tRow t k).length
theorem valsA_len (t : List (List Int)) (p : List Nat) : (valsA t p).length = p.length := by simp [valsA, idx_len]
theorem tab_at' {t : List (List Int)} {p : List Nat} (h : TabOk t p) {k i : Nat} (h1 : p[k]? = some i) : t[k]? = some (tRow t k) ∧ (tRow t k)[i]? = some (tAt t k i) := by
  obtain ⟨h2, h3⟩ := List.getElem?_eq_some_iff.mp h1
  have h4 := h.at_ k i h1
  have hl := h.len
  refine ⟨?_, ?_⟩
  · unfold tRow
    rw [List.getD_eq_getElem?_getD, List.getElem?_eq_getElem (by omega)]; rfl
  · unfold tAt
    rw [List.getD_eq_getElem?_getD, List.getElem?_eq_getElem h4]; rfl
theorem tab_at {t : List (List Int)} {p : List Nat} (h : TabOk t p) {x : Nat × Nat} (hx : x ∈ idx p) : t[x.1]? = some (tRow t x.1) ∧ (tRow t x.1)[x.2]? = some (tAt t x.1 x.2) := tab_at' h (idx_mem hx)
theorem posP_vals (t : List (List Int)) (p : List Nat) : posP (valsA t p) = ((idx p).filter fun x => decide (0 < tAt t x.1 x.2)).map fun x => (-(tAt t x.1 x.2), (x.1 : Int)) := by
  have e : idx (valsA t p) = (idx p).map fun x => (x.1, tAt t x.1 x.2) := by
    refine List.ext_getElem? fun i => ?_
    rw [List.getElem?_map]
    rcases Nat.lt_or_ge i p.length with h | h
    · have hl : i < (idx (valsA t p)).length := by rw [idx_len, valsA_len]; exact h
      have hl2 : i < (idx p).length := by rw [idx_len]; exact h
      have a := idx_get (List.getElem?_eq_getElem hl)
      have b := idx_get (List.getElem?_eq_getElem hl2)
      rw [List.getElem?_eq_getElem hl, List.getElem?_eq_getElem hl2, Option.map_some]
      congr 1
      refine Prod.ext (by rw [a.1, b.1]) ?_
      have a2 := a.2
      unfold valsA at a2
      rw [List.getElem?_map, List.getElem?_eq_getElem hl2, Option.map_some] at a2
      exact (Option.some.inj a2).symm
    · rw [List.getElem?_eq_none (by rw [idx_len, valsA_len]; exact h), List.getElem?_eq_none (by rw [idx_len]; exact h)]; rfl
  unfold posP
  rw [e, List.filter_map, List.map_map]; rfl
theorem posP_len (vs : List Int) : (posP vs).length ≤ vs.length := by
  unfold posP
  rw [List.length_map]
  have := List.length_filter_le (fun x : Nat × Int => decide (0 < x.2)) (idx vs)
  rw [idx_len] at this; exact this
theorem chs_len (m : Nat) (vs : List Int) : (chs m vs).length ≤ m ∧ (chs m vs).length ≤ vs.length := by
  unfold chs
  have := posP_len vs
  have := (sortP_perm (posP vs)).length_eq
  rw [List.length_take]; omega
theorem chs_mem {m : Nat} {vs : List Int} {x : Int × Int} (h : x ∈ chs m vs) : ∃ k : Nat, x.2 = (k : Int) ∧ k < vs.length ∧ vs[k]? = some (-x.1) ∧ 0 < -x.1 := by
  have h := (sortP_perm (posP vs)).mem_iff.mp (List.mem_of_mem_take h)
  obtain ⟨y, hy, rfl⟩ := List.mem_map.mp h
  obtain ⟨hy1, hy2⟩ := List.mem_filter.mp hy
  have := idx_mem hy1
  exact ⟨y.1, rfl, (List.getElem?_eq_some_iff.mp this).1, by simpa using this, by simpa using hy2⟩
theorem chosen_is {t : List (List Int)} {p : List Nat} {m : Int} (h : TabOk t p) (hp : p.length ≤ 100000) (hm : 0 ≤ m) (s : S) : f_chosen [tabD t, .int m, plD p] s = .ok (.lst ((chs m.toNat (valsA t p)).map fun x => .int x.2)) s := by
  rw [u_chosen]; unfold b_chosen plD
  simp -implicitDefEqProofs [enum_idx, idx_len, hp]
  rw [comp_pure (xs := idx p) (p := fun x => decide (0 < tAt t x.1 x.2)) (e := fun x => encP (-(tAt t x.1 x.2), (x.1 : Int)))]
  · have e : ((idx p).filter fun x => decide (0 < tAt t x.1 x.2)).map (fun x => encP (-(tAt t x.1 x.2), (x.1 : Int))) = (posP (valsA t p)).map encP := by
      rw [posP_vals, List.map_map]; rfl
    rw [e]
    simp -implicitDefEqProofs [gSortedV_L, g_sortP, gSl, cut_to' _ _ hm]
    have hl := (chs_len m.toNat (valsA t p)).2
    rw [valsA_len] at hl
    rw [← List.map_take, show List.take m.toNat (sortP (posP (valsA t p))) = chs m.toNat (valsA t p) from rfl]
    rw [if_pos (by unfold chs at hl; rw [List.length_take] at hl; omega)]
    rw [comp_map (xs := chs m.toNat (valsA t p)) (enc := encP) (e := fun x => .int x.2)]
    · simp
    · intro x hx
      exact ⟨_, rfl, fun s => by simp -implicitDefEqProofs⟩
  · intro x hx
    obtain ⟨a1, a2⟩ := tab_at h hx
    refine ⟨_, rfl, fun s => ?_, fun _ s => ?_⟩
    · simp -implicitDefEqProofs [tabD, a1, a2]
    · simp -implicitDefEqProofs [tabD, a1, a2, encP]

/-! ### weights of places -/
def bRow (bs : List (List P2)) (k : Nat) : List P2 := bs.getD k []
def bAt (bs : List (List P2)) (k i : Nat) : P2 := (bRow bs k).getD i (0, 0)
def mulL1 (l : List Int) : Int := l.foldl (· * ·) 1
def wt (bs : List (List P2)) (p : List Nat) : Int := mulL1 ((idx p).map fun x => (bAt bs x.1 x.2).2)
def totW (bs : List (List P2)) : Int := mulL1 (bs.map tot)
theorem mulL1_snoc (l : List Int) (a : Int) : mulL1 (l ++ [a]) = mulL1 l * a := by unfold mulL1; rw [List.foldl_append]; rfl
theorem totW_snoc (bs : List (List P2)) (b : List P2) : totW (bs ++ [b]) = totW bs * tot b := by unfold totW; rw [List.map_append]; exact mulL1_snoc _ _
theorem mulL1_bd {n : Nat} : ∀ (l : List Int), (∀ a ∈ l, Bd n a) → Bd (n * l.length + 1) (mulL1 l) := by
  intro l h
  rcases List.eq_nil_or_concat l with e | ⟨l', a, e⟩
  · subst e; simp [mulL1, Bd]
  · subst e
    rw [List.concat_eq_append] at *
    have ih := mulL1_bd l' fun b hb => h b (by simp [hb])
    rw [mulL1_snoc, List.length_append, List.length_singleton]
    exact (ih.mul (h a (by simp))).mono (by rw [Nat.mul_add]; omega)
termination_by l => l.length
decreasing_by simp_all
theorem mulL1_pos : ∀ (l : List Int), (∀ a ∈ l, 0 < a) → 0 < mulL1 l := by
  intro l h
  rcases List.eq_nil_or_concat l with e | ⟨l', a, e⟩
  · subst e; decide
  · subst e
    rw [List.concat_eq_append] at *
    have ih := mulL1_pos l' fun b hb => h b (by simp [hb])
    rw [mulL1_snoc]
    exact Int.mul_pos ih (h a (by simp))
termination_by l => l.length
decreasing_by simp_all
structure PlOk (bs : List (List P2)) (p : List Nat) : Prop where
  len : p.length = bs.length
  at_ : ∀ k i, p[k]? = some i → i < (bRow bs k).length
theorem plc_ok {bs : List (List P2)} {p : List Nat} (h : p ∈ plc bs) : PlOk bs p := by
  have ⟨h1, h2⟩ := plc_mem.mp h
  refine ⟨h1, fun k i e => ?_⟩
  have hk := (List.getElem?_eq_some_iff.mp e).1
  have := h2 k (by omega)
  rw [List.getD_eq_getElem?_getD, e] at this
  exact this
theorem PlOk.get {bs : List (List P2)} {p : List Nat} (h : PlOk bs p) {k i : Nat} (e : p[k]? = some i) : bs[k]? = some (bRow bs k) ∧ (bRow bs k)[i]? = some (bAt bs k i) ∧ bRow bs k ∈ bs ∧ bAt bs k i ∈ bRow bs k := by
  have hk := (List.getElem?_eq_some_iff.mp e).1
  have hi := h.at_ k i e
  have hl := h.len
  have e1 : bs[k]? = some (bRow bs k) := by
    unfold bRow
    rw [List.getD_eq_getElem?_getD, List.getElem?_eq_getElem (by omega)]; rfl
  have e2 : (bRow bs k)[i]? = some (bAt bs k i) := by
    unfold bAt
    rw [List.getD_eq_getElem?_getD, List.getElem?_eq_getElem hi]; rfl
  exact ⟨e1, e2, List.mem_of_getElem? e1, List.mem_of_getElem? e2⟩
section
variable {bs : List (List P2)} {m : Int}
theorem wt_fac (v : VS bs m) {p : List Nat} (h : PlOk bs p) : ∀ a ∈ (idx p).map fun x => (bAt bs x.1 x.2).2, 0 < a ∧ Bd 30 a := fun a ha => by
  obtain ⟨x, hx, rfl⟩ := List.mem_map.mp ha
  obtain ⟨_, _, h3, h4⟩ := h.get (idx_mem hx)
  have := (v.ok _ h3).ok _ h4
  exact ⟨by omega, by unfold Bd; omega⟩
theorem totW_ok (v : VS bs m) : 0 < totW bs ∧ Bd 133 (totW bs) := by
  have l4 := v.len4
  have key : ∀ a ∈ bs.map tot, 0 < a ∧ Bd 33 a := fun a ha => by
    obtain ⟨b, hb, rfl⟩ := List.mem_map.mp ha
    have := v.ok b hb
    have h := sum_bd b fun y hy => (this.ok y hy).2.2
    have := this.len1
    have := (v.ok b hb).len5
    exact ⟨by omega, by unfold Bd; omega⟩
  refine ⟨mulL1_pos _ fun a ha => (key a ha).1, (mulL1_bd _ fun a ha => (key a ha).2).mono ?_⟩
  rw [List.length_map]; omega
end

def tabR (rows : List (List Rat)) : List (List Int) := rows.map fun r => r.map (sc (scU rows))
structure RwFit (bs : List (List P2)) (rows : List (List Rat)) : Prop where
  len : rows.length = bs.length
  at_ : ∀ k, (rows.getD k []).length = (bRow bs k).length
theorem tab_ok {bs : List (List P2)} {rows : List (List Rat)} (h : RwFit bs rows) {p : List Nat} (hp : PlOk bs p) : TabOk (tabR rows) p := by
  refine ⟨by unfold tabR; rw [List.length_map, h.len, hp.len]; exact Nat.le_refl _, fun k i e => ?_⟩
  have := hp.at_ k i e
  have hk := (List.getElem?_eq_some_iff.mp e).1
  have hl := hp.len
  have e1 := h.at_ k
  have hr := h.len
  unfold tRow tabR
  rw [List.getD_eq_getElem?_getD, List.getElem?_map, List.getElem?_eq_getElem (by omega)]
  rw [List.getD_eq_getElem?_getD, List.getElem?_eq_getElem (by omega)] at e1
  simp at e1 ⊢
  omega

theorem ch_adj {x y : Nat → Rat} {m : Nat} : ∀ {L : List Nat}, Ch x y m L → ∀ (i a b : Nat), L.reverse[i]? = some a → L.reverse[i + 1]? = some b → a < b ∧ ∀ k, k ≤ m → und x y a b k
  | [], h, _, _, _, _, _ => h.elim
  | [t], h, i, a, b, h1, h2 => by simp at h2
  | t :: s :: r, h, i, a, b, h1, h2 => by
    rw [List.reverse_cons] at h1 h2
    have hl : (s :: r).reverse.length = r.length + 1 := by simp
    rcases Nat.lt_trichotomy (i + 1) (r.length + 1) with z | z | z
    · rw [List.getElem?_append_left (by omega)] at h1 h2
      exact ch_adj h.2.2 i a b h1 h2
    · rw [List.getElem?_append_left (by omega)] at h1
      rw [List.getElem?_append_right (by omega), hl, z] at h2
      have e1 : i = r.length := by omega
      subst e1
      simp at h1 h2
      subst h1 h2
      exact ⟨h.1, h.2.1⟩
    · rw [List.getElem?_append_right (by omega), hl] at h2
      have := (List.getElem?_eq_some_iff.mp h2).1
      simp at this
      omega
theorem ch_first {x y : Nat → Rat} {m : Nat} : ∀ {L : List Nat}, Ch x y m L → L.reverse[0]? = some 0 ∧ ∀ t r, L = t :: r → ∀ a ∈ L, a ≤ t
  | [], h => h.elim
  | [t], h => ⟨by have : t = 0 := h; simp [this], fun u r e a ha => by cases e; simp at ha; omega⟩
  | t :: s :: r, h => by
    have ih := ch_first h.2.2
    refine ⟨?_, fun u q e a ha => ?_⟩
    · rw [List.reverse_cons, List.getElem?_append_left (by simp)]; exact ih.1
    · cases e
      rcases List.mem_cons.mp ha with z | z
      · omega
      · have := ih.2 s r rfl a z
        have := h.1
        omega

theorem hull_HulF {zs : List P2} {n : Nat} (h : Pz zs n) (s : S) : ∃ L, f_hull [.lst (zs.map encB)] s = .ok (.lst ((0 :: L).map iD)) s ∧ HulF (xq zs) (yq zs) n (0 :: L) ∧ L.length ≤ n := by
  obtain ⟨st, hh, hc⟩ := hull_is h s
  have fst := (ch_first hc).1
  have hb := ch_bot hc
  obtain ⟨L, hL⟩ : ∃ L, (n :: st).reverse = 0 :: L := by
    cases e : (n :: st).reverse with
    | nil => simp at e
    | cons a L => rw [e] at fst; simp at fst; exact ⟨L, by rw [fst]⟩
  have hl := congrArg List.length hL
  simp at hl hb
  refine ⟨L, by rw [← hL]; exact hh, hulF_of (by rw [← hL]; simp) fun i a b h1 h2 => ch_adj hc i a b (by rw [hL]; exact h1) (by rw [hL]; exact h2), by omega⟩
theorem take_two {α : Type} {L : List α} {i : Nat} {a b : α} (h1 : L[i]? = some a) (h2 : L[i + 1]? = some b) : L.take (i + 1) = L.take i ++ [a] ∧ L.take (i + 2) = L.take i ++ [a, b] := by
  obtain ⟨l1, e1⟩ := List.getElem?_eq_some_iff.mp h1
  obtain ⟨l2, e2⟩ := List.getElem?_eq_some_iff.mp h2
  have a1 : L.take (i + 1) = L.take i ++ [a] := by rw [List.take_succ_eq_append_getElem l1, e1]
  refine ⟨a1, ?_⟩
  rw [List.take_succ_eq_append_getElem l2, a1, e2]; simp
theorem hul_adj {x y : Nat → Rat} {n : Nat} : ∀ {L : List Nat}, HulF x y n L → ∀ i a b, L[i]? = some a → L[i + 1]? = some b → a < b ∧ b ≤ n
  | [], h, _, _, _, _, _ => h.elim
  | [c], h, i, a, b, h1, h2 => by simp at h2
  | c :: d :: r, h, 0, a, b, h1, h2 => by
    simp at h1 h2
    subst h1 h2
    exact ⟨h.1, hul_le h.2.2⟩
  | c :: d :: r, h, i + 1, a, b, h1, h2 => hul_adj h.2.2 i a b (by simpa using h1) (by simpa using h2)
theorem segs_take (f : Nat → Nat → Rat) : ∀ (L : List Nat) (k : Nat), (segs f (L.take k)).length ≤ (segs f L).length
  | [], k => by simp [segs]
  | [a], k => by cases k <;> simp [segs]
  | a :: b :: r, 0 => by simp [segs]
  | a :: b :: r, 1 => by simp [segs]
  | a :: b :: r, k + 2 => by
    have ih := segs_take f (b :: r) (k + 1)
    show (List.replicate (b - a) (f a b) ++ segs f ((b :: r).take (k + 1))).length ≤ (List.replicate (b - a) (f a b) ++ segs f (b :: r)).length
    rw [List.length_append, List.length_append]; omega
theorem segs_uniq {x y : Nat → Rat} {n : Nat} (hx : Inc x n) {L L' : List Nat} (h : HulF x y n (0 :: L)) (h' : HulF x y n (0 :: L')) : segs (slo x y) (0 :: L) = segs (slo x y) (0 :: L') := by
  have l1 := segs_len (slo x y) h
  have l2 := segs_len (slo x y) h'
  refine List.ext_getElem? fun i => ?_
  rcases Nat.lt_or_ge i n with z | z
  · have a := segs_lev h i _ (List.getElem?_eq_getElem (by omega))
    have b := segs_lev h' i _ (List.getElem?_eq_getElem (by omega))
    rw [List.getElem?_eq_getElem (by omega), List.getElem?_eq_getElem (by omega)]
    rw [Rat.le_antisymm (lev_mono hx b a (Nat.le_refl _)) (lev_mono hx a b (Nat.le_refl _))]
  · rw [List.getElem?_eq_none (by omega), List.getElem?_eq_none (by omega)]
/-- the slopes of the hull, from the right -/
structure Lvl (zs : List P2) (n : Nat) (lv : List Rat) : Prop where
  ex : ∃ L, HulF (xq zs) (yq zs) n (0 :: L) ∧ lv = segs (sq zs) (0 :: L)
theorem mul_one_rep (d : D) (k : Int) (h0 : 0 ≤ k) (h1 : k ≤ 10) : gMul (.lst [d]) (.int k) = some (.lst (List.replicate k.toNat d)) := by
  show (if k ≤ 100000 ∧ -100000 ≤ k ∧ [d].length * k.toNat ≤ 100000 then some (D.lst (List.replicate k.toNat [d]).flatten) else none) = _
  rw [if_pos ⟨by omega, by omega, by simp; omega⟩]
  congr 2
  generalize k.toNat = m
  induction m with
  | zero => rfl
  | succ m ih => rw [List.replicate_succ, List.flatten_cons, ih, List.replicate_succ]; rfl
theorem e_ext {δ : En} {s : S} (i) (f : En → M D) : cExt i f δ s = (lift (ownL δ i) s).bind fun ds s0 => (f δ s0).bind fun d s1 => (lift (asLst d) s1).bind fun es s2 => if ds.length + es.length ≤ 100000 then .ok (.next (δ.set i (some (.lst (ds ++ es))))) s2 else .stuck := rfl
theorem Lvl.bd {zs : List P2} {n : Nat} {lv : List Rat} (h : Lvl zs n lv) (hz : Pz zs n) : lv.length = n ∧ ∀ q ∈ lv, Bd 300 q.num ∧ Bd 100 (q.den : Int) ∧ (q.den : Int) < 2 ^ 40 := by
  obtain ⟨L, h1, rfl⟩ := h.ex
  refine ⟨by have := segs_len (sq zs) h1; omega, fun q hq => ?_⟩
  obtain ⟨i, j, hij, hj, rfl⟩ := segs_mem (sq zs) h1 hq
  have b := hz.bd hij hj
  exact ⟨b.2.2.2.mono (by decide), by unfold Bd; have := b.2.2.1; omega, b.2.2.1⟩

theorem levels_of_segs {ys : List P2} (v : VU ys) (s : S) : ∃ L, HulF (xq (pts ys)) (yq (pts ys)) ys.length (0 :: L) ∧ f_levels_of [buD ys] s = .ok (.lst ((segs (sq (pts ys)) (0 :: L)).map frD).reverse) s := by
  have h := pts_ok v
  generalize hn : ys.length = n at h
  have n5 := h.n5
  obtain ⟨L0, hh, hc, hl⟩ := hull_HulF h s
  generalize hzs : pts ys = zs at h hh hc
  refine ⟨L0, hc, ?_⟩
  have hadj := hul_adj hc
  generalize hL : 0 :: L0 = L at hh hc hadj
  have hlen : L.length = L0.length + 1 := by rw [← hL]; simp
  have hst := stair_is v s
  rw [hzs] at hst
  have key := for_inv (tg := tgName 4) (F := l1_levels_of) (enc := fun (i : Nat) => D.int (i : Int)) (xs := List.range L0.length)
    (fun pre δ s' => s' = s ∧ ∃ d e f, δ = [some (buD ys), some (.lst (zs.map encB)), some (.lst (L.map iD)), some (.lst ((segs (sq zs) (L.take (pre.length + 1))).map frD)), d, e, f])
    (δ := [some (buD ys), some (.lst (zs.map encB)), some (.lst (L.map iD)), some (.lst []), none, none, none]) (s := s) ⟨rfl, none, none, none, by rw [← hL]; rfl⟩ ?_
  · obtain ⟨δ', s', h1, rfl, d, e, f, rfl⟩ := key
    have r1 : gR1 [.int ((L.length : Int) - 1)] = some (upto 0 L0.length) := by
      rw [hlen, show ((L0.length + 1 : Nat) : Int) - 1 = (L0.length : Int) by omega]
      exact g_r1 _ (by omega)
    rw [List.length_range, ← hlen, List.take_length] at h1
    rw [u_levels_of]; unfold b_levels_of
    simp [hst, hh, r1]
    rw [upto0, h1]; simp
  · rintro pre x post δ s' e ⟨rfl, d, e', f, rfl⟩
    obtain ⟨hx, hp⟩ := range_split e
    subst hx
    obtain ⟨a, ha⟩ : ∃ a, L[pre.length]? = some a := ⟨L[pre.length]'(by omega), List.getElem?_eq_getElem (by omega)⟩
    obtain ⟨b, hb⟩ : ∃ b, L[pre.length + 1]? = some b := ⟨L[pre.length + 1]'(by omega), List.getElem?_eq_getElem (by omega)⟩
    obtain ⟨a1, a3⟩ := hadj _ _ _ ha hb
    obtain ⟨t1, t2⟩ := take_two ha hb
    have sl := slope_is h a1 a3 s'
    have p1 : atI (zs.map encB) (a : Int) = some (encB (pz zs a)) := by rw [at_nat]; exact h.at (by omega)
    have p2 : atI (zs.map encB) (b : Int) = some (encB (pz zs b)) := by rw [at_nat]; exact h.at (by omega)
    have q1 : atI (L.map iD) (pre.length : Int) = some (.int (a : Int)) := by rw [at_nat, List.getElem?_map, ha]; rfl
    have q2 : atI (L.map iD) ((pre.length : Int) + 1) = some (.int (b : Int)) := by
      rw [show (pre.length : Int) + 1 = ((pre.length + 1 : Nat) : Int) by omega, at_nat, List.getElem?_map, hb]; rfl
    have rep := mul_one_rep (frD (sq zs a b)) ((b : Int) - (a : Int)) (by omega) (by omega)
    rw [show ((b : Int) - (a : Int)).toNat = b - a by omega] at rep
    have hle : (segs (sq zs) (L.take (pre.length + 1))).length ≤ 50 := by
      have a := segs_take (sq zs) L (pre.length + 1)
      rw [← hL] at a hc
      have b := segs_len (sq zs) hc
      rw [← hL]; omega
    refine ⟨_, [some (buD ys), some (.lst (zs.map encB)), some (.lst (L.map iD)), some (.lst ((segs (sq zs) (L.take (pre.length + 2))).map frD)), some (.int (pre.length : Int)), some (.int (a : Int)), some (.int (b : Int))], s', rfl, ?_, rfl, some (.int (pre.length : Int)), some (.int (a : Int)), some (.int (b : Int)), by simp⟩
    unfold l1_levels_of
    rw [t2, segs_snoc, ← t1]
    simp [q1, q2, p1, p2, sl, rep, e_ext, -at_nat]
    omega
theorem levels_of_is {ys : List P2} (v : VU ys) : ∃ lv, Lvl (pts ys) ys.length lv ∧ ∀ s, f_levels_of [buD ys] s = .ok (rwD lv.reverse) s := by
  obtain ⟨L, h1, h2⟩ := levels_of_segs v ⟨[], 0, 0, 0⟩
  refine ⟨_, ⟨L, h1, rfl⟩, fun s => ?_⟩
  obtain ⟨L', h3, h4⟩ := levels_of_segs v s
  rw [h4, show segs (sq (pts ys)) (0 :: L') = segs (sq (pts ys)) (0 :: L) from segs_uniq (pts_ok v).inc h3 h1]
  simp [rwD]

/-! ### who gets what and pays what -/
def isIn (m : Nat) (vs : List Int) (k : Nat) : Bool := (chs m vs).any fun x => x.2 == (k : Int)
def priceF (bs : List (List P2)) (m : Nat) (t : List (List Int)) (p : List Nat) (k : Nat) : Int :=
  match (idx (bRow bs k)).find? (fun x => isIn m (valsA t (p.set k x.1)) k) with | some x => x.2.1 | none => 0
def getsF (m : Nat) (t : List (List Int)) (p : List Nat) : List Bool := (List.range p.length).map fun k => isIn m (valsA t p) k
def paysF (bs : List (List P2)) (m : Nat) (t : List (List Int)) (p : List Nat) : List Int := (List.range p.length).map fun k => if isIn m (valsA t p) k then priceF bs m t p k else 0
theorem in_chs (m : Nat) (vs : List Int) (k : Nat) : gIn (.int (k : Int)) (.lst ((chs m vs).map fun x => .int x.2)) = some (.bl (isIn m vs k)) := by
  show (if PV.scal (.int (k : Int)) && ((chs m vs).map fun x => D.int x.2).all PV.scal then some (D.bl (if false then _ else ((chs m vs).map fun x => D.int x.2).any (eqS · (.int (k : Int))))) else none) = _
  have e1 : ((chs m vs).map fun x => D.int x.2).all PV.scal = true := by simp [PV.scal]
  rw [e1, if_pos (by rfl)]
  congr 2
  simp only [Bool.false_eq_true, if_false]
  unfold isIn
  rw [List.any_map]; rfl
theorem set_cut {p : List Nat} {k i : Nat} (h : k < p.length) : p.take k ++ [i] ++ p.drop (k + 1) = p.set k i := by
  rw [List.set_eq_take_append_cons_drop, if_pos h]; simp
theorem TabOk.set {t : List (List Int)} {p : List Nat} (h : TabOk t p) {k i : Nat} (hi : i < (tRow t k).length) : TabOk t (p.set k i) := by
  refine ⟨by rw [List.length_set]; exact h.len, fun j a e => ?_⟩
  rw [List.getElem?_set] at e
  split at e
  · rename_i hk
    split at e
    · cases e; rw [← hk]; exact hi
    · cases e
  · exact h.at_ j a e
theorem price_at_is {bs : List (List P2)} {m : Int} {t : List (List Int)} {p : List Nat} {k : Nat} (hb : PlOk bs p) (h4 : bs.length ≤ 4) (ht : TabOk t p) (hw : ∀ k, k < bs.length → (tRow t k).length = (bRow bs k).length) (hm : 0 ≤ m) (hk : k < p.length) (s : S) :
    f_price_at [salD bs m, tabD t, plD p, .int (k : Int)] s = .ok (.int (priceF bs m.toNat t p k)) s := by
  have hl := hb.len
  obtain ⟨r1, _⟩ := hb.get (List.getElem?_eq_getElem hk)
  have key := for_find (tg := tgTup 2 (tgCons (tgName 4) (tgCons (tgTup 2 (tgCons (tgName 5) (tgCons (tgName 6) tgNil))) tgNil))) (F := l1_price_at) (enc := fun (x : Nat × P2) => D.tup [.int (x.1 : Int), encB x.2])
    (fun δ => ∃ d e f, δ = [some (salD bs m), some (tabD t), some (plD p), some (.int (k : Int)), d, e, f]) (fun x => isIn m.toNat (valsA t (p.set k x.1)) k) (fun x => .int x.2.1)
    (xs := idx (bRow bs k)) (δ := [some (salD bs m), some (tabD t), some (plD p), some (.int (k : Int)), none, none, none]) (s := s) (by
      rintro x hx δ ⟨d, e, f, rfl⟩
      have hx2 := idx_mem hx
      have hi := (List.getElem?_eq_some_iff.mp hx2).1
      have ht2 := ht.set (k := k) (i := x.1) (by rw [hw k (by omega)]; exact hi)
      have hc := chosen_is (m := m) ht2 (by rw [List.length_set]; omega) hm
      have key : ∀ s, l1_price_at [some (salD bs m), some (tabD t), some (plD p), some (.int (k : Int)), some (.int (x.1 : Int)), some (.int x.2.1), some (.int x.2.2)] s = if isIn m.toNat (valsA t (p.set k x.1)) k then .ok (.ret (.int x.2.1)) s else .ok (.next [some (salD bs m), some (tabD t), some (plD p), some (.int (k : Int)), some (.int (x.1 : Int)), some (.int x.2.1), some (.int x.2.2)]) s := fun s => by
        have ec : (cutD (p.map fun (i : Nat) => D.int (i : Int)) none (some (k : Int)) ++ [D.int (x.1 : Int)] ++ cutD (p.map fun (i : Nat) => D.int (i : Int)) (some ((k : Int) + 1)) none) = (p.set k x.1).map fun (i : Nat) => D.int (i : Int) := by
          rw [cut_to, show ((k : Int) + 1) = ((k + 1 : Nat) : Int) by omega, cut_from _ _ (by rw [List.length_map]; omega), ← set_cut hk]; simp
        have l1 : (cutD (p.map fun (i : Nat) => D.int (i : Int)) none (some (k : Int))).length ≤ 4 := by rw [cut_to, List.length_take, List.length_map]; omega
        have l2 : (cutD (p.map fun (i : Nat) => D.int (i : Int)) (some ((k : Int) + 1)) none).length ≤ 4 := by rw [show ((k : Int) + 1) = ((k + 1 : Nat) : Int) by omega, cut_from _ _ (by rw [List.length_map]; omega), List.length_drop, List.length_map]; omega
        unfold l1_price_at
        simp -implicitDefEqProofs [gSl, plD]
        rw [g_addT _ _ (by simp; omega)]
        simp -implicitDefEqProofs only [lift_some, bind_ok]
        rw [g_addT _ _ (by simp; omega), ec]
        simp -implicitDefEqProofs only [lift_some, bind_ok]
        rw [show D.tup ((p.set k x.1).map fun (i : Nat) => D.int (i : Int)) = plD (p.set k x.1) from rfl]
        simp -implicitDefEqProofs [hc, in_chs]
      refine ⟨_, rfl, fun hp s => ?_, fun hp => ⟨_, ⟨some (.int (x.1 : Int)), some (.int x.2.1), some (.int x.2.2), rfl⟩, fun s => ?_⟩⟩
      · have := key s; rw [hp, if_pos rfl] at this; exact this
      · have := key s; rw [hp, if_neg (by simp)] at this; exact this) ⟨none, none, none, rfl⟩
  rw [u_price_at]; unfold b_price_at
  simp -implicitDefEqProofs [r1, buD, enum_idx]
  unfold priceF
  cases hf : (idx (bRow bs k)).find? (fun x => isIn m.toNat (valsA t (p.set k x.1)) k) with
  | some x =>
    rw [key.1 x hf]; simp -implicitDefEqProofs
  | none =>
    obtain ⟨δ', ⟨d, e, f, rfl⟩, h2⟩ := key.2 hf
    rw [h2]; simp -implicitDefEqProofs
theorem sold_at_is {bs : List (List P2)} {m : Int} {t : List (List Int)} {p : List Nat} (hb : PlOk bs p) (h4 : bs.length ≤ 4) (ht : TabOk t p) (hw : ∀ k, k < bs.length → (tRow t k).length = (bRow bs k).length) (hm : 0 ≤ m) (s : S) :
    f_sold_at [salD bs m, tabD t, plD p] s = .ok (.tup [.tup ((getsF m.toNat t p).map D.bl), .tup ((paysF bs m.toNat t p).map D.int)]) s := by
  have hl := hb.len
  have hc := chosen_is (m := m) ht (by omega) hm
  have pa := fun k (hk : k < p.length) => price_at_is hb h4 ht hw hm hk
  rw [u_sold_at]; unfold b_sold_at
  simp -implicitDefEqProofs [hc]
  simp -implicitDefEqProofs [plD, g_r1 p.length (by omega), upto0, show p.length ≤ 100000 by omega]
  rw [show D.tup (p.map fun (i : Nat) => D.int (i : Int)) = plD p from rfl]
  rw [comp_map (xs := List.range p.length) (enc := fun (i : Nat) => D.int (i : Int)) (e := fun k => .bl (isIn m.toNat (valsA t p) k))]
  · simp -implicitDefEqProofs [plD, g_r1 p.length (by omega), upto0, show p.length ≤ 100000 by omega]
    rw [show D.tup (p.map fun (i : Nat) => D.int (i : Int)) = plD p from rfl]
    rw [comp_map (xs := List.range p.length) (enc := fun (i : Nat) => D.int (i : Int)) (e := fun k => .int (if isIn m.toNat (valsA t p) k then priceF bs m.toNat t p k else 0))]
    · simp -implicitDefEqProofs [getsF, paysF, Function.comp_def]
    · intro k hk
      have hk := List.mem_range.mp hk
      refine ⟨_, rfl, fun s => ?_⟩
      have e : ((List.range p.length).map fun k => D.bl (isIn m.toNat (valsA t p) k))[k]? = some (.bl (isIn m.toNat (valsA t p) k)) := by rw [List.getElem?_map, List.getElem?_range hk]; rfl
      simp -implicitDefEqProofs only [e_if, e_tst, e_op, e_var, List.getElem?_cons_succ, List.getElem?_cons_zero, List.set_cons_succ, List.set_cons_zero, Option.join_some, lift_some, bind_ok, g_ixT, at_nat, e, g_asB]
      cases isIn m.toNat (valsA t p) k with
      | true => simp -implicitDefEqProofs [pa k hk]
      | false => simp -implicitDefEqProofs
  · intro k hk
    exact ⟨_, rfl, fun s => by simp -implicitDefEqProofs [in_chs]⟩

def bidsF (bs : List (List P2)) (p : List Nat) : List Int := (idx p).map fun x => (bAt bs x.1 x.2).1
theorem bids_at_is {bs : List (List P2)} {m : Int} {p : List Nat} (hb : PlOk bs p) (h4 : bs.length ≤ 4) (s : S) : f_bids_at [salD bs m, plD p] s = .ok (.tup ((bidsF bs p).map D.int)) s := by
  have hl := hb.len
  rw [u_bids_at]; unfold b_bids_at plD
  simp -implicitDefEqProofs [enum_idx, idx_len, show p.length ≤ 100000 by omega]
  rw [comp_map (xs := idx p) (e := fun x => .int (bAt bs x.1 x.2).1)]
  · simp -implicitDefEqProofs [bidsF, Function.comp_def]
  · intro x hx
    obtain ⟨a1, a2, a3, a4⟩ := hb.get (idx_mem hx)
    exact ⟨_, rfl, fun s => by simp -implicitDefEqProofs [a1, a2, buD, encB]⟩

/-! ### the draw of a buyer -/
theorem draw_is (s : S) {m : Int} (h0 : 0 < m) (h1 : m < 1073741824) : ∃ v s', 0 ≤ v ∧ v < m ∧ drawF [.row, .int m] s = .ok (.int v) s' :=
  ⟨(draw s m).1, (draw s m).2, (draw_lt s h0).1, (draw_lt s h0).2, by show (if 0 < m ∧ m < 1073741824 then _ else _) = _; rw [if_pos ⟨h0, h1⟩]⟩
theorem pick4 {a b c d v : Int} (h0 : 0 ≤ v) (h1 : v < 4) : ∃ m, atI [D.int a, D.int b, D.int c, D.int d] v = some (.int m) ∧ (m = a ∨ m = b ∨ m = c ∨ m = d) := by
  have : v = 0 ∨ v = 1 ∨ v = 2 ∨ v = 3 := by omega
  rcases this with rfl | rfl | rfl | rfl
  · exact ⟨a, rfl, by simp⟩
  · exact ⟨b, rfl, by simp⟩
  · exact ⟨c, rfl, by simp⟩
  · exact ⟨d, rfl, by simp⟩
theorem pow6 : gPow (.int 10) (.int 6) = some (.int 1000000) := g_pow 10 6
theorem pow8 : gPow (.int 10) (.int 8) = some (.int 100000000) := g_pow 10 8

theorem law_buyer_is {n : Int} (n1 : 1 ≤ n) (n5 : n ≤ 5) (s : S) : ∃ ys s', VU ys ∧ (ys.length : Int) ≤ n ∧ (∀ y ∈ ys, y.2 ≤ 100000000 ∧ y.1 ≤ 6000000) ∧ f__law_buyer [.row, .int n] s = .ok (buD ys) s' := by
  obtain ⟨w0, s1, a1, a2, a3⟩ := draw_is s (m := 4) (by omega) (by omega)
  obtain ⟨c0, s2, b1, b2, b3⟩ := draw_is s1 (m := 4) (by omega) (by omega)
  obtain ⟨st, p1, p2⟩ := pick4 (a := 1) (b := 3) (c := 9) (d := 1000000) b1 b2
  obtain ⟨k, s3, k1, k2, k3⟩ := draw_is s2 (m := n) (by omega) (by omega)
  have hst : 0 < st ∧ st ≤ 1000000 := by omega
  have key := for_inv (tg := tgName 5) (F := l1__law_buyer) (enc := fun (i : Nat) => D.int (i : Int)) (xs := List.range (k.toNat + 1))
    (fun pre δ s' => ∃ (ys : List P2) (w : Int) (d : Option D), δ = [some .row, some (.int n), some (.int w), some (.lst (ys.map encB)), some (.int st), d] ∧ ys.length = pre.length ∧ (∀ y ∈ ys, 0 ≤ y.1 ∧ y.1 < w ∧ 1 ≤ y.2 ∧ y.2 ≤ 100000000) ∧ ys.Pairwise (fun a b => a.1 < b.1) ∧ 0 ≤ w ∧ w ≤ 3 + 1000000 * pre.length)
    (δ := [some .row, some (.int n), some (.int w0), some (.lst []), some (.int st), none]) (s := s3) ⟨[], w0, none, rfl, rfl, by simp, by simp, a1, by simp; omega⟩ ?_
  · obtain ⟨δ', s', h1, ys, w, d, rfl, g1, g2, g3, g4, g5⟩ := key
    rw [List.length_range] at g1 g5
    refine ⟨ys, s', ⟨by omega, by omega, fun y hy => ?_, g3⟩, by omega, fun y hy => ?_, ?_⟩
    · have := g2 y hy
      omega
    · have := g2 y hy
      omega
    · have r1 : gR1 [.int (1 + k)] = some ((List.range (k.toNat + 1)).map fun (i : Nat) => D.int (i : Int)) := by
        have := g_r1 (k.toNat + 1) (by omega)
        rw [upto0] at this
        rw [show (1 + k) = ((k.toNat + 1 : Nat) : Int) by omega]; exact this
      rw [u__law_buyer]; unfold b__law_buyer
      simp -implicitDefEqProofs [a3, b3, k3, p1, pow6, r1]
      rw [h1]; simp [buD]
  · rintro pre x post δ s' e ⟨ys, w, d, rfl, g1, g2, g3, g4, g5⟩
    obtain ⟨hx, hpl⟩ := range_split e
    obtain ⟨c1, t1, q1, q2, q3⟩ := draw_is s' (m := 4) (by omega) (by omega)
    obtain ⟨m, r1, r2⟩ := pick4 (a := 1) (b := 3) (c := 9) (d := 100000000) q1 q2
    have hm : 0 < m ∧ m ≤ 100000000 := by omega
    obtain ⟨u, t2, u1, u2, u3⟩ := draw_is t1 (m := m) (by omega) (by omega)
    obtain ⟨z, t3, z1, z2, z3⟩ := draw_is t2 (m := st) (by omega) (by omega)
    refine ⟨_, [some .row, some (.int n), some (.int (w + 1 + z)), some (.lst ((ys ++ [(w, 1 + u)]).map encB)), some (.int st), some (.int (x : Int))], t3, rfl, ?_, ys ++ [(w, 1 + u)], w + 1 + z, _, rfl, by simp; omega, ?_, ?_, by omega, by simp; omega⟩
    · unfold l1__law_buyer
      simp -implicitDefEqProofs [q3, r1, u3, z3, pow8, encB, show ys.length < 100000 by omega]
    · intro y hy
      rcases List.mem_append.mp hy with q | q
      · have := g2 y q
        omega
      · have : y = (w, 1 + u) := by simpa using q
        subst this
        exact ⟨g4, by show w < w + 1 + z; omega, by show 1 ≤ 1 + u; omega, by show 1 + u ≤ _; omega⟩
    · refine List.pairwise_append.mpr ⟨g3, by simp, fun a ha b hb => ?_⟩
      have : b = (w, 1 + u) := by simpa using hb
      subst this
      exact (g2 a ha).2.1

/-! ### the greatest ones, one by one -/
theorem maxL_is {l : List Int} {a : Int} (h1 : a ∈ l) (h2 : ∀ b ∈ l, b ≤ a) : maxL l = a := by
  have hne : l ≠ [] := by intro z; rw [z] at h1; cases h1
  have ⟨a1, a2⟩ := maxL_spec hne
  exact Int.le_antisymm (h2 _ a1) (a2 _ h1)
theorem head_least : ∀ {l : List Nat} {k : Nat}, l.Pairwise (· < ·) → k ∈ l → (∀ j ∈ l, k ≤ j) → l.head? = some k
  | [], k, _, h, _ => by cases h
  | a :: l, k, hp, h, hm => by
    rcases List.mem_cons.mp h with e | e
    · rw [e]; rfl
    · have := (List.pairwise_cons.mp hp).1 k e
      have := hm a (by simp)
      omega
def hasN (L : List (Int × Int)) (k : Nat) : Bool := L.any fun y => y.2 == (k : Int)
theorem greedy {cand : List Nat} (hc : cand.Pairwise (· < ·)) (v : Nat → Int) (t : Nat) :
    ((sortP (cand.map fun (k : Nat) => (-v k, (k : Int)))).length ≤ t → cand.filter (fun k => !hasN ((sortP (cand.map fun (k : Nat) => (-v k, (k : Int)))).take t) k) = []) ∧
    ∀ x, (sortP (cand.map fun (k : Nat) => (-v k, (k : Int))))[t]? = some x → ∃ k0, x = (-v k0, (k0 : Int)) ∧ k0 ∈ cand.filter (fun k => !hasN ((sortP (cand.map fun (k : Nat) => (-v k, (k : Int)))).take t) k) ∧ (∀ k ∈ cand.filter (fun k => !hasN ((sortP (cand.map fun (k : Nat) => (-v k, (k : Int)))).take t) k), v k ≤ v k0) ∧
      ((cand.filter (fun k => !hasN ((sortP (cand.map fun (k : Nat) => (-v k, (k : Int)))).take t) k)).filter fun k => decide (v k = v k0)).head? = some k0 := by
  have hp := sortP_perm (cand.map fun (k : Nat) => (-v k, (k : Int)))
  have hs := sortP_sorted (cand.map fun (k : Nat) => (-v k, (k : Int)))
  generalize sortP (cand.map fun (k : Nat) => (-v k, (k : Int))) = L at *
  have nd : (L.map (·.2)).Nodup := by
    have h1 : (L.map (·.2)).Perm (cand.map fun (k : Nat) => (k : Int)) := by
      have := hp.map (·.2)
      rw [List.map_map] at this; exact this
    refine h1.nodup_iff.mpr (List.pairwise_map.mpr (hc.imp fun {a b} h z => ?_))
    omega
  have inL : ∀ k ∈ cand, (-v k, (k : Int)) ∈ L := fun k hk => hp.mem_iff.mpr (List.mem_map.mpr ⟨k, hk, rfl⟩)
  have ofL : ∀ y ∈ L, ∃ k ∈ cand, y = (-v k, (k : Int)) := fun y hy => by
    obtain ⟨k, hk, e⟩ := List.mem_map.mp (hp.mem_iff.mp hy)
    exact ⟨k, hk, e.symm⟩
  have split : L.take t ++ L.drop t = L := List.take_append_drop t L
  have restI : ∀ k, k ∈ cand.filter (fun k => !hasN (L.take t) k) ↔ k ∈ cand ∧ (-v k, (k : Int)) ∈ L.drop t := fun k => by
    rw [List.mem_filter]
    refine and_congr_right fun hk => ?_
    simp only [hasN, Bool.not_eq_true', List.any_eq_false, beq_iff_eq]
    constructor
    · intro h
      have := inL k hk
      rw [← split] at this
      rcases List.mem_append.mp this with z | z
      · exact absurd rfl (h _ z)
      · exact z
    · intro h y hy e
      rw [← split, List.map_append] at nd
      have := (List.nodup_append.mp nd).2.2 y.2 (List.mem_map.mpr ⟨y, hy, rfl⟩) (k : Int) (List.mem_map.mpr ⟨_, h, rfl⟩)
      exact this e
  refine ⟨fun hl => ?_, fun x hx => ?_⟩
  · refine List.eq_nil_iff_forall_not_mem.mpr fun k hk => ?_
    have := ((restI k).mp hk).2
    rw [List.drop_of_length_le hl] at this; cases this
  · obtain ⟨hlt, ex⟩ := List.getElem?_eq_some_iff.mp hx
    have hd : L.drop t = x :: L.drop (t + 1) := by rw [List.drop_eq_getElem_cons hlt, ex]
    obtain ⟨k0, hk0, e0⟩ := ofL x (List.mem_of_getElem? hx)
    subst e0
    have m0 : k0 ∈ cand.filter (fun k => !hasN (L.take t) k) := (restI k0).mpr ⟨hk0, by rw [hd]; simp⟩
    have hsd : (L.drop t).Pairwise (fun p q => lexLe p q = true) := by
      rw [← split] at hs
      exact (List.pairwise_append.mp hs).2.1
    have le : ∀ k ∈ cand.filter (fun k => !hasN (L.take t) k), k = k0 ∨ lexLe (-v k0, (k0 : Int)) (-v k, (k : Int)) = true := fun k hk => by
      have h2 := ((restI k).mp hk).2
      rw [hd] at h2 hsd
      rcases List.mem_cons.mp h2 with z | z
      · left
        have := congrArg (·.2) z
        simp at this; omega
      · exact .inr ((List.pairwise_cons.mp hsd).1 _ z)
    refine ⟨k0, rfl, m0, fun k hk => ?_, ?_⟩
    · rcases le k hk with z | z
      · rw [z]; exact Int.le_refl _
      · unfold lexLe at z
        simp at z; omega
    · refine head_least ((hc.filter _).filter _) (List.mem_filter.mpr ⟨m0, by simp⟩) fun j hj => ?_
      obtain ⟨j1, j2⟩ := List.mem_filter.mp hj
      have j2 : v j = v k0 := by simpa using j2
      rcases le j j1 with z | z
      · omega
      · unfold lexLe at z
        simp [j2] at z; omega
theorem range_pw (n : Nat) : (List.range n).Pairwise (· < ·) := List.pairwise_lt_range
def vget (vs : List Int) (k : Nat) : Int := vs.getD k 0
theorem idx_range {α : Type} (vs : List α) (d : α) : idx vs = (List.range vs.length).map fun k => (k, vs.getD k d) := by
  refine List.ext_getElem? fun i => ?_
  rw [List.getElem?_map]
  rcases Nat.lt_or_ge i vs.length with h | h
  · have hl : i < (idx vs).length := by rw [idx_len]; exact h
    have a := idx_get (List.getElem?_eq_getElem hl)
    rw [List.getElem?_eq_getElem hl, List.getElem?_range h, Option.map_some]
    congr 1
    refine Prod.ext a.1 ?_
    rw [List.getElem?_eq_getElem h] at a
    rw [List.getD_eq_getElem?_getD, List.getElem?_eq_getElem h]
    exact (Option.some.inj a.2).symm
  · rw [List.getElem?_eq_none (by rw [idx_len]; exact h), List.getElem?_eq_none (by simpa using h)]; rfl
theorem posP_range (vs : List Int) : posP vs = ((List.range vs.length).filter fun k => decide (0 < vget vs k)).map fun k => (-vget vs k, (k : Int)) := by
  unfold posP
  rw [idx_range vs 0, List.filter_map, List.map_map]; rfl
theorem notin_is (k : Nat) (L : List (Int × Int)) : gNotIn (.int (k : Int)) (.lst (L.map fun y => .int y.2)) = some (.bl (!hasN L k)) := by
  show (if PV.scal (.int (k : Int)) && (L.map fun y => D.int y.2).all PV.scal then some (D.bl (if true then !(L.map fun y => D.int y.2).any (eqS · (.int (k : Int))) else _)) else none) = _
  have e1 : (L.map fun y => D.int y.2).all PV.scal = true := by simp [PV.scal]
  rw [e1, if_pos (by rfl), if_pos rfl, List.any_map]; rfl
theorem maxL_int (ns : List Int) (h : ns ≠ []) : gMaxL [.lst (ns.map D.int)] = some (.int (maxL ns)) := by
  cases ns with
  | nil => exact absurd rfl h
  | cons a l =>
    have e := asInts_map (a :: l)
    show (match asInts ((a :: l).map D.int) with | some (n :: ns) => some (D.int (maxL (n :: ns))) | _ => none) = _
    rw [e]

/-! ### the law's own walk over all places -/
abbrev lawD (bs : List (List P2)) (m : Int) : D := .dic ["buyers", "things"] [crD bs, .int m]
def aD (bs : List (List P2)) (p : List Nat) : D := .tup [plD p, .int (wt bs p)]
theorem idx_snoc {α : Type} (p : List α) (i : α) : idx (p ++ [i]) = idx p ++ [(p.length, i)] := by
  unfold idx
  rw [List.length_append, List.length_singleton, List.range_succ, List.zip_append (by simp)]
  rfl
theorem wt_snoc {pre : List (List P2)} {x : List P2} {p : List Nat} {i : Nat} (hp : p.length = pre.length) : wt (pre ++ [x]) (p ++ [i]) = wt pre p * (x.getD i (0, 0)).2 := by
  unfold wt
  rw [idx_snoc, List.map_append, List.map_singleton, mulL1_snoc]
  have e1 : (idx p).map (fun z => (bAt (pre ++ [x]) z.1 z.2).2) = (idx p).map fun z => (bAt pre z.1 z.2).2 := List.map_congr_left fun z hz => by
    have := (List.getElem?_eq_some_iff.mp (idx_mem hz)).1
    unfold bAt bRow
    rw [List.getD_eq_getElem?_getD (l := pre ++ [x]), List.getElem?_append_left (by omega), ← List.getD_eq_getElem?_getD]
  have e2 : (bAt (pre ++ [x]) p.length i) = x.getD i (0, 0) := by
    unfold bAt bRow
    rw [List.getD_eq_getElem?_getD (l := pre ++ [x]), hp]; simp
  rw [e1, e2]
theorem law_all_is {bs : List (List P2)} {m : Int} (h4 : bs.length ≤ 4) (hv : ∀ b ∈ bs, VU b) (s : S) : f__law_all [lawD bs m] s = .ok (.lst ((plc bs).map (aD bs))) s := by
  have h5 : ∀ b ∈ bs, b.length ≤ 5 := fun b hb => (hv b hb).len5
  have key := for_inv (tg := tgName 2) (F := l2__law_all) (enc := buD) (xs := bs) (fun pre δ s' => s' = s ∧ ∃ c d e f, δ = [some (lawD bs m), some (.lst ((plc pre).map (aD pre))), c, d, e, f, none])
    (δ := [some (lawD bs m), some (.lst [aD [] []]), none, none, none, none, none]) (s := s) ⟨rfl, none, none, none, none, rfl⟩ (by
      rintro pre x post δ s' e ⟨rfl, c, d, e', f, rfl⟩
      have hx := hv x (by rw [e]; simp)
      have hxl := hx.len5
      have hp5 : ∀ b ∈ pre ++ [x], b.length ≤ 5 := fun b hb => h5 b (by rw [e]; simp at hb ⊢; rcases hb with hb | hb <;> simp [hb])
      have hlen := congrArg List.length e
      simp at hlen
      have h625 : (plc (pre ++ [x])).length ≤ 625 := Nat.le_trans (plc_len_le _ hp5) (Nat.le_trans (Nat.pow_le_pow_right (by decide) (show (pre ++ [x]).length ≤ 4 by simp; omega)) (by decide))
      have key := for_inv (tg := tgTup 2 (tgCons (tgName 4) (tgCons (tgName 5) tgNil))) (F := l1__law_all) (enc := aD pre) (xs := plc pre) (fun q δ s2 => s2 = s' ∧ ∃ e f, δ = [some (lawD bs m), some (.lst ((plc pre).map (aD pre))), some (buD x), some (.lst ((plS q x).map (aD (pre ++ [x])))), e, f, none])
        (δ := [some (lawD bs m), some (.lst ((plc pre).map (aD pre))), some (buD x), some (.lst []), e', f, none]) (s := s') ⟨rfl, e', f, rfl⟩ (by
          rintro q p t δ s2 e2 ⟨rfl, e3, f3, rfl⟩
          have hpm : p ∈ plc pre := by rw [e2]; simp
          have hpl := (plc_mem.mp hpm).1
          have hle : (plS (q ++ [p]) x).length ≤ 625 := by
            have : (plS (q ++ [p]) x).length ≤ (plS (plc pre) x).length := by
              rw [plS_len, plS_len, e2]
              refine Nat.mul_le_mul_right _ ?_
              simp
            rw [← plc_snoc] at this
            omega
          have es : plS (q ++ [p]) x = plS q x ++ (List.range x.length).map fun i => p ++ [i] := by unfold plS; rw [List.flatMap_append]; simp
          have hqb : Bd 121 (wt pre p) := by
            have hpo := plc_ok hpm
            refine (mulL1_bd (n := 30) _ fun a ha => ?_).mono (by rw [List.length_map, idx_len]; omega)
            obtain ⟨z, hz, rfl⟩ := List.mem_map.mp ha
            obtain ⟨_, _, z3, z4⟩ := hpo.get (idx_mem hz)
            have := (hv _ (by rw [e]; simp [z3])).ok _ z4
            unfold Bd; omega
          rw [es, List.length_append, List.length_map, List.length_range] at hle
          refine ⟨_, [some (lawD bs m), some (.lst ((plc pre).map (aD pre))), some (buD x), some (.lst ((plS (q ++ [p]) x).map (aD (pre ++ [x])))), some (plD p), some (.int (wt pre p)), none], s2, rfl, ?_, rfl, _, _, rfl⟩
          unfold l1__law_all
          rw [es]
          have r1 : gR1 [.int (x.length : Int)] = some ((List.range x.length).map fun (i : Nat) => D.int (i : Int)) := by rw [g_r1 _ (by omega), upto0]
          simp -implicitDefEqProofs [buD, r1, show x.length ≤ 100000 by omega]
          rw [comp_map (xs := List.range x.length) (e := fun i => aD (pre ++ [x]) (p ++ [i]))]
          · simp -implicitDefEqProofs only [bind_ok]
            rw [g_addL _ _ (by rw [List.length_map, List.length_map, List.length_range]; omega)]
            simp -implicitDefEqProofs [Function.comp_def]
          · intro i hi
            have hi := List.mem_range.mp hi
            refine ⟨_, rfl, fun s => ?_⟩
            have hxi : x[i]? = some (x.getD i (0, 0)) := by rw [List.getD_eq_getElem?_getD, List.getElem?_eq_getElem hi]; rfl
            have hb30 : Bd 30 (x.getD i (0, 0)).2 := by
              have := hx.ok _ (List.mem_of_getElem? hxi)
              unfold Bd; omega
            rw [show aD (pre ++ [x]) (p ++ [i]) = .tup [plD (p ++ [i]), .int (wt pre p * (x.getD i (0, 0)).2)] by unfold aD; rw [wt_snoc hpl]]
            generalize x.getD i (0, 0) = y at *
            simp -implicitDefEqProofs [plD]
            rw [g_addT _ _ (by simp; omega)]
            simp -implicitDefEqProofs [hxi, encB, g_mul hqb hb30 (by decide)])
      obtain ⟨δ', s2, h1, rfl, e4, f4, rfl⟩ := key
      refine ⟨_, [some (lawD bs m), some (.lst ((plc (pre ++ [x])).map (aD (pre ++ [x])))), some (buD x), some (.lst ((plc (pre ++ [x])).map (aD (pre ++ [x])))), e4, f4, none], s2, rfl, ?_, rfl, _, _, _, _, rfl⟩
      rw [← plc_snoc] at h1
      unfold l2__law_all
      simp -implicitDefEqProofs
      rw [h1]
      simp -implicitDefEqProofs)
  obtain ⟨δ', s', h1, rfl, c, d, e, f, rfl⟩ := key
  rw [u__law_all]; unfold b__law_all
  have e0 : aD [] [] = .tup [.tup [], .int 1] := rfl
  rw [e0] at h1
  simp -implicitDefEqProofs
  rw [h1]
  simp -implicitDefEqProofs

/-! ### the best takings, by the program and by the law -/
open Classical in
noncomputable def lvl (b : List P2) : List Rat := if h : VU b then (levels_of_is h).choose else []
theorem lvl_ok {b : List P2} (v : VU b) : Lvl (pts b) b.length (lvl b) ∧ ∀ s, f_levels_of [buD b] s = .ok (rwD (lvl b).reverse) s := by
  unfold lvl
  rw [dif_pos v]
  exact (levels_of_is v).choose_spec
noncomputable def lrows (bs : List (List P2)) : List (List Rat) := bs.map fun b => (lvl b).reverse
section
variable {bs : List (List P2)} {m : Int}
theorem lrows_ok (v : VS bs m) : RwOk (lrows bs) ∧ RwFit bs (lrows bs) := by
  refine ⟨⟨by unfold lrows; rw [List.length_map]; exact v.len4, fun r hr => ?_, fun r hr q hq => ?_⟩, ⟨by unfold lrows; simp, fun k => ?_⟩⟩
  · obtain ⟨b, hb, rfl⟩ := List.mem_map.mp hr
    have vb := v.ok b hb
    have := ((lvl_ok vb).1.bd (pts_ok vb)).1
    rw [List.length_reverse]; have := vb.len5; omega
  · obtain ⟨b, hb, rfl⟩ := List.mem_map.mp hr
    have vb := v.ok b hb
    have := ((lvl_ok vb).1.bd (pts_ok vb)).2 q (by simpa using hq)
    exact ⟨this.1, this.2.1⟩
  · unfold lrows bRow
    rw [List.getD_eq_getElem?_getD, List.getD_eq_getElem?_getD, List.getElem?_map]
    cases e : bs[k]? with
    | none => rfl
    | some b =>
      have vb := v.ok b (List.mem_of_getElem? e)
      have := ((lvl_ok vb).1.bd (pts_ok vb)).1
      simp; omega
theorem level_rows_is (v : VS bs m) (s : S) : f_level_rows [salD bs m] s = .ok (rowsD (lrows bs)) s := by
  have l4 := v.len4
  rw [u_level_rows]; unfold b_level_rows
  simp -implicitDefEqProofs [show bs.length ≤ 100000 by omega]
  rw [comp_map (xs := bs) (enc := buD) (e := fun b => rwD (lvl b).reverse)]
  · simp -implicitDefEqProofs [rowsD, lrows, Function.comp_def]
  · intro b hb
    exact ⟨_, rfl, fun s => by simp -implicitDefEqProofs [(lvl_ok (v.ok b hb)).2 s]⟩
end

theorem law_bids_is {bs : List (List P2)} {m : Int} {p : List Nat} (hb : PlOk bs p) (h4 : bs.length ≤ 4) (s : S) : f__law_bids [lawD bs m, plD p] s = .ok (.tup ((bidsF bs p).map D.int)) s := by
  have hl := hb.len
  have r1 : gR1 [.int (p.length : Int)] = some ((List.range p.length).map fun (i : Nat) => D.int (i : Int)) := by rw [g_r1 _ (by omega), upto0]
  rw [u__law_bids]; unfold b__law_bids plD
  simp -implicitDefEqProofs [r1, show p.length ≤ 100000 by omega]
  rw [comp_map (xs := List.range p.length) (e := fun k => .int (bAt bs k (p.getD k 0)).1)]
  · have : (List.range p.length).map (fun k => D.int (bAt bs k (p.getD k 0)).1) = (bidsF bs p).map D.int := by
      unfold bidsF
      rw [idx_range p 0, List.map_map, List.map_map]; rfl
    rw [this]; simp -implicitDefEqProofs
  · intro k hk
    have hk := List.mem_range.mp hk
    have pk : p[k]? = some (p.getD k 0) := by rw [List.getD_eq_getElem?_getD, List.getElem?_eq_getElem hk]; rfl
    obtain ⟨a1, a2, a3, a4⟩ := hb.get pk
    generalize p.getD k 0 = i at *
    exact ⟨_, rfl, fun s => by simp -implicitDefEqProofs [pk, a1, a2, buD, encB]⟩

theorem tot_cons0 (x : P2) (l : List P2) : tot (x :: l) = x.2 + tot l := by simp [tot]

/-! ### drawn sales -/
structure DrB (k : Int) (b : List P2) : Prop where
  vu : VU b
  len : (b.length : Int) ≤ k
  wt : ∀ y ∈ b, y.2 ≤ 100000000 ∧ y.1 ≤ 6000000
theorem tot_le8 : ∀ {b : List P2}, (∀ y ∈ b, y.2 ≤ 100000000) → tot b ≤ 100000000 * b.length
  | [], _ => by simp [tot]
  | y :: b, h => by
    have ih := tot_le8 (b := b) fun z hz => h z (by simp [hz])
    have := h y (by simp)
    rw [tot_cons0, List.length_cons]; omega
theorem parts_comp {k : Int} (k1 : 1 ≤ k) (k5 : k ≤ 5) {c1 c3 : Option D} : ∀ (xs : List Nat) (s : S), ∃ (bs : List (List P2)) (s' : S), bs.length = xs.length ∧ (∀ b ∈ bs, DrB k b) ∧ compL (tgName 4) cYes (cCall 2 f__law_buyer (cCons (cVar 0) (cCons (cVar 2) cNil))) [some .row, c1, some (.int k), c3, none] (xs.map fun (i : Nat) => D.int (i : Int)) s = .ok (bs.map buD) s'
  | [], s => ⟨[], s, rfl, by simp, rfl⟩
  | x :: xs, s => by
    obtain ⟨b, s1, v, h1, h2, h3⟩ := law_buyer_is k1 k5 s
    obtain ⟨bs, s2, g1, g2, g3⟩ := parts_comp k1 k5 xs s1
    refine ⟨b :: bs, s2, by simp [g1], ?_, ?_⟩
    · intro c hc
      rcases List.mem_cons.mp hc with rfl | z
      · exact ⟨v, h1, h2⟩
      · exact g2 c z
    · rw [List.map_cons, List.map_cons]
      show ((lift (tgName 4 (D.int (x : Int)) _) s).bind _) = _
      simp -implicitDefEqProofs [tgName, h3]
      rw [g3]; rfl
theorem law_parts_is {n k : Int} (n1 : 1 ≤ n) (n4 : n ≤ 4) (k1 : 1 ≤ k) (k5 : k ≤ 5) (s : S) : ∃ bs m s', VS bs m ∧ (bs.length : Int) ≤ n ∧ (∀ b ∈ bs, DrB k b) ∧ f__law_parts [.row, .int n, .int k] s = .ok (lawD bs m) s' := by
  obtain ⟨a, s1, a1, a2, a3⟩ := draw_is s (m := n) (by omega) (by omega)
  obtain ⟨bs, s2, g1, g2, g3⟩ := parts_comp (c1 := some (.int n)) (c3 := none) k1 k5 (List.range (a.toNat + 1)) s1
  obtain ⟨t, s3, t1, t2, t3⟩ := draw_is s2 (m := 3) (by omega) (by omega)
  rw [List.length_range] at g1
  refine ⟨bs, 1 + t, s3, ⟨by omega, by omega, fun b hb => (g2 b hb).vu, by omega, by omega⟩, by omega, g2, ?_⟩
  have r1 : gR1 [.int (1 + a)] = some ((List.range (a.toNat + 1)).map fun (i : Nat) => D.int (i : Int)) := by
    have := g_r1 (a.toNat + 1) (by omega)
    rw [upto0] at this
    rw [show (1 + a) = ((a.toNat + 1 : Nat) : Int) by omega]; exact this
  rw [u__law_parts]; unfold b__law_parts
  simp -implicitDefEqProofs [a3, r1, show a.toNat + 1 ≤ 100000 by omega]
  rw [g3]
  simp -implicitDefEqProofs [t3]
theorem mulL1_le {T : Int} (hT : 1 ≤ T) : ∀ (n : Nat) (l : List Int), l.length = n → (∀ a ∈ l, 0 < a ∧ a ≤ T) → mulL1 l ≤ T ^ n
  | 0, l, hn, _ => by have := List.eq_nil_of_length_eq_zero hn; subst this; simp [mulL1]
  | n + 1, l, hn, h => by
    rcases List.eq_nil_or_concat l with e | ⟨pre, x, e⟩
    · subst e; simp at hn
    · subst e
      rw [List.concat_eq_append] at *
      have ih := mulL1_le hT n pre (by simpa using hn) fun a ha => h a (by simp [ha])
      have hx := h x (by simp)
      have hp := mulL1_pos pre fun a ha => (h a (by simp [ha])).1
      rw [mulL1_snoc, Int.pow_succ]
      exact Int.mul_le_mul ih hx.2 (by omega) (Int.pow_nonneg (by omega))
theorem totW_le {bs : List (List P2)} {m n k : Int} (v : VS bs m) (hn : (bs.length : Int) ≤ n) (h : ∀ b ∈ bs, DrB k b) (hk : 1 ≤ k) : totW bs ≤ (100000000 * k) ^ n.toNat := by
  have := mulL1_le (T := 100000000 * k) (by omega) bs.length (bs.map tot) (by simp) fun a ha => by
    obtain ⟨b, hb, rfl⟩ := List.mem_map.mp ha
    have d := h b hb
    have := tot_le8 fun y hy => (d.wt y hy).1
    have := sum_bd b fun y hy => (d.vu.ok y hy).2.2
    have := d.vu.len1
    have := d.len
    omega
  refine Int.le_trans this ?_
  obtain ⟨j, hj⟩ : ∃ j, n.toNat = bs.length + j := ⟨n.toNat - bs.length, by omega⟩
  rw [hj, Int.pow_add]
  have h1 : 1 ≤ (100000000 * k) ^ j := by
    have : 0 < (100000000 * k) ^ j := Int.pow_pos (by omega)
    omega
  have h0 : 0 ≤ (100000000 * k) ^ bs.length := Int.pow_nonneg (by omega)
  have := Int.mul_le_mul_of_nonneg_left h1 h0
  omega
theorem law_sale_is {bs : List (List P2)} {m : Int} (v : VS bs m) (s : S) : f__law_sale [lawD bs m] s = .ok (salD bs m) s := by
  rw [u__law_sale]; unfold b__law_sale
  simp -implicitDefEqProofs [sale_is v s]

/-! ### the rule by levels -/
def rrD (bs : List (List P2)) (m : Nat) (t : List (List Int)) (p : List Nat) : D := .tup [.tup ((bidsF bs p).map D.int), .tup ((getsF m t p).map D.bl), .tup ((paysF bs m t p).map D.int)]
theorem tab_w {bs : List (List P2)} {rows : List (List Rat)} (h : RwFit bs rows) : ∀ k, k < bs.length → (tRow (tabR rows) k).length = (bRow bs k).length := fun k hk => by
  have e1 := h.at_ k
  have hr := h.len
  unfold tRow tabR
  rw [List.getD_eq_getElem?_getD, List.getElem?_map, List.getElem?_eq_getElem (by omega)]
  rw [List.getD_eq_getElem?_getD, List.getElem?_eq_getElem (by omega)] at e1
  simpa using e1
theorem rule_of_is {bs : List (List P2)} {m : Int} (v : VS bs m) (s : S) : f_rule_of [salD bs m] s = .ok (.tup ((plc bs).map (rrD bs m.toNat (tabR (lrows bs))))) s := by
  obtain ⟨r1, r2⟩ := lrows_ok v
  have l4 := v.len4
  have m1 := v.m1
  have b5 : ∀ b ∈ bs, b.length ≤ 5 := fun b hb => (v.ok b hb).len5
  have hcm := level_rows_is v
  have pls := all_places_is (m := m) v.len4 b5
  have hpl := Nat.le_trans (plc_len_le bs b5) (Nat.le_trans (Nat.pow_le_pow_right (by decide) l4) (show 5 ^ 4 ≤ 625 by decide))
  have ec : ∀ s, f_scaled [rowsD (lrows bs)] s = .ok (.tup [tabD (tabR (lrows bs)), .int (scU (lrows bs))]) s := scaled_is r1
  generalize ht : tabR (lrows bs) = t at *
  have key := for_inv (tg := tgName 3) (F := l1_rule_of) (enc := plD) (xs := plc bs) (fun pre δ s' => s' = s ∧ ∃ d e f, δ = [some (salD bs m), some (tabD t), some (.lst (pre.map (rrD bs m.toNat t))), d, e, f])
    (δ := [some (salD bs m), some (tabD t), some (.lst []), none, none, none]) (s := s) ⟨rfl, none, none, none, rfl⟩ (by
      rintro pre p post δ s' e ⟨rfl, d, e', f, rfl⟩
      have hb := plc_ok (bs := bs) (p := p) (by rw [e]; simp)
      have hto := tab_ok r2 hb
      have hw := tab_w r2
      rw [ht] at hto hw
      have so := sold_at_is hb l4 hto hw (show 0 ≤ m by omega) s'
      have bi := bids_at_is (m := m) hb l4 s'
      have hl := congrArg List.length e
      rw [List.length_append, List.length_cons] at hl
      refine ⟨_, [some (salD bs m), some (tabD t), some (.lst ((pre ++ [p]).map (rrD bs m.toNat t))), some (plD p), some (.tup ((getsF m.toNat t p).map D.bl)), some (.tup ((paysF bs m.toNat t p).map D.int))], s', rfl, ?_, rfl, _, _, _, rfl⟩
      unfold l1_rule_of
      simp -implicitDefEqProofs [so, bi, rrD, show pre.length < 100000 by omega])
  obtain ⟨δ', s', h1, rfl, d, e, f, rfl⟩ := key
  rw [u_rule_of]; unfold b_rule_of
  simp -implicitDefEqProofs [need_sale_is, hcm, ec, pls]
  rw [h1]
  simp -implicitDefEqProofs

/-! ### floors under bids -/
def fget (fs : List Int) (k : Nat) : Int := fs.getD k 0
def ovC (fs bids : List Int) : List Nat := (List.range bids.length).filter fun k => decide (fget fs k ≤ vget bids k)
def ovL (fs bids : List Int) : List (Int × Int) := sortP ((ovC fs bids).map fun (k : Nat) => (-vget bids k, (k : Int)))
def ovN (m : Nat) (fs bids : List Int) : Int := match (ovL fs bids)[m]? with | some x => -x.1 | none => 0
def ovG (m : Nat) (fs bids : List Int) : List Bool := (List.range bids.length).map fun k => hasN ((ovL fs bids).take m) k
def ovP (m : Nat) (fs bids : List Int) : List Int := (List.range bids.length).map fun k => if hasN ((ovL fs bids).take m) k then max (fget fs k) (ovN m fs bids) else 0
theorem ovC_pw (fs bids : List Int) : (ovC fs bids).Pairwise (· < ·) := (range_pw _).filter _
theorem ovL_len (fs bids : List Int) : (ovL fs bids).length ≤ bids.length := by
  unfold ovL ovC
  rw [(sortP_perm _).length_eq, List.length_map]
  have := List.length_filter_le (fun k => decide (fget fs k ≤ vget bids k)) (List.range bids.length)
  rw [List.length_range] at this; exact this
theorem in_has (k : Nat) (L : List (Int × Int)) : gIn (.int (k : Int)) (.lst (L.map fun y => .int y.2)) = some (.bl (hasN L k)) := by
  show (if PV.scal (.int (k : Int)) && (L.map fun y => D.int y.2).all PV.scal then some (D.bl (if false then _ else (L.map fun y => D.int y.2).any (eqS · (.int (k : Int))))) else none) = _
  have e1 : (L.map fun y => D.int y.2).all PV.scal = true := by simp [PV.scal]
  rw [e1, if_pos (by rfl)]
  simp only [Bool.false_eq_true, if_false]
  rw [List.any_map]; rfl
theorem at_get {vs : List Int} {k : Nat} (hk : k < vs.length) : (vs.map D.int)[k]? = some (.int (vget vs k)) := by
  rw [List.getElem?_map, List.getElem?_eq_getElem hk]
  unfold vget
  rw [List.getD_eq_getElem?_getD, List.getElem?_eq_getElem hk]; rfl
theorem at_fget {vs : List Int} {k : Nat} (hk : k < vs.length) : (vs.map D.int)[k]? = some (.int (fget vs k)) := at_get hk
theorem neP_nil (L : List (Int × Int)) : gNe (.lst (L.map encP)) (.lst []) = some (.bl (!decide (L = []))) := by
  have sm : Sm 60 (.lst (L.map encP)) := by
    simp only [Sm]
    refine Sms_iff.mpr fun d hd => ?_
    obtain ⟨y, _, rfl⟩ := List.mem_map.mp hd
    simp [encP, Sm, Sms]
  rw [gNe_sm sm (by simp [Sm, Sms])]
  cases L <;> simp

theorem bidsF_len (bs : List (List P2)) (p : List Nat) : (bidsF bs p).length = p.length := by unfold bidsF; rw [List.length_map, idx_len]

/-! ### joys: weights, rules -/
theorem wt_bd {bs : List (List P2)} {m : Int} (v : VS bs m) {p : List Nat} (hp : PlOk bs p) : Bd 121 (wt bs p) := (mulL1_bd _ fun a ha => (wt_fac v hp a ha).2).mono (by rw [List.length_map, idx_len]; have := v.len4; have := hp.len; omega)
abbrev RR := List Nat × List Bool × List Int
def rowX (bs : List (List P2)) (x : RR) : D := .tup [.tup ((bidsF bs x.1).map D.int), .tup (x.2.1.map D.bl), .tup (x.2.2.map D.int)]
def ruleD (bs : List (List P2)) (X : List RR) : D := .tup (X.map (rowX bs))
structure RwX (bs : List (List P2)) (m : Int) (x : RR) : Prop where
  lg : x.2.1.length = x.1.length
  lp : x.2.2.length = x.1.length
  bd : ∀ a ∈ x.2.2, -1000000000 ≤ a ∧ a ≤ 1000000000
  few : ((x.2.1.filter id).length : Int) ≤ m
structure RuX (bs : List (List P2)) (m : Int) (X : List RR) : Prop where
  all : X.map (·.1) = plc bs
  ok : ∀ x ∈ X, RwX bs m x
theorem bidsF_ok {bs : List (List P2)} {m : Int} (v : VS bs m) {p : List Nat} (hp : PlOk bs p) : ∀ a ∈ bidsF bs p, 0 ≤ a ∧ a ≤ 1000000000 := fun a ha => by
  unfold bidsF at ha
  obtain ⟨x, hx, rfl⟩ := List.mem_map.mp ha
  obtain ⟨a1, a2, a3, a4⟩ := hp.get (idx_mem hx)
  have := (v.ok _ a3).ok _ a4
  exact ⟨this.1, this.2.1⟩

theorem comp_all {tg f δ} {α : Type} {enc : α → D} {xs : List α} {s : S} (h : ∀ x ∈ xs, ∃ δ1, tg (enc x) δ = some δ1 ∧ ∀ s, f δ1 s = .ok (.bl true) s) : compL tg cYes f δ (xs.map enc) s = .ok ((xs.map fun _ => true).map D.bl) s := by
  rw [comp_map (e := fun _ => .bl true) h, List.map_map]; rfl
theorem all_true {α : Type} (xs : List α) : (xs.map fun _ => true).all id = true := by simp
theorem gNe_ints (ns : List Int) : gNe (.tup (ns.map D.int)) (.tup (ns.map D.int)) = some (.bl false) := by
  have h : Sm 60 (.tup (ns.map D.int)) := by simpa [Sm] using sms_ints 59 ns
  rw [gNe_sm h h]; simp
theorem is_row_is {bs : List (List P2)} {m : Int} (v : VS bs m) {x : RR} (hp : PlOk bs x.1) (h : RwX bs m x) (s : S) : f_is_row [salD bs m, rowX bs x, .tup ((bidsF bs x.1).map D.int)] s = .ok (.bl true) s := by
  have l4 := v.len4
  have hl := hp.len
  have bl := bidsF_len bs x.1
  have bo := bidsF_ok v hp
  have lg := h.lg
  have lp := h.lp
  have hbd := h.bd
  have hfew := h.few
  obtain ⟨p, g, y⟩ := x
  simp only at hl bl bo lg lp hbd hfew
  unfold rowX
  simp only
  generalize hB : bidsF bs p = B at *
  have ne := gNe_ints B
  generalize hR : D.tup [D.tup (B.map D.int), .tup (g.map D.bl), .tup (y.map D.int)] = R
  have c1 : ∀ s, compL (tgName 3) cYes (cIsi "tuple" (cVar 3)) [some (salD bs m), some R, some (.tup (B.map D.int)), none, none, none, none] [D.tup (B.map D.int), .tup (g.map D.bl), .tup (y.map D.int)] s = .ok ([true, true, true].map D.bl) s := fun s =>
    comp_all (enc := id) (xs := [D.tup (B.map D.int), .tup (g.map D.bl), .tup (y.map D.int)]) fun d hd => ⟨_, rfl, fun s => by
      have : d = .tup (B.map D.int) ∨ d = .tup (g.map D.bl) ∨ d = .tup (y.map D.int) := by simpa using hd
      rcases this with rfl | rfl | rfl <;> simp -implicitDefEqProofs⟩
  have c2 : ∀ s, compL (tgName 4) cYes (cCall 3 f_is_from (cCons (cVar 4) (cCons (cC (.int 0)) (cCons (cC (.int 1000000000)) cNil)))) [some (salD bs m), some R, some (.tup (B.map D.int)), none, none, none, none] (B.map D.int) s = .ok ((B.map fun _ => true).map D.bl) s := fun s =>
    comp_all fun a ha => ⟨_, rfl, fun s => by have := bo a ha; simp -implicitDefEqProofs [is_from_is, this.1, this.2]⟩
  have c3 : ∀ s, compL (tgName 5) cYes (cIsi "bool" (cVar 5)) [some (salD bs m), some R, some (.tup (B.map D.int)), none, none, none, none] (g.map D.bl) s = .ok ((g.map fun _ => true).map D.bl) s := fun s =>
    comp_all fun a ha => ⟨_, rfl, fun s => by
      have ib : gIsi "bool" (.bl a) = some (.bl true) := by show (kitB "bool" "bool").map D.bl = _; rw [show kitB "bool" "bool" = some true by decide +kernel]; rfl
      simp -implicitDefEqProofs [ib]⟩
  have c4 : ∀ s, compL (tgName 6) cYes (cCall 3 f_is_from (cCons (cVar 6) (cCons (cUn gNeg (cC (.int 1000000000))) (cCons (cC (.int 1000000000)) cNil)))) [some (salD bs m), some R, some (.tup (B.map D.int)), none, none, none, none] (y.map D.int) s = .ok ((y.map fun _ => true).map D.bl) s := fun s =>
    comp_all fun a ha => ⟨_, rfl, fun s => by have := hbd a ha; simp -implicitDefEqProofs [is_from_is, this.1, this.2]⟩
  have c5 : ∀ s, compL (tgName 5) (cTst (cVar 5)) (cVar 5) [some (salD bs m), some R, some (.tup (B.map D.int)), none, none, none, none] (g.map D.bl) s = .ok ((g.filter id).map D.bl) s := fun s =>
    comp_pure fun a ha => ⟨_, rfl, fun s => by simp -implicitDefEqProofs, fun _ s => by simp -implicitDefEqProofs⟩
  have i0 : gIx R (.int 0) = some (.tup (B.map D.int)) := by rw [← hR]; rfl
  have i1 : gIx R (.int 1) = some (.tup (g.map D.bl)) := by rw [← hR]; rfl
  have i2 : gIx R (.int 2) = some (.tup (y.map D.int)) := by rw [← hR]; rfl
  have iL : gLen [R] = some (.int 3) := by rw [← hR]; rfl
  have iS : seqD R = some [D.tup (B.map D.int), .tup (g.map D.bl), .tup (y.map D.int)] := by rw [← hR]; rfl
  have iI : gIsi "tuple" R = some (.bl true) := by rw [← hR]; simp
  have t3 : gAll [.lst [.bl true, .bl true, .bl true]] = some (.bl true) := rfl
  rw [u_is_row]; unfold b_is_row
  simp -implicitDefEqProofs [iI, iL, iS, c1, t3, i0, i1, i2, show B.length ≤ 100000 by omega, show g.length ≤ 100000 by omega, show y.length ≤ 100000 by omega]
  rw [c2]
  simp -implicitDefEqProofs only [bind_ok, lift_some, g_all, all_true, ne, g_asB]
  have neg1 : gNe (.int (g.length : Int)) (.int (B.length : Int)) = some (.bl false) := by rw [lg, bl]; simp
  have neg2 : gNe (.int (y.length : Int)) (.int (B.length : Int)) = some (.bl false) := by rw [lp, bl]; simp
  simp -implicitDefEqProofs [i0, i1, i2, neg1, neg2, ne, show g.length ≤ 100000 by omega, show y.length ≤ 100000 by omega]
  rw [c3]
  simp -implicitDefEqProofs only [bind_ok, lift_some, g_all, all_true, g_asB]
  simp -implicitDefEqProofs [i2, show y.length ≤ 100000 by omega]
  rw [c4]
  simp -implicitDefEqProofs only [bind_ok, lift_some, g_all, all_true, g_asB]
  simp -implicitDefEqProofs [i1, show g.length ≤ 100000 by omega]
  rw [c5]
  simp -implicitDefEqProofs [hfew]
theorem is_rule_of_is {bs : List (List P2)} {m : Int} (v : VS bs m) {X : List RR} (h : RuX bs m X) (s : S) : f_is_rule_of [salD bs m, ruleD bs X] s = .ok (.bl true) s := by
  have l4 := v.len4
  have b5 : ∀ b ∈ bs, b.length ≤ 5 := fun b hb => (v.ok b hb).len5
  have pls := all_places_is (m := m) v.len4 b5
  have hpl := Nat.le_trans (plc_len_le bs b5) (Nat.le_trans (Nat.pow_le_pow_right (by decide) l4) (show 5 ^ 4 ≤ 625 by decide))
  have hXl : X.length = (plc bs).length := by rw [← h.all, List.length_map]
  generalize hR : ruleD bs X = R
  have c1 : ∀ s, compL (tgTup 2 (tgCons (tgName 3) (tgCons (tgName 4) tgNil))) cYes (cCall 3 f_is_row (cCons (cVar 0) (cCons (cOp gIx (cVar 1) (cVar 3)) (cCons (cCall 2 f_bids_at (cCons (cVar 0) (cCons (cVar 4) cNil))) cNil)))) [some (salD bs m), some R, some (.lst ((plc bs).map plD)), none, none] ((idx (plc bs)).map fun x => .tup [.int (x.1 : Int), plD x.2]) s = .ok (((idx (plc bs)).map fun _ => true).map D.bl) s := fun s =>
    comp_all fun x hx => ⟨_, rfl, fun s => by
      have j := idx_mem hx
      have hp := plc_ok (List.mem_of_getElem? j)
      obtain ⟨r, hr, er⟩ : ∃ r, X[x.1]? = some r ∧ r.1 = x.2 := by
        rw [← h.all, List.getElem?_map] at j
        obtain ⟨r, h1, h2⟩ := Option.map_eq_some_iff.mp j
        exact ⟨r, h1, h2⟩
      have bi := bids_at_is (m := m) hp l4 s
      have ir := is_row_is v (x := r) (by rw [er]; exact hp) (h.ok r (List.mem_of_getElem? hr)) s
      rw [er] at ir
      have ix : gIx R (.int (x.1 : Int)) = some (rowX bs r) := by
        rw [← hR]
        show gIx (.tup (X.map (rowX bs))) _ = _
        rw [g_ixT, at_nat, List.getElem?_map, hr]; rfl
      simp -implicitDefEqProofs [ix, bi, ir]⟩
  have iL : gLen [R] = some (.int ((plc bs).length : Int)) := by rw [← hR]; show some (D.int ((X.map (rowX bs)).length : Int)) = _; rw [List.length_map, hXl]
  have iI : gIsi "tuple" R = some (.bl true) := by rw [← hR]; unfold ruleD; simp
  rw [u_is_rule_of]; unfold b_is_rule_of
  simp -implicitDefEqProofs [pls, iI, iL, enum_idx, idx_len, show (plc bs).length ≤ 100000 by omega]
  rw [c1]
  simp -implicitDefEqProofs only [bind_ok, lift_some, g_all, all_true, g_asB]
  rfl

/-! ### joy and gains, by the program -/
def joyR (B : List Int) (g : List Bool) : Int := (((B.zip g).filter (·.2)).map (·.1)).sum
theorem joyR_bd : ∀ (B : List Int) (g : List Bool), (∀ a ∈ B, 0 ≤ a ∧ a ≤ 1000000000) → 0 ≤ joyR B g ∧ joyR B g ≤ 1000000000 * B.length
  | [], g, _ => by simp [joyR]
  | a :: B, [], _ => by simp [joyR]; omega
  | a :: B, c :: g, h => by
    have ih := joyR_bd B g fun b hb => h b (by simp [hb])
    have ha := h a (by simp)
    unfold joyR at ih ⊢
    rw [List.zip_cons_cons, List.filter_cons]
    cases c
    · simp at ih ⊢; omega
    · simp at ih ⊢; omega
def jT (bs : List (List P2)) (X : List RR) : Int := (X.map fun x => wt bs x.1 * joyR (bidsF bs x.1) x.2.1).sum
def gB (g : List Bool) (k : Nat) : Bool := g.getD k false
def gnR (bs : List (List P2)) (k : Nat) (x : RR) : Int := (if gB x.2.1 k then vget (bidsF bs x.1) k else 0) - vget x.2.2 k
def gT (bs : List (List P2)) (X : List RR) (k : Nat) : Int := (X.map fun x => wt bs x.1 * gnR bs k x).sum

/-! ### joy and gains, by the law -/
theorem bidsF_range (bs : List (List P2)) (p : List Nat) : bidsF bs p = (List.range p.length).map fun k => (bAt bs k (p.getD k 0)).1 := by
  unfold bidsF
  rw [idx_range p 0, List.map_map]; rfl
theorem PlOk.at' {bs : List (List P2)} {p : List Nat} (h : PlOk bs p) {k : Nat} (hk : k < p.length) : p[k]? = some (p.getD k 0) ∧ bs[k]? = some (bRow bs k) ∧ (bRow bs k)[p.getD k 0]? = some (bAt bs k (p.getD k 0)) := by
  have e : p[k]? = some (p.getD k 0) := by rw [List.getD_eq_getElem?_getD, List.getElem?_eq_getElem hk]; rfl
  exact ⟨e, (h.get e).1, (h.get e).2.1⟩
theorem joyR_range : ∀ (B : List Int) (g : List Bool), g.length = B.length → (((List.range B.length).filter fun k => gB g k).map (vget B)).sum = joyR B g
  | [], g, h => by simp [joyR]
  | a :: B, [], h => by simp at h
  | a :: B, c :: g, h => by
    have ih := joyR_range B g (by simpa using h)
    rw [List.length_cons, List.range_succ_eq_map, List.filter_cons, List.filter_map]
    have e1 : ((List.range B.length).filter ((fun k => gB (c :: g) k) ∘ Nat.succ)) = (List.range B.length).filter fun k => gB g k := rfl
    rw [e1]
    unfold joyR at ih ⊢
    rw [List.zip_cons_cons, List.filter_cons]
    have e2 : ((List.range B.length).filter fun k => gB g k).map (vget (a :: B) ∘ Nat.succ) = ((List.range B.length).filter fun k => gB g k).map (vget B) := rfl
    cases c
    · show ((((List.range B.length).filter fun k => gB g k).map Nat.succ).map (vget (a :: B))).sum = (((B.zip g).filter (·.2)).map (·.1)).sum
      rw [List.map_map, e2, ih]
    · show ((0 :: (((List.range B.length).filter fun k => gB g k).map Nat.succ)).map (vget (a :: B))).sum = (((a, true) :: ((B.zip g).filter (·.2))).map (·.1)).sum
      rw [List.map_cons, List.map_map, e2, List.sum_cons, ih]; rfl

def Xof (bs : List (List P2)) (g : List Nat → List Bool) (y : List Nat → List Int) : List RR := (plc bs).map fun p => (p, g p, y p)
def tT (bs : List (List P2)) (X : List RR) : Int := (X.map fun x => wt bs x.1 * x.2.2.sum).sum
theorem vget_in {B : List Int} {M : Int} (hM : 0 ≤ M) (h : ∀ a ∈ B, 0 ≤ a ∧ a ≤ M) (k : Nat) : 0 ≤ vget B k ∧ vget B k ≤ M := by
  unfold vget
  rw [List.getD_eq_getElem?_getD]
  cases e : B[k]? with
  | none => exact ⟨Int.le_refl _, hM⟩
  | some a => exact h a (List.mem_of_getElem? e)

/-! ### loops that may hand something back; bids are all apart -/
theorem for_opt {α : Type} {tg F} {enc : α → D} (I : En → Prop) (val : α → Option D) : ∀ {xs : List α} {δ : En}, (∀ x ∈ xs, ∀ δ, I δ → ∃ δ1, tg (enc x) δ = some δ1 ∧ (∀ d, val x = some d → ∀ s, F δ1 s = .ok (.ret d) s) ∧ (val x = none → ∃ δ2, I δ2 ∧ ∀ s, F δ1 s = .ok (.next δ2) s)) → I δ →
    (∀ d, xs.findSome? val = some d → ∀ s, forL tg F (xs.map enc) δ s = .ok (.ret d) s) ∧ (xs.findSome? val = none → ∃ δ', I δ' ∧ ∀ s, forL tg F (xs.map enc) δ s = .ok (.next δ') s)
  | [], δ, _, hI => ⟨fun d h => by simp at h, fun _ => ⟨δ, hI, fun _ => rfl⟩⟩
  | x :: xs, δ, h, hI => by
    obtain ⟨δ1, h1, h2, h3⟩ := h x (by simp) δ hI
    cases hv : val x with
    | some d =>
      refine ⟨fun d' hd s => ?_, fun hn => by simp [hv] at hn⟩
      have : d = d' := by simpa [hv] using hd
      subst this
      rw [List.map_cons, forL, h1, lift_some, bind_ok, h2 d hv s, bind_ok]
    | none =>
      obtain ⟨δ2, h4, h5⟩ := h3 hv
      have ih := for_opt I val (xs := xs) (δ := δ2) (fun y hy => h y (by simp [hy])) h4
      refine ⟨fun d hd s => ?_, fun hn => ?_⟩
      · rw [List.map_cons, forL, h1, lift_some, bind_ok, h5 s, bind_ok]
        exact ih.1 d (by simpa [hv] using hd) s
      · obtain ⟨δ', h6, h7⟩ := ih.2 (by simpa [hv] using hn)
        exact ⟨δ', h6, fun s => by rw [List.map_cons, forL, h1, lift_some, bind_ok, h5 s, bind_ok]; exact h7 s⟩
theorem fill_all {tg fk fv} {α : Type} {enc : α → D} {key : α → List Int} {val : α → D} (I : En → Prop) : ∀ (xs : List α) (ks : List (List Int)) (ds : List D) (δ : En) (s : S), (∀ x ∈ xs, ∀ δ, I δ → ∃ δ1, tg (enc x) δ = some δ1 ∧ I δ1 ∧ (∀ s, fv δ1 s = .ok (val x) s) ∧ ∀ s, fk δ1 s = .ok (.tup ((key x).map D.int)) s) → I δ → (xs.map key).Nodup → (∀ x ∈ xs, key x ∉ ks) → ks.length + xs.length ≤ 100000 →
    ∃ δ', I δ' ∧ fillL tg fk fv (xs.map enc) ks ds δ s = .ok (δ', ks ++ xs.map key, ds ++ xs.map val) s
  | [], ks, ds, δ, s, _, hI, _, _, _ => ⟨δ, hI, by simp [fillL]⟩
  | x :: xs, ks, ds, δ, s, h, hI, nd, out, len => by
    obtain ⟨δ1, h1, h2, h3, h4⟩ := h x (by simp) δ hI
    have nd := List.nodup_cons.mp (by simpa using nd : (key x :: xs.map key).Nodup)
    obtain ⟨δ', h5, h6⟩ := fill_all (enc := enc) (key := key) (val := val) I xs (ks ++ [key x]) (ds ++ [val x]) δ1 s (fun y hy => h y (by simp [hy])) h2 nd.2 (fun y hy z => by
      rcases List.mem_append.mp z with z | z
      · exact out y (by simp [hy]) z
      · have z : key y = key x := by simpa using z
        exact nd.1 (z ▸ List.mem_map.mpr ⟨y, hy, rfl⟩)) (by simp at len ⊢; omega)
    refine ⟨δ', h5, ?_⟩
    have c : key x ∉ ks ∧ ks.length < 100000 := ⟨out x (by simp), by simp at len; omega⟩
    have ak : asKey (.tup ((key x).map D.int)) = some (key x) := intsD_map _
    rw [List.map_cons, fillL, h1, lift_some, bind_ok, h3, bind_ok, h4, bind_ok, ak, lift_some, bind_ok, if_pos c, h6]
    simp
theorem dGet_at {α : Type} {key : α → List Int} {val : α → D} {q : α} : ∀ {xs : List α}, q ∈ xs → (∀ x ∈ xs, key x = key q → x = q) → dGet (xs.map key) (xs.map val) (key q) = some (val q)
  | [], h, _ => by cases h
  | x :: xs, h, inj => by
    rw [List.map_cons, List.map_cons, dGet]
    by_cases z : key x = key q
    · rw [if_pos z, inj x (by simp) z]
    · rw [if_neg z]
      rcases List.mem_cons.mp h with e | e
      · exact absurd (by rw [e]) z
      · exact dGet_at e fun y hy => inj y (by simp [hy])
theorem plc_nodup : ∀ (n : Nat) (bs : List (List P2)), bs.length = n → (plc bs).Nodup
  | 0, bs, h => by
    have : bs = [] := by simpa using h
    subst this; simp [plc]
  | n + 1, bs, h => by
    rcases List.eq_nil_or_concat bs with e | ⟨pre, b, e⟩
    · subst e; simp at h
    · subst e
      rw [List.concat_eq_append] at *
      have ih := plc_nodup n pre (by simpa using h)
      rw [plc_snoc]
      unfold plS
      refine List.pairwise_flatMap.mpr ⟨fun p _ => ?_, ih.imp fun {p q} ne x hx y hy z => ?_⟩
      · refine List.pairwise_map.mpr ((List.nodup_range (n := b.length)).imp fun {i j} ne z => ne ?_)
        simpa using z
      · obtain ⟨i, _, rfl⟩ := List.mem_map.mp hx
        obtain ⟨j, _, rfl⟩ := List.mem_map.mp hy
        exact ne (List.append_inj' z rfl).1
theorem bidsF_at {bs : List (List P2)} {p : List Nat} {k : Nat} (hk : k < p.length) : vget (bidsF bs p) k = (bAt bs k (p.getD k 0)).1 := by
  unfold vget
  rw [bidsF_range, List.getD_eq_getElem?_getD, List.getElem?_map, List.getElem?_range hk]; rfl
theorem worth_lt {b : List P2} (v : VU b) {i j : Nat} (hij : i < j) (hj : j < b.length) : (b.getD i (0, 0)).1 < (b.getD j (0, 0)).1 := by
  have hi : i < b.length := by omega
  rw [List.getD_eq_getElem?_getD, List.getD_eq_getElem?_getD, List.getElem?_eq_getElem hi, List.getElem?_eq_getElem hj]
  exact List.pairwise_iff_getElem.mp v.up i j hi hj hij
theorem bidsF_inj {bs : List (List P2)} {m : Int} (v : VS bs m) {p q : List Nat} (hp : PlOk bs p) (hq : PlOk bs q) (h : bidsF bs p = bidsF bs q) : p = q := by
  have lp := hp.len
  have lq := hq.len
  refine List.ext_getElem (by omega) fun k h1 h2 => ?_
  have a1 := bidsF_at (bs := bs) h1
  have a2 := bidsF_at (bs := bs) h2
  rw [h, a2] at a1
  have b1 := hp.at_ k _ (hp.at' h1).1
  have b2 := hq.at_ k _ (hq.at' h2).1
  have vb := v.ok _ (List.mem_of_getElem? (hp.at' h1).2.1)
  have e1 : p.getD k 0 = p[k] := by rw [List.getD_eq_getElem?_getD, List.getElem?_eq_getElem h1]; rfl
  have e2 : q.getD k 0 = q[k] := by rw [List.getD_eq_getElem?_getD, List.getElem?_eq_getElem h2]; rfl
  rw [e1, e2] at a1
  rw [e1] at b1
  rw [e2] at b2
  unfold bAt at a1
  rcases Nat.lt_trichotomy p[k] q[k] with z | z | z
  · have := worth_lt vb z b2; omega
  · exact z
  · have := worth_lt vb z b1; omega
theorem bids_nodup {bs : List (List P2)} {m : Int} (v : VS bs m) : ((plc bs).map (bidsF bs)).Nodup := by
  refine List.pairwise_map.mpr ((plc_nodup _ bs rfl).imp_of_mem fun {p q} hp hq ne z => ne (bidsF_inj v (plc_ok hp) (plc_ok hq) z))
theorem PlOk.inP {bs : List (List P2)} {p : List Nat} (hp : PlOk bs p) : p ∈ plc bs := by
  refine plc_mem.mpr ⟨hp.len, fun k hk => ?_⟩
  have hk' : k < p.length := by rw [hp.len]; exact hk
  exact hp.at_ k _ (hp.at' hk').1
theorem PlOk.set1 {bs : List (List P2)} {p : List Nat} (hp : PlOk bs p) {k i : Nat} (hi : i < (bRow bs k).length) : PlOk bs (p.set k i) := by
  refine ⟨by rw [List.length_set]; exact hp.len, fun j a h => ?_⟩
  by_cases z : k = j
  · subst z
    have hk : k < p.length := by
      have := (List.getElem?_eq_some_iff.mp h).1
      rwa [List.length_set] at this
    rw [List.getElem?_set_self hk] at h
    cases h; exact hi
  · rw [List.getElem?_set_ne z] at h
    exact hp.at_ j a h
theorem getD_set {p : List Nat} {k j i : Nat} (hk : k < p.length) : (p.set k i).getD j 0 = if j = k then i else p.getD j 0 := by
  rw [List.getD_eq_getElem?_getD]
  by_cases z : j = k
  · subst z; rw [List.getElem?_set_self hk, if_pos rfl]; rfl
  · rw [List.getElem?_set_ne (Ne.symm z), if_neg z, List.getD_eq_getElem?_getD]
theorem bidsF_set {bs : List (List P2)} {p : List Nat} {k i : Nat} (hk : k < p.length) : bidsF bs (p.set k i) = (bidsF bs p).set k (bAt bs k i).1 := by
  refine List.ext_getElem? fun j => ?_
  rw [bidsF_range, bidsF_range, List.length_set]
  rcases Nat.lt_or_ge j p.length with z | z
  · rw [List.getElem?_map, List.getElem?_range z]
    by_cases e : j = k
    · subst e
      rw [List.getElem?_set_self (by simpa using hk)]
      simp only [Option.map_some]
      rw [getD_set hk, if_pos rfl]
    · rw [List.getElem?_set_ne (Ne.symm e), List.getElem?_map, List.getElem?_range z]
      simp only [Option.map_some]
      rw [getD_set hk, if_neg e]
  · rw [List.getElem?_eq_none (by simpa using z), List.getElem?_eq_none (by simpa using z)]
theorem set_cutD {ns : List Int} {k : Nat} {w : Int} (h : k < ns.length) : cutD (ns.map D.int) none (some (k : Int)) ++ [D.int w] ++ cutD (ns.map D.int) (some ((k : Int) + 1)) none = (ns.set k w).map D.int := by
  rw [cut_to, show ((k : Int) + 1) = ((k + 1 : Nat) : Int) by omega, cut_from _ _ (by rw [List.length_map]; omega), List.set_eq_take_append_cons_drop]
  simp [h]
theorem at_bl {g : List Bool} {k : Nat} (hk : k < g.length) : (g.map D.bl)[k]? = some (.bl (gB g k)) := by
  unfold gB
  rw [List.getElem?_map, List.getD_eq_getElem?_getD, List.getElem?_eq_getElem hk]; rfl

/-! ### the first flaw of a rule -/
def gnP (g : List Bool) (y : List Int) (k : Nat) (w : Int) : Int := (if gB g k then w else 0) - vget y k
def bdD (bs : List (List P2)) (p : List Nat) : D := .tup ((bidsF bs p).map D.int)
section
variable (bs : List (List P2)) (gf : List Nat → List Bool) (yf : List Nat → List Int)
def flR (p : List Nat) (k : Nat) (x : Nat × P2) : Option D :=
  if gnP (gf p) (yf p) k (vget (bidsF bs p) k) < gnP (gf (p.set k x.1)) (yf (p.set k x.1)) k (vget (bidsF bs p) k) then some (.tup [bdD bs p, .int (k : Int), .int x.2.1]) else none
def flK (p : List Nat) (k : Nat) : Option D := if gnP (gf p) (yf p) k (vget (bidsF bs p) k) < 0 then some (.tup [bdD bs p, .int (k : Int), .non]) else (idx (bRow bs k)).findSome? (flR bs gf yf p k)
def flP (p : List Nat) : Option D := (List.range bs.length).findSome? (flK bs gf yf p)
def flX : Option D := (plc bs).findSome? (flP bs gf yf)
end
def asRow (bs : List (List P2)) (gf : List Nat → List Bool) (yf : List Nat → List Int) (p : List Nat) : D := rowX bs (p, gf p, yf p)

/-! ### rules with a price for each buyer that the own bid does not change -/
structure Thr (bs : List (List P2)) (gf : List Nat → List Bool) (yf : List Nat → List Int) : Prop where
  out : ∀ q : List Nat, q.length = bs.length → ∀ k i, k < bs.length → i < (bRow bs k).length → gB (gf (q.set k i)) k = false → vget (yf (q.set k i)) k = 0
  low : ∀ q : List Nat, q.length = bs.length → ∀ k i, k < bs.length → i < (bRow bs k).length → gB (gf (q.set k i)) k = true → vget (yf (q.set k i)) k ≤ (bAt bs k i).1
  same : ∀ q : List Nat, q.length = bs.length → ∀ k i j, k < bs.length → i < (bRow bs k).length → j < (bRow bs k).length → gB (gf (q.set k i)) k = true → gB (gf (q.set k j)) k = true → vget (yf (q.set k i)) k = vget (yf (q.set k j)) k
  high : ∀ q : List Nat, q.length = bs.length → ∀ k i j, k < bs.length → i < (bRow bs k).length → j < (bRow bs k).length → gB (gf (q.set k i)) k = false → gB (gf (q.set k j)) k = true → (bAt bs k i).1 ≤ vget (yf (q.set k j)) k
section
variable {bs : List (List P2)} {m : Int} {gf : List Nat → List Bool} {yf : List Nat → List Int}
theorem set_self {p : List Nat} {k : Nat} (hk : k < p.length) : p.set k (p.getD k 0) = p := by
  refine List.ext_getElem? fun j => ?_
  rw [List.getElem?_set]
  split
  · rename_i e
    subst e
    rw [List.getD_eq_getElem?_getD, List.getElem?_eq_getElem hk]; rfl
  · rfl
theorem row_v (v : VS bs m) {k : Nat} (hk : k < bs.length) : bs[k]? = some (bRow bs k) ∧ VU (bRow bs k) := by
  have hb : bs[k]? = some (bRow bs k) := by unfold bRow; rw [List.getD_eq_getElem?_getD, List.getElem?_eq_getElem hk]; rfl
  exact ⟨hb, v.ok _ (List.mem_of_getElem? hb)⟩
theorem Thr.up (v : VS bs m) (h : Thr bs gf yf) : ∀ k, k < bs.length → ∀ q : List Nat, q.length = bs.length → ∀ i j, i ≤ j → j < (bRow bs k).length → gB (gf (q.set k i)) k = true → gB (gf (q.set k j)) k = true := fun k hk q hq i j hij hj e => by
  rcases Nat.lt_or_ge i j with z | z
  · cases c : gB (gf (q.set k j)) k with
    | true => rfl
    | false =>
      have a := h.high q hq k j i hk hj (by omega) c e
      have b := h.low q hq k i hk (by omega) e
      have w := worth_lt (row_v v hk).2 z hj
      unfold bAt at a b
      omega
  · have : i = j := by omega
    subst this; exact e
/-- such a rule has no flaw -/
theorem Thr.none (v : VS bs m) (h : Thr bs gf yf) : flX bs gf yf = none := by
  refine List.findSome?_eq_none_iff.mpr fun p hpm => ?_
  have hp := plc_ok hpm
  have hl := hp.len
  refine List.findSome?_eq_none_iff.mpr fun k hk => ?_
  have hk := List.mem_range.mp hk
  have hkp : k < p.length := by omega
  have hi : p.getD k 0 < (bRow bs k).length := hp.at_ k _ (hp.at' hkp).1
  have es := set_self hkp
  have ew := bidsF_at (bs := bs) hkp
  have o := h.out p hl k _ hk hi
  have lo := h.low p hl k _ hk hi
  rw [es] at o lo
  unfold flK
  have g0 : ¬ gnP (gf p) (yf p) k (vget (bidsF bs p) k) < 0 := by
    unfold gnP
    rw [ew]
    cases c : gB (gf p) k with
    | true => have := lo c; simp only [↓reduceIte, Bool.false_eq_true]; omega
    | false => have := o c; simp only [↓reduceIte, Bool.false_eq_true]; omega
  rw [if_neg g0]
  refine List.findSome?_eq_none_iff.mpr fun x hx => ?_
  have hxi := (List.getElem?_eq_some_iff.mp (idx_mem hx)).1
  have o2 := h.out p hl k x.1 hk hxi
  have sm := h.same p hl k x.1 (p.getD k 0) hk hxi hi
  have hg := h.high p hl k (p.getD k 0) x.1 hk hi hxi
  rw [es] at sm hg
  unfold flR
  refine if_neg ?_
  unfold gnP at g0 ⊢
  rw [ew] at g0 ⊢
  cases c : gB (gf p) k with
  | true =>
    have a := lo c
    cases d : gB (gf (p.set k x.1)) k with
    | true => have := sm d c; simp only [↓reduceIte, Bool.false_eq_true]; omega
    | false => have := o2 d; simp only [↓reduceIte, Bool.false_eq_true]; omega
  | false =>
    have a := o c
    cases d : gB (gf (p.set k x.1)) k with
    | true => have := hg c d; simp only [↓reduceIte, Bool.false_eq_true]; omega
    | false => have := o2 d; simp only [↓reduceIte, Bool.false_eq_true]; omega
end

/-! ### the first flaw, by the program -/
theorem dc_all {tg fk fv} {δ : En} {α : Type} {enc : α → D} {key : α → List Int} {val : α → D} : ∀ (xs : List α) (ks : List (List Int)) (ds : List D) (s : S), (∀ x ∈ xs, ∃ δ1, tg (enc x) δ = some δ1 ∧ (∀ s, fk δ1 s = .ok (.tup ((key x).map D.int)) s) ∧ ∀ s, fv δ1 s = .ok (val x) s) → (xs.map key).Nodup → (∀ x ∈ xs, key x ∉ ks) → ks.length + xs.length ≤ 100000 →
    dcL tg fk fv δ (xs.map enc) ks ds s = .ok (ks ++ xs.map key, ds ++ xs.map val) s
  | [], ks, ds, s, _, _, _, _ => by simp [dcL]
  | x :: xs, ks, ds, s, h, nd, out, len => by
    obtain ⟨δ1, h1, h4, h3⟩ := h x (by simp)
    have nd := List.nodup_cons.mp (by simpa using nd : (key x :: xs.map key).Nodup)
    have h6 := dc_all (enc := enc) (key := key) (val := val) xs (ks ++ [key x]) (ds ++ [val x]) s (fun y hy => h y (by simp [hy])) nd.2 (fun y hy z => by
      rcases List.mem_append.mp z with z | z
      · exact out y (by simp [hy]) z
      · have z : key y = key x := by simpa using z
        exact nd.1 (z ▸ List.mem_map.mpr ⟨y, hy, rfl⟩)) (by simp at len ⊢; omega)
    have c : key x ∉ ks ∧ ks.length < 100000 := ⟨out x (by simp), by simp at len; omega⟩
    have ak : asKey (.tup ((key x).map D.int)) = some (key x) := intsD_map _
    rw [List.map_cons, dcL, h1, lift_some, bind_ok, h4, bind_ok, ak, lift_some, bind_ok, h3, bind_ok, if_pos c, h6]
    simp
section
variable {bs : List (List P2)} {m : Int} {gf : List Nat → List Bool} {yf : List Nat → List Int}
theorem gain_of_is {p : List Nat} {k : Nat} {w : Int} (h1 : k < (gf p).length) (h2 : k < (yf p).length) (s : S) : f_gain_of [asRow bs gf yf p, .int (k : Int), .int w] s = .ok (.int (gnP (gf p) (yf p) k w)) s := by
  have ig := at_bl h1
  have iy := at_get h2
  rw [u_gain_of]; unfold b_gain_of asRow rowX gnP
  simp -implicitDefEqProofs [ig, iy]
  cases gB (gf p) k <;> simp -implicitDefEqProofs
theorem flP_not {p : List Nat} {d : D} (h : flP bs gf yf p = some d) : isNonB d = false := by
  obtain ⟨k, _, e⟩ := List.exists_of_findSome?_eq_some h
  unfold flK at e
  split at e
  · cases e; rfl
  · obtain ⟨x, _, e⟩ := List.exists_of_findSome?_eq_some e
    unfold flR at e
    split at e
    · cases e; rfl
    · cases e
theorem flaw_at_is (v : VS bs m) (h : ∀ p ∈ plc bs, RwX bs m (p, gf p, yf p)) {T : D} (get : ∀ q, PlOk bs q → gGetT T (.tup ((bidsF bs q).map D.int)) = some (asRow bs gf yf q)) {p : List Nat} (hpm : p ∈ plc bs) (s : S) : f_flaw_at [salD bs m, T, bdD bs p] s = .ok ((flP bs gf yf p).getD .non) s := by
  have l4 := v.len4
  have hp := plc_ok hpm
  have hl := hp.len
  have lg : (gf p).length = p.length := (h p hpm).lg
  have ly : (yf p).length = p.length := (h p hpm).lp
  have lb := bidsF_len bs p
  have gc : g_crowd (salD bs m) = some (.tup (bs.map buD)) := rfl
  have loop := for_opt (tg := tgTup 2 (tgCons (tgName 3) (tgCons (tgName 4) tgNil))) (F := l2_flaw_at) (enc := fun (k : Nat) => D.tup [.int (k : Int), .int (vget (bidsF bs p) k)]) (fun δ => ∃ a b c d e, δ = [some (salD bs m), some T, some (bdD bs p), a, b, c, d, e]) (flK bs gf yf p) (xs := List.range bs.length)
    (δ := [some (salD bs m), some T, some (bdD bs p), none, none, none, none, none]) (by
      rintro k hk δ ⟨a, b, c, d, e, rfl⟩
      have hk := List.mem_range.mp hk
      have hkp : k < p.length := by omega
      obtain ⟨hrow, vb⟩ := row_v v hk
      have hrow' : (bs.map buD)[k]? = some (buD (bRow bs k)) := by rw [List.getElem?_map, hrow]; rfl
      have gp := get p hp
      have gn := fun s => gain_of_is (bs := bs) (gf := gf) (yf := yf) (p := p) (k := k) (w := vget (bidsF bs p) k) (by omega) (by omega) s
      have inn := for_opt (tg := tgTup 2 (tgCons (tgName 6) (tgCons (tgName 7) tgNil))) (F := l1_flaw_at) (enc := fun (x : Nat × P2) => encB x.2) (fun δ => ∃ d e, δ = [some (salD bs m), some T, some (bdD bs p), some (.int (k : Int)), some (.int (vget (bidsF bs p) k)), some (.int (gnP (gf p) (yf p) k (vget (bidsF bs p) k))), d, e]) (flR bs gf yf p k) (xs := idx (bRow bs k))
        (δ := [some (salD bs m), some T, some (bdD bs p), some (.int (k : Int)), some (.int (vget (bidsF bs p) k)), some (.int (gnP (gf p) (yf p) k (vget (bidsF bs p) k))), d, e]) (by
          rintro x hx δ ⟨d, e, rfl⟩
          have hx2 := idx_mem hx
          have hi := (List.getElem?_eq_some_iff.mp hx2).1
          have hq := hp.set1 (k := k) hi
          have hr2 := h _ hq.inP
          have lg2 : (gf (p.set k x.1)).length = p.length := by have := hr2.lg; simpa using this
          have ly2 : (yf (p.set k x.1)).length = p.length := by have := hr2.lp; simpa using this
          have ex : x.2.1 = (bAt bs k x.1).1 := by unfold bAt; rw [List.getD_eq_getElem?_getD, hx2]; rfl
          have gq := get _ hq
          have gn2 := fun s => gain_of_is (bs := bs) (gf := gf) (yf := yf) (p := p.set k x.1) (k := k) (w := vget (bidsF bs p) k) (by omega) (by omega) s
          have ec : cutD ((bidsF bs p).map D.int) none (some (k : Int)) ++ [D.int x.2.1] ++ cutD ((bidsF bs p).map D.int) (some ((k : Int) + 1)) none = (bidsF bs (p.set k x.1)).map D.int := by
            rw [set_cutD (by omega), bidsF_set hkp, ex]
          have c1 : (cutD ((bidsF bs p).map D.int) none (some (k : Int))).length ≤ 4 := by rw [cut_to, List.length_take, List.length_map]; omega
          have c2 : (cutD ((bidsF bs p).map D.int) (some ((k : Int) + 1)) none).length ≤ 4 := by rw [show ((k : Int) + 1) = ((k + 1 : Nat) : Int) by omega, cut_from _ _ (by rw [List.length_map]; omega), List.length_drop, List.length_map]; omega
          have key : ∀ s, l1_flaw_at [some (salD bs m), some T, some (bdD bs p), some (.int (k : Int)), some (.int (vget (bidsF bs p) k)), some (.int (gnP (gf p) (yf p) k (vget (bidsF bs p) k))), some (.int x.2.1), some (.int x.2.2)] s = if gnP (gf p) (yf p) k (vget (bidsF bs p) k) < gnP (gf (p.set k x.1)) (yf (p.set k x.1)) k (vget (bidsF bs p) k) then .ok (.ret (.tup [bdD bs p, .int (k : Int), .int x.2.1])) s else
              .ok (.next [some (salD bs m), some T, some (bdD bs p), some (.int (k : Int)), some (.int (vget (bidsF bs p) k)), some (.int (gnP (gf p) (yf p) k (vget (bidsF bs p) k))), some (.int x.2.1), some (.int x.2.2)]) s := fun s => by
            generalize hB : salD bs m = SS
            unfold l1_flaw_at bdD
            simp -implicitDefEqProofs [gSl]
            rw [g_addT _ _ (by simp; omega)]
            simp -implicitDefEqProofs only [lift_some, bind_ok]
            rw [g_addT _ _ (by simp; omega), ec]
            simp -implicitDefEqProofs only [lift_some, bind_ok]
            simp -implicitDefEqProofs [gq, gn2]
          refine ⟨[some (salD bs m), some T, some (bdD bs p), some (.int (k : Int)), some (.int (vget (bidsF bs p) k)), some (.int (gnP (gf p) (yf p) k (vget (bidsF bs p) k))), some (.int x.2.1), some (.int x.2.2)], rfl, fun d hd s => ?_, fun hn => ⟨[some (salD bs m), some T, some (bdD bs p), some (.int (k : Int)), some (.int (vget (bidsF bs p) k)), some (.int (gnP (gf p) (yf p) k (vget (bidsF bs p) k))), some (.int x.2.1), some (.int x.2.2)], ⟨_, _, rfl⟩, fun s => ?_⟩⟩
          · unfold flR at hd
            split at hd
            · rename_i c
              rw [key s, if_pos c]
              cases hd; rfl
            · cases hd
          · unfold flR at hn
            split at hn
            · cases hn
            · rename_i c
              rw [key s, if_neg c]) ⟨_, _, rfl⟩
      have eb : (idx (bRow bs k)).map (fun (x : Nat × P2) => encB x.2) = (bRow bs k).map encB := by
        conv => rhs; rw [← idx_map2 (bRow bs k), List.map_map]
        rfl
      rw [eb] at inn
      have st : ∀ s, l2_flaw_at [some (salD bs m), some T, some (bdD bs p), some (.int (k : Int)), some (.int (vget (bidsF bs p) k)), c, d, e] s = if gnP (gf p) (yf p) k (vget (bidsF bs p) k) < 0 then .ok (.ret (.tup [bdD bs p, .int (k : Int), .non])) s else
          forL (tgTup 2 (tgCons (tgName 6) (tgCons (tgName 7) tgNil))) l1_flaw_at ((bRow bs k).map encB) [some (salD bs m), some T, some (bdD bs p), some (.int (k : Int)), some (.int (vget (bidsF bs p) k)), some (.int (gnP (gf p) (yf p) k (vget (bidsF bs p) k))), d, e] s := fun s => by
        generalize hB : salD bs m = SS at *
        unfold l2_flaw_at bdD
        simp -implicitDefEqProofs [gp, gn]
        by_cases c : gnP (gf p) (yf p) k (vget (bidsF bs p) k) < 0
        · rw [if_pos c, if_pos c]; rfl
        · rw [if_neg c, if_neg c]
          simp -implicitDefEqProofs only [bind_ok, List.getElem?_cons_succ, List.getElem?_cons_zero, Option.join_some, lift_some, gc]
          simp -implicitDefEqProofs [hrow', buD]
      refine ⟨[some (salD bs m), some T, some (bdD bs p), some (.int (k : Int)), some (.int (vget (bidsF bs p) k)), c, d, e], rfl, fun d' hd s => ?_, fun hn => ?_⟩
      · rw [st]
        unfold flK at hd
        split at hd
        · rename_i c
          rw [if_pos c]
          cases hd; rfl
        · rename_i c
          rw [if_neg c]
          exact inn.1 d' hd s
      · unfold flK at hn
        split at hn
        · cases hn
        · rename_i c
          obtain ⟨δ2, ⟨d', e', rfl⟩, q⟩ := inn.2 hn
          exact ⟨_, ⟨_, _, _, _, _, rfl⟩, fun s => by rw [st, if_neg c]; exact q s⟩) ⟨_, _, _, _, _, rfl⟩
  have en : enumD ((bidsF bs p).map D.int) = (List.range bs.length).map fun (k : Nat) => D.tup [.int (k : Int), .int (vget (bidsF bs p) k)] := by
    rw [enum_idx D.int, idx_range _ 0, List.map_map, lb, hl]; rfl
  rw [u_flaw_at]; unfold b_flaw_at bdD
  unfold bdD at loop
  simp -implicitDefEqProofs [en]
  cases hx : flP bs gf yf p with
  | some d =>
    rw [loop.1 d hx s]; simp -implicitDefEqProofs
  | none =>
    obtain ⟨δ', ⟨_, _, _, _, _, rfl⟩, q⟩ := loop.2 hx
    rw [q s]; simp -implicitDefEqProofs
theorem flaw_of_is (v : VS bs m) (h : ∀ p ∈ plc bs, RwX bs m (p, gf p, yf p)) (s : S) : f_flaw_of [salD bs m, ruleD bs (Xof bs gf yf)] s = .ok ((flX bs gf yf).getD .non) s := by
  have hpl := Nat.le_trans (plc_len_le bs fun b hb => (v.ok b hb).len5) (Nat.le_trans (Nat.pow_le_pow_right (by decide) v.len4) (show 5 ^ 4 ≤ 625 by decide))
  have eX : ruleD bs (Xof bs gf yf) = .tup ((plc bs).map (asRow bs gf yf)) := by unfold ruleD Xof; rw [List.map_map]; rfl
  rw [eX]
  generalize hR : D.tup ((plc bs).map (asRow bs gf yf)) = R
  generalize hT : D.dct ((plc bs).map (bidsF bs)) ((plc bs).map (asRow bs gf yf)) = T
  have get : ∀ q, PlOk bs q → gGetT T (.tup ((bidsF bs q).map D.int)) = some (asRow bs gf yf q) := fun q hq => by
    rw [← hT]
    show (intsD ((bidsF bs q).map D.int)).bind _ = _
    rw [intsD_map, Option.bind_some]
    exact dGet_at (val := asRow bs gf yf) hq.inP fun x hx e => bidsF_inj v (plc_ok hx) hq e
  have dc := dc_all (tg := tgName 3) (fk := cOp gIx (cVar 3) (cC (.int 0))) (fv := cVar 3) (δ := [some (salD bs m), some R, none, none, none]) (enc := asRow bs gf yf) (key := bidsF bs) (val := asRow bs gf yf) (plc bs) [] [] s (fun p hp => ⟨[some (salD bs m), some R, none, some (asRow bs gf yf p), none], rfl, fun s => rfl, fun s => rfl⟩) (bids_nodup v) (by simp) (by simp; omega)
  rw [List.nil_append, List.nil_append] at dc
  have loop := for_opt (tg := tgName 3) (F := l1_flaw_of) (enc := asRow bs gf yf) (fun δ => ∃ a b, δ = [some (salD bs m), some R, some T, a, b]) (flP bs gf yf) (xs := plc bs) (δ := [some (salD bs m), some R, some T, none, none]) (by
    rintro p hpm δ ⟨a, b, rfl⟩
    have fa := flaw_at_is v h get hpm
    have i0 : gIx (asRow bs gf yf p) (.int 0) = some (bdD bs p) := rfl
    refine ⟨[some (salD bs m), some R, some T, some (asRow bs gf yf p), b], rfl, fun d hd s => ?_, fun hn => ⟨[some (salD bs m), some R, some T, some (asRow bs gf yf p), some .non], ⟨_, _, rfl⟩, fun s => ?_⟩⟩
    · have fa := fa s
      rw [hd] at fa
      have nn : isNonB d = false := flP_not hd
      generalize asRow bs gf yf p = RR at *
      unfold l1_flaw_of
      simp -implicitDefEqProofs [i0, fa, nn]
    · have fa := fa s
      rw [hn] at fa
      generalize asRow bs gf yf p = RR at *
      unfold l1_flaw_of
      simp -implicitDefEqProofs [i0, fa]) ⟨none, none, rfl⟩
  rw [u_flaw_of]; unfold b_flaw_of
  simp -implicitDefEqProofs
  rw [← hR] at dc loop ⊢
  simp -implicitDefEqProofs [wipeD]
  rw [dc]
  simp -implicitDefEqProofs
  rw [hT]
  cases hx : flX bs gf yf with
  | some d =>
    rw [loop.1 d hx s]; simp -implicitDefEqProofs
  | none =>
    obtain ⟨δ', ⟨_, _, rfl⟩, q⟩ := loop.2 hx
    rw [q s]; simp -implicitDefEqProofs
theorem flaw_is (v : VS bs m) (h : RuX bs m (Xof bs gf yf)) (s : S) : f_flaw [salD bs m, ruleD bs (Xof bs gf yf)] s = .ok ((flX bs gf yf).getD .non) s := by
  have a1 := flaw_of_is v (fun p hp => h.ok _ (List.mem_map.mpr ⟨p, hp, rfl⟩)) s
  have a2 : f_need_rule [salD bs m, ruleD bs (Xof bs gf yf)] s = .ok .non s := by
    have := is_rule_of_is v h s
    generalize ruleD bs (Xof bs gf yf) = R at *
    rw [u_need_rule]; unfold b_need_rule
    simp -implicitDefEqProofs [this]
  generalize ruleD bs (Xof bs gf yf) = R at *
  rw [u_flaw]; unfold b_flaw
  simp -implicitDefEqProofs [need_sale_is, a1, a2]
end

def takT (bs : List (List P2)) (pays : List Nat → List Int) : Int := ((plc bs).map fun p => wt bs p * (pays p).sum).sum
def row3 (A G : List Nat → D) (pays : List Nat → List Int) (p : List Nat) : D := .tup [A p, G p, .tup ((pays p).map D.int)]
theorem takings_of_is {bs : List (List P2)} {m : Int} {A G : List Nat → D} {pays : List Nat → List Int} (v : VS bs m) (hb : ∀ p ∈ plc bs, Bd 5000 (pays p).sum) (s : S) : f_takings_of [salD bs m, .tup ((plc bs).map (row3 A G pays))] s = .ok (frD (Rat.divInt (takT bs pays) (totW bs))) s := by
  have hW := totW_ok v
  have l4 := v.len4
  have b5 : ∀ b ∈ bs, b.length ≤ 5 := fun b hb => (v.ok b hb).len5
  have pls := all_places_is (m := m) v.len4 b5
  generalize hR : D.tup ((plc bs).map (row3 A G pays)) = R
  have k1 := for_inv (tg := tgName 4) (F := l1_takings_of) (enc := buD) (xs := bs) (fun pre δ s' => s' = s ∧ ∃ c, δ = [some (salD bs m), some R, some (.int 0), some (.int (totW pre)), c, none, none, none, none, none])
    (δ := [some (salD bs m), some R, some (.int 0), some (.int 1), none, none, none, none, none, none]) (s := s) ⟨rfl, none, rfl⟩ (by
      rintro pre x post δ s' e ⟨rfl, c, rfl⟩
      have hx : x ∈ bs := by rw [e]; simp
      have vx := v.ok x hx
      have hb := sum_bd x fun y hy => (vx.ok y hy).2.2
      have hb1 : Bd 33 (tot x) := by have := vx.len5; have := vx.len1; unfold Bd; omega
      have hp : Bd (33 * (pre.map tot).length + 1) (totW pre) := mulL1_bd _ fun a ha => by
        obtain ⟨b, hb, rfl⟩ := List.mem_map.mp ha
        have vb := v.ok b (by rw [e]; simp [hb])
        have := sum_bd b fun y hy => (vb.ok y hy).2.2
        have := vb.len5; have := vb.len1
        unfold Bd; omega
      have hlen := congrArg List.length e
      rw [List.length_append, List.length_cons] at hlen
      rw [List.length_map] at hp
      refine ⟨_, [some (salD bs m), some R, some (.int 0), some (.int (totW (pre ++ [x]))), some (buD x), none, none, none, none, none], s', rfl, ?_, rfl, _, rfl⟩
      unfold l1_takings_of
      simp -implicitDefEqProofs [total_of_is vx.len5, g_mul hp hb1 (by omega), totW_snoc])
  obtain ⟨δ1, s1, e1, rfl, c1, rfl⟩ := k1
  have k2 := for_inv (tg := tgTup 2 (tgCons (tgName 5) (tgCons (tgName 6) tgNil))) (F := l3_takings_of) (enc := fun (x : Nat × List Nat) => D.tup [.int (x.1 : Int), plD x.2]) (xs := idx (plc bs)) (fun pre δ s' => s' = s1 ∧ ∃ c d e f g, δ = [some (salD bs m), some R, some (.int ((pre.map fun x => wt bs x.2 * (pays x.2).sum).sum)), some (.int (totW bs)), c1, c, d, e, f, g])
    (δ := [some (salD bs m), some R, some (.int 0), some (.int (totW bs)), c1, none, none, none, none, none]) (s := s1) ⟨rfl, none, none, none, none, none, rfl⟩ (by
      rintro pre x post δ s' e ⟨rfl, c, d, e2, f, g, rfl⟩
      obtain ⟨j1, j2, j3⟩ := idx_split e
      obtain ⟨k, p⟩ := x
      have j1 : k = pre.length := j1
      have j2 : (plc bs)[pre.length]? = some p := j2
      have hpm := List.mem_of_getElem? j2
      have hp := plc_ok hpm
      have hpl := hp.len
      generalize hT : ((pre.map fun x => wt bs x.2 * (pays x.2).sum).sum) = T0
      have k3 := for_inv (tg := tgTup 2 (tgCons (tgName 8) (tgCons (tgName 9) tgNil))) (F := l2_takings_of) (enc := fun (x : Nat × Nat) => D.tup [.int (x.1 : Int), .int (x.2 : Int)]) (xs := idx p) (fun q δ s2 => s2 = s' ∧ ∃ f g, δ = [some (salD bs m), some R, some (.int T0), some (.int (totW bs)), c1, some (.int (k : Int)), some (plD p), some (.int (mulL1 (q.map fun x => (bAt bs x.1 x.2).2))), f, g])
        (δ := [some (salD bs m), some R, some (.int T0), some (.int (totW bs)), c1, some (.int (k : Int)), some (plD p), some (.int 1), f, g]) (s := s') ⟨rfl, f, g, rfl⟩ (by
          rintro q x t δ s2 e3 ⟨rfl, f, g, rfl⟩
          obtain ⟨i1, i2, i3⟩ := idx_split e3
          have hx : x ∈ idx p := by rw [e3]; simp
          obtain ⟨a1, a2, a3, a4⟩ := hp.get (idx_mem hx)
          have w := wt_fac v hp
          have hb := (w _ (List.mem_map.mpr ⟨x, hx, rfl⟩)).2
          have hq : Bd (30 * (q.map fun x => (bAt bs x.1 x.2).2).length + 1) (mulL1 (q.map fun x => (bAt bs x.1 x.2).2)) := mulL1_bd _ fun a ha => by
            obtain ⟨y, hy, rfl⟩ := List.mem_map.mp ha
            exact (w _ (List.mem_map.mpr ⟨y, by rw [e3]; simp [hy], rfl⟩)).2
          have hlen := congrArg List.length e3
          rw [List.length_append, List.length_cons, idx_len] at hlen
          rw [List.length_map] at hq
          refine ⟨_, [some (salD bs m), some R, some (.int T0), some (.int (totW bs)), c1, some (.int (k : Int)), some (plD p), some (.int (mulL1 ((q ++ [x]).map fun x => (bAt bs x.1 x.2).2))), some (.int (x.1 : Int)), some (.int (x.2 : Int))], s2, rfl, ?_, rfl, _, _, rfl⟩
          unfold l2_takings_of
          simp -implicitDefEqProofs [a1, a2, buD, encB, g_mul hq hb (by omega), mulL1_snoc])
      obtain ⟨δ3, s3, e3, rfl, f3, g3, rfl⟩ := k3
      have hbt := hb p hpm
      have hbw : Bd 121 (wt bs p) := (mulL1_bd _ fun a ha => (wt_fac v hp a ha).2).mono (by rw [List.length_map, idx_len]; omega)
      have hrow : ((plc bs).map (row3 A G pays))[k]? = some (row3 A G pays p) := by rw [List.getElem?_map, j1, j2]; rfl
      refine ⟨_, [some (salD bs m), some R, some (.int (((pre ++ [(k, p)]).map fun x => wt bs x.2 * (pays x.2).sum).sum)), some (.int (totW bs)), c1, some (.int (k : Int)), some (plD p), some (.int (wt bs p)), f3, g3], s3, rfl, ?_, rfl, _, _, _, _, _, rfl⟩
      have e9 : mulL1 ((idx p).map fun x => (bAt bs x.1 x.2).2) = wt bs p := rfl
      rw [e9] at e3
      unfold l3_takings_of
      simp -implicitDefEqProofs [plD, enum_idx] at e3 ⊢
      rw [e3]
      rw [← hR]
      simp -implicitDefEqProofs only [bind_ok, List.getElem?_cons_succ, List.getElem?_cons_zero, Option.join_some, Option.bind_some, lift_some, g_asI, g_ixT, at_nat, hrow, row3, g_sumT, at_2, g_mul hbw hbt (by decide)]
      simp -implicitDefEqProofs [hT])
  obtain ⟨δ2, s2, e2, rfl, c2, d2, f2, g2, h2, rfl⟩ := k2
  have eT : ((idx (plc bs)).map fun x => wt bs x.2 * (pays x.2).sum).sum = takT bs pays := by
    unfold takT
    conv => rhs; rw [← idx_map2 (plc bs), List.map_map]
    rfl
  rw [eT] at e2
  rw [u_takings_of]; unfold b_takings_of
  simp -implicitDefEqProofs
  rw [e1]
  simp -implicitDefEqProofs [pls, enum_idx]
  rw [e2]
  simp -implicitDefEqProofs
  rw [made_is s2 hW.1 (hW.2.mono (by decide))]
  simp -implicitDefEqProofs

theorem need_rule_is {bs : List (List P2)} {m : Int} (v : VS bs m) {X : List RR} (h : RuX bs m X) (s : S) : f_need_rule [salD bs m, ruleD bs X] s = .ok .non s := by
  rw [u_need_rule]; unfold b_need_rule
  simp -implicitDefEqProofs [is_rule_of_is v h]
theorem takings_is {bs : List (List P2)} {m : Int} (v : VS bs m) {g : List Nat → List Bool} {y : List Nat → List Int} (h : RuX bs m (Xof bs g y)) (s : S) : f_takings [salD bs m, ruleD bs (Xof bs g y)] s = .ok (frD (Rat.divInt (tT bs (Xof bs g y)) (totW bs))) s := by
  have l4 := v.len4
  have e : ruleD bs (Xof bs g y) = .tup ((plc bs).map (row3 (fun p => .tup ((bidsF bs p).map D.int)) (fun p => .tup ((g p).map D.bl)) y)) := by
    unfold ruleD Xof
    rw [List.map_map]; rfl
  have ta := takings_of_is (A := fun p => .tup ((bidsF bs p).map D.int)) (G := fun p => .tup ((g p).map D.bl)) (pays := y) v (fun p hp => by
    have hx : (p, g p, y p) ∈ Xof bs g y := List.mem_map.mpr ⟨p, hp, rfl⟩
    have hr := h.ok _ hx
    have hl := (plc_ok hp).len
    have lp : (y p).length = p.length := hr.lp
    refine Bd.mono (n := 31 + (y p).length) (Bd.sum fun a ha => ?_) (by omega)
    have := hr.bd a ha
    unfold Bd; omega) s
  have nr := need_rule_is v h s
  have et : tT bs (Xof bs g y) = takT bs y := by
    unfold tT takT Xof
    rw [List.map_map]; rfl
  rw [et]
  rw [e] at nr ⊢
  rw [u_takings]; unfold b_takings
  simp -implicitDefEqProofs [need_sale_is, nr, ta]

section
variable {bs : List (List P2)} {m : Int}
/-- a rule is told by two functions of the places -/
theorem x_of {X : List RR} (h : RuX bs m X) : ∃ gf yf, X = Xof bs gf yf := by
  refine ⟨fun p => ((X.find? fun x => decide (x.1 = p)).map (·.2.1)).getD [], fun p => ((X.find? fun x => decide (x.1 = p)).map (·.2.2)).getD [], ?_⟩
  have nd : (X.map (·.1)).Nodup := by rw [h.all]; exact plc_nodup _ bs rfl
  have key : ∀ (Y : List RR), (Y.map (·.1)).Nodup → ∀ x ∈ Y, (Y.find? fun z => decide (z.1 = x.1)) = some x := by
    intro Y
    induction Y with
    | nil => intro _ x hx; cases hx
    | cons y Y ih =>
      intro nd x hx
      have nd := List.nodup_cons.mp (by simpa using nd : (y.1 :: Y.map (·.1)).Nodup)
      rw [List.find?_cons]
      rcases List.mem_cons.mp hx with rfl | hx
      · simp
      · have : y.1 ≠ x.1 := fun z => nd.1 (z ▸ List.mem_map.mpr ⟨x, hx, rfl⟩)
        simp [this]
        exact ih nd.2 x hx
  unfold Xof
  rw [← h.all, List.map_map]
  conv => lhs; rw [← List.map_id X]
  refine List.map_congr_left fun x hx => ?_
  simp only [Function.comp, id]
  rw [key X nd x hx]; rfl
end

/-! ### odd values in a rule -/
theorem from_non (lo hi : Int) (s : S) : f_is_from [.non, .int lo, .int hi] s = .ok (.bl false) s := by
  rw [u_is_from]; unfold b_is_from
  simp -implicitDefEqProofs
theorem from_bl (b : Bool) (lo hi : Int) (s : S) : f_is_from [.bl b, .int lo, .int hi] s = .ok (.bl false) s := by
  rw [u_is_from]; unfold b_is_from
  simp -implicitDefEqProofs
theorem from_str (x : Str) (lo hi : Int) (s : S) : f_is_from [.str x, .int lo, .int hi] s = .ok (.bl false) s := by
  rw [u_is_from]; unfold b_is_from
  simp -implicitDefEqProofs
theorem from_tup (x : List D) (lo hi : Int) (s : S) : f_is_from [.tup x, .int lo, .int hi] s = .ok (.bl false) s := by
  rw [u_is_from]; unfold b_is_from
  simp -implicitDefEqProofs
inductive EK : D → Prop
  | non : EK .non
  | bl (b : Bool) : EK (.bl b)
  | int (i : Int) : EK (.int i)
  | one : EK (.str "1")
  | nil : EK (.tup [])
def frm (lo hi : Int) : D → Bool | .int i => decide (lo ≤ i ∧ i ≤ hi) | _ => false
theorem from_ek {d : D} (h : EK d) (lo hi : Int) (s : S) : f_is_from [d, .int lo, .int hi] s = .ok (.bl (frm lo hi d)) s := by
  cases h
  · exact from_non lo hi s
  · exact from_bl _ lo hi s
  · exact is_from_is _ lo hi s
  · exact from_str _ lo hi s
  · exact from_tup _ lo hi s
def isBl : D → Bool | .bl _ => true | _ => false
def isTr : D → Bool | .bl true => true | _ => false
theorem kB_sb : kitB "str" "bool" = some false := by decide +kernel
theorem kB_nb : kitB "NoneType" "bool" = some false := by decide +kernel
theorem kB_si : kitB "str" "int" = some false := by decide +kernel
theorem kB_ni : kitB "NoneType" "int" = some false := by decide +kernel
theorem kB_bi : kitB "bool" "int" = some true := by decide +kernel
theorem kB_bb : kitB "bool" "bool" = some true := by decide +kernel
theorem kB_nt : kitB "NoneType" "tuple" = some false := by decide +kernel
theorem kB_lt : kitB "list" "tuple" = some false := by decide +kernel
theorem isi_bl {d : D} (h : EK d) : gIsi "bool" d = some (.bl (isBl d)) := by
  cases h
  · show (kitB "NoneType" "bool").map D.bl = _; rw [kB_nb]; rfl
  · show (kitB "bool" "bool").map D.bl = _; rw [kB_bb]; rfl
  · show (kitB "int" "bool").map D.bl = _; rw [kB_ib]; rfl
  · show (kitB "str" "bool").map D.bl = _; rw [kB_sb]; rfl
  · show (kitB "tuple" "bool").map D.bl = _; rw [kB_tb]; rfl
def isNum : D → Bool | .bl _ => true | .int _ => true | _ => false
theorem isi_int {d : D} (h : EK d) : gIsi "int" d = some (.bl (isNum d)) := by
  cases h
  · show (kitB "NoneType" "int").map D.bl = _; rw [kB_ni]; rfl
  · show (kitB "bool" "int").map D.bl = _; rw [kB_bi]; rfl
  · show (kitB "int" "int").map D.bl = _; rw [kB_ii]; rfl
  · show (kitB "str" "int").map D.bl = _; rw [kB_si]; rfl
  · show (kitB "tuple" "int").map D.bl = _; rw [kB_ti]; rfl
def isInts : List D → List Int → Bool
  | [], [] => true
  | .int i :: as, x :: xs => decide (i = x) && isInts as xs
  | _, _ => false
theorem isInts_iff : ∀ {as : List D} {xs : List Int}, isInts as xs = true ↔ as = xs.map D.int
  | [], [] => by simp [isInts]
  | [], _ :: _ => by simp [isInts]
  | d :: as, [] => by cases d <;> simp [isInts]
  | d :: as, x :: xs => by
    have ih := isInts_iff (as := as) (xs := xs)
    cases d <;> simp [isInts, ih]
/-- == by Python, item by item -/
def eqI : D → Int → Bool | .int i, x => i == x | .bl b, x => (if b then 1 else 0) == x | _, _ => false
def eqA : List D → List Int → Bool
  | [], [] => true
  | d :: as, x :: xs => eqI d x && eqA as xs
  | _, _ => false
theorem eqA_ints : ∀ {as : List D}, (∀ d ∈ as, EK d) → ∀ xs : List Int, (eqA as xs && !as.any isBl) = isInts as xs
  | [], _, [] => rfl
  | [], _, _ :: _ => rfl
  | d :: as, h, [] => by cases h d (by simp) <;> simp [eqA, isInts]
  | d :: as, h, x :: xs => by
    have ih := eqA_ints (as := as) (fun e he => h e (by simp [he])) xs
    cases h d (by simp) with
    | non => simp [eqA, eqI, isInts]
    | bl b => simp [isBl, isInts]
    | one => simp [eqA, eqI, isInts]
    | nil => simp [eqA, eqI, isInts]
    | int i =>
      rw [show isInts (.int i :: as) (x :: xs) = (decide (i = x) && isInts as xs) from rfl, ← ih]
      show ((eqI (.int i) x && eqA as xs) && !(List.any (.int i :: as) isBl)) = _
      rw [List.any_cons]
      show (((i == x) && eqA as xs) && !(false || as.any isBl)) = _
      rw [Bool.false_or, Bool.and_assoc]
      by_cases z : i = x <;> simp [z]
theorem eqA_py : ∀ {as : List D}, (∀ d ∈ as, EK d) → ∀ xs : List Int, ∃ ps, toPys as = some ps ∧ PyData.canLayAll0 ps = true ∧ PyData.depthAll ps ≤ 3 ∧ PyData.eqvAll ps (xs.map PyData.int) = eqA as xs
  | [], _, [] => ⟨[], rfl, rfl, by simp [PyData.depthAll], by simp [PyData.eqvAll, eqA]⟩
  | [], _, _ :: _ => ⟨[], rfl, rfl, by simp [PyData.depthAll], by simp [PyData.eqvAll, eqA]⟩
  | d :: as, h, xs => by
    obtain ⟨ps, h1, h2, h3, h4⟩ := eqA_py (as := as) (fun e he => h e (by simp [he])) xs.tail
    have ex : ∃ p, toPy d = some p ∧ p.canLay0 = true ∧ p.depth ≤ 3 ∧ ∀ x : Int, PyData.eqv p (.int x) = eqI d x := by
      cases h d (by simp) with
      | non => exact ⟨.none, rfl, by simp [PyData.canLay0], by simp [PyData.depth], fun x => by simp [PyData.eqv, eqI]⟩
      | bl b => exact ⟨.bool b, rfl, by simp [PyData.canLay0], by simp [PyData.depth], fun x => by simp [PyData.eqv, eqI]⟩
      | int i => exact ⟨.int i, rfl, by simp [PyData.canLay0], by simp [PyData.depth], fun x => by simp [PyData.eqv, eqI]⟩
      | one => exact ⟨.str "1", rfl, by simp only [PyData.canLay0]; decide +kernel, by simp [PyData.depth], fun x => by simp [PyData.eqv, eqI]⟩
      | nil => exact ⟨.tuple [], rfl, by simp [PyData.canLay0, PyData.canLayAll0], by simp [PyData.depth, PyData.depthAll], fun x => by simp [PyData.eqv, eqI]⟩
    obtain ⟨p, g1, g2, g3, g4⟩ := ex
    refine ⟨p :: ps, by simp [toPys, g1, h1], by simp [PyData.canLayAll0, g2, h2], by simp [PyData.depthAll]; omega, ?_⟩
    cases xs with
    | nil => simp [PyData.eqvAll, eqA]
    | cons x xs =>
      rw [List.map_cons, PyData.eqvAll, g4]
      show (eqI d x && PyData.eqvAll ps (xs.map PyData.int)) = (eqI d x && eqA as xs)
      rw [show PyData.eqvAll ps (xs.map PyData.int) = eqA as xs from h4]
theorem toPys_ints : ∀ xs : List Int, toPys (xs.map D.int) = some (xs.map PyData.int) ∧ PyData.canLayAll0 (xs.map PyData.int) = true ∧ PyData.depthAll (xs.map PyData.int) ≤ 3
  | [] => ⟨rfl, rfl, by simp [PyData.depthAll]⟩
  | x :: xs => by
    obtain ⟨a, b, c⟩ := toPys_ints xs
    exact ⟨by simp [toPys, toPy, a], by simp [PyData.canLayAll0, PyData.canLay0, b], by simp [PyData.depthAll, PyData.depth]; omega⟩
theorem ne_odd {as : List D} (h : ∀ d ∈ as, EK d) (xs : List Int) : gNe (.tup as) (.tup (xs.map D.int)) = some (.bl (!eqA as xs)) := by
  obtain ⟨ps, h1, h2, h3, h4⟩ := eqA_py h xs
  obtain ⟨a, b, c⟩ := toPys_ints xs
  have s1 : SeqAt.shaped (.tuple ps) = true := by unfold SeqAt.shaped; simp [PyData.canLay0, h2, PyData.depth]; omega
  have s2 : SeqAt.shaped (.tuple (xs.map PyData.int)) = true := by unfold SeqAt.shaped; simp [PyData.canLay0, b, PyData.depth]; omega
  have e1 : pyOk (.tup as) = some (.tuple ps) := by unfold pyOk; simp [toPy, h1, s1]
  have e2 : pyOk (.tup (xs.map D.int)) = some (.tuple (xs.map PyData.int)) := by unfold pyOk; simp [toPy, a, s2]
  unfold gNe eqD
  rw [e1, e2]
  simp [PyData.eqv, h4]
inductive RK : D → Prop
  | non : RK .non
  | nil : RK (.tup [])
  | two (a b : D) : RK (.tup [a, b])
  | r3 (as gs ys : List D) : (∀ d ∈ as, EK d) → (∀ d ∈ gs, EK d) → (∀ d ∈ ys, EK d) → as.length ≤ 9 → gs.length ≤ 9 → ys.length ≤ 9 → RK (.tup [.tup as, .tup gs, .tup ys])
  | rl (as gs ys : List D) : (∀ d ∈ as, EK d) → as.length ≤ 9 → RK (.tup [.tup as, .lst gs, .tup ys])
def r3OK (xs : List Int) (m : Int) (as gs ys : List D) : Bool := isInts as xs && (decide (gs.length = xs.length) && (decide (ys.length = xs.length) && (gs.all isBl && (ys.all (frm (-1000000000) 1000000000) && decide (((gs.filter isTr).length : Int) ≤ m)))))
def rowOK (xs : List Int) (m : Int) : D → Bool
  | .tup [.tup as, .tup gs, .tup ys] => r3OK xs m as gs ys
  | _ => false
theorem comp_bs {tg f δ} {e : D → Bool} {xs : List D} {s : S} (h : ∀ x ∈ xs, ∃ δ1, tg x δ = some δ1 ∧ ∀ s, f δ1 s = .ok (.bl (e x)) s) : compL tg cYes f δ xs s = .ok ((xs.map e).map D.bl) s := by
  have := comp_map (enc := id) (e := fun x => .bl (e x)) (xs := xs) (s := s) (tg := tg) (f := f) (δ := δ) h
  rw [List.map_id] at this
  rw [this, List.map_map]; rfl
theorem all_map {α : Type} (f : α → Bool) (xs : List α) : (xs.map f).all id = xs.all f := by simp [List.all_map]
theorem any_map' {α : Type} (f : α → Bool) (xs : List α) : (xs.map f).any id = xs.any f := by simp [List.any_map]

/-! ### a row of a rule, by the program -/
section
variable {bs : List (List P2)} {m : Int}
theorem any_no {as : List D} (h : ∀ d ∈ as, EK d) {lo hi : Int} (ha : as.all (frm lo hi) = true) : as.any isBl = false := by
  rw [List.any_eq_false]
  intro d hd
  have := List.all_eq_true.mp ha d hd
  cases h d hd <;> simp [frm, isBl] at this ⊢
theorem ints_frm {as : List D} {B : List Int} (hB : ∀ a ∈ B, 0 ≤ a ∧ a ≤ 1000000000) (h : isInts as B = true) : as.all (frm 0 1000000000) = true := by
  rw [isInts_iff.mp h, List.all_map, List.all_eq_true]
  intro a ha
  have := hB a ha
  simp [frm, this]
theorem is_row_gen (v : VS bs m) {p : List Nat} (hp : PlOk bs p) {d : D} (h : RK d) (s : S) : f_is_row [salD bs m, d, .tup ((bidsF bs p).map D.int)] s = .ok (.bl (rowOK (bidsF bs p) m d)) s := by
  have l4 := v.len4
  have hl := hp.len
  have bl := bidsF_len bs p
  have bo := bidsF_ok v hp
  generalize hB : bidsF bs p = B at *
  cases h with
  | non =>
    have z : gIsi "tuple" D.non = some (.bl false) := by show (kitB "NoneType" "tuple").map D.bl = _; rw [kB_nt]; rfl
    rw [u_is_row]; unfold b_is_row
    simp -implicitDefEqProofs [z, rowOK]
  | nil =>
    rw [u_is_row]; unfold b_is_row
    simp -implicitDefEqProofs [rowOK]
  | two a b =>
    rw [u_is_row]; unfold b_is_row
    simp -implicitDefEqProofs [rowOK]
  | rl as gs ys ha hl =>
    generalize hR : D.tup [D.tup as, .lst gs, .tup ys] = R
    have z : gIsi "tuple" (D.lst gs) = some (.bl false) := by show (kitB "list" "tuple").map D.bl = _; rw [kB_lt]; rfl
    have c1 : ∀ s, compL (tgName 3) cYes (cIsi "tuple" (cVar 3)) [some (salD bs m), some R, some (.tup (B.map D.int)), none, none, none, none] [D.tup as, .lst gs, .tup ys] s = .ok ([true, false, true].map D.bl) s := fun s => by
      simp -implicitDefEqProofs [compL, z]
    have iL : gLen [R] = some (.int 3) := by rw [← hR]; rfl
    have iS : seqD R = some [D.tup as, .lst gs, .tup ys] := by rw [← hR]; rfl
    have iI : gIsi "tuple" R = some (.bl true) := by rw [← hR]; simp
    have rk : rowOK B m R = false := by rw [← hR]; rfl
    rw [u_is_row]; unfold b_is_row
    simp -implicitDefEqProofs [iI, iL, iS]
    rw [c1]
    simp -implicitDefEqProofs [gAll, rk]
    rfl
  | r3 as gs ys ha hg hy la lg ly =>
    generalize hR : D.tup [D.tup as, .tup gs, .tup ys] = R
    have rk : rowOK B m R = r3OK B m as gs ys := by rw [← hR]; rfl
    have c1 : ∀ s, compL (tgName 3) cYes (cIsi "tuple" (cVar 3)) [some (salD bs m), some R, some (.tup (B.map D.int)), none, none, none, none] [D.tup as, .tup gs, .tup ys] s = .ok ([true, true, true].map D.bl) s := fun s => by
      simp -implicitDefEqProofs [compL]
    have c2 : ∀ s, compL (tgName 4) cYes (cCall 3 f_is_from (cCons (cVar 4) (cCons (cC (.int 0)) (cCons (cC (.int 1000000000)) cNil)))) [some (salD bs m), some R, some (.tup (B.map D.int)), none, none, none, none] as s = .ok ((as.map (frm 0 1000000000)).map D.bl) s := fun s =>
      comp_bs fun a h => ⟨_, rfl, fun s => by simp -implicitDefEqProofs [from_ek (ha a h)]⟩
    have c3 : ∀ s, compL (tgName 5) cYes (cIsi "bool" (cVar 5)) [some (salD bs m), some R, some (.tup (B.map D.int)), none, none, none, none] gs s = .ok ((gs.map isBl).map D.bl) s := fun s =>
      comp_bs fun a h => ⟨_, rfl, fun s => by simp -implicitDefEqProofs [isi_bl (hg a h)]⟩
    have c4 : ∀ s, compL (tgName 6) cYes (cCall 3 f_is_from (cCons (cVar 6) (cCons (cUn gNeg (cC (.int 1000000000))) (cCons (cC (.int 1000000000)) cNil)))) [some (salD bs m), some R, some (.tup (B.map D.int)), none, none, none, none] ys s = .ok ((ys.map (frm (-1000000000) 1000000000)).map D.bl) s := fun s =>
      comp_bs fun a h => ⟨_, rfl, fun s => by simp -implicitDefEqProofs [from_ek (hy a h)]⟩
    have i0 : gIx R (.int 0) = some (.tup as) := by rw [← hR]; rfl
    have i1 : gIx R (.int 1) = some (.tup gs) := by rw [← hR]; rfl
    have i2 : gIx R (.int 2) = some (.tup ys) := by rw [← hR]; rfl
    have iL : gLen [R] = some (.int 3) := by rw [← hR]; rfl
    have iS : seqD R = some [D.tup as, .tup gs, .tup ys] := by rw [← hR]; rfl
    have iI : gIsi "tuple" R = some (.bl true) := by rw [← hR]; simp
    have t3 : gAll [.lst [.bl true, .bl true, .bl true]] = some (.bl true) := rfl
    have ne := ne_odd ha B
    have la' : as.length ≤ 100000 := by omega
    have lg' : gs.length ≤ 100000 := by omega
    have ly' : ys.length ≤ 100000 := by omega
    rw [u_is_row]; unfold b_is_row
    rw [rk]
    simp -implicitDefEqProofs [iI, iL, iS, c1, t3, i0, la']
    rw [c2]
    simp -implicitDefEqProofs only [bind_ok, lift_some, g_all, all_map, g_asB]
    cases q1 : as.all (frm 0 1000000000) with
    | false =>
      have : isInts as B = false := by
        cases z : isInts as B with
        | false => rfl
        | true => rw [ints_frm bo z] at q1; cases q1
      simp -implicitDefEqProofs [r3OK, this]
    | true =>
      have e1 := eqA_ints ha B
      rw [any_no ha q1, Bool.not_false, Bool.and_true] at e1
      simp -implicitDefEqProofs [i0, ne]
      cases q2 : eqA as B with
      | false =>
        rw [q2] at e1
        simp -implicitDefEqProofs [r3OK, ← e1]
      | true =>
        rw [q2] at e1
        simp -implicitDefEqProofs [i1, i2, lg', ly']
        by_cases n1 : gs.length = B.length
        · by_cases n2 : ys.length = B.length
          · simp -implicitDefEqProofs [n1, n2, i1, lg', show B.length ≤ 100000 by omega]
            rw [c3]
            simp -implicitDefEqProofs only [bind_ok, lift_some, g_all, all_map, g_asB]
            cases q3 : gs.all isBl with
            | false => simp -implicitDefEqProofs [r3OK, q3]
            | true =>
              simp -implicitDefEqProofs [i2, ly', n2, show B.length ≤ 100000 by omega]
              rw [c4]
              simp -implicitDefEqProofs only [bind_ok, lift_some, g_all, all_map, g_asB]
              cases q4 : ys.all (frm (-1000000000) 1000000000) with
              | false => simp -implicitDefEqProofs [r3OK, q4]
              | true =>
                have c5 : ∀ s, compL (tgName 5) (cTst (cVar 5)) (cVar 5) [some (salD bs m), some R, some (.tup (B.map D.int)), none, none, none, none] gs s = .ok (gs.filter isTr) s := fun s => by
                  have := comp_pure (enc := id) (xs := gs) (p := isTr) (e := id) (tg := tgName 5) (c := cTst (cVar 5)) (f := cVar 5) (δ := [some (salD bs m), some R, some (.tup (B.map D.int)), none, none, none, none]) (s := s) fun a h => ⟨_, rfl, fun s => by
                    have := List.all_eq_true.mp q3 a h
                    cases a <;> simp [isBl] at this
                    rename_i b
                    cases b <;> simp -implicitDefEqProofs [isTr], fun _ s => by simp -implicitDefEqProofs⟩
                  rw [List.map_id, List.map_id] at this
                  exact this
                simp -implicitDefEqProofs [i1, lg', n1, show B.length ≤ 100000 by omega]
                rw [c5]
                simp -implicitDefEqProofs [r3OK, ← e1, n1, n2, q3, q4]
          · have n2' : ¬ (ys.length : Int) = (B.length : Int) := by omega
            simp -implicitDefEqProofs [n1, n2, n2', r3OK]
        · have n1' : ¬ (gs.length : Int) = (B.length : Int) := by omega
          simp -implicitDefEqProofs [n1, n1', r3OK]
end

/-! ### a rule, by the program -/
theorem mem_idx {α : Type} {xs : List α} {i : Nat} {x : α} (h : xs[i]? = some x) : (i, x) ∈ idx xs := by
  obtain ⟨hi, e⟩ := List.getElem?_eq_some_iff.mp h
  unfold idx
  rw [List.mem_iff_getElem]
  exact ⟨i, by simpa using hi, by simp [e]⟩
section
variable {bs : List (List P2)} {m : Int}
/-- a value of rows: as many as there are bids, and each is fine -/
def rulOK (bs : List (List P2)) (m : Int) (rows : List D) : Bool := decide (rows.length = (plc bs).length) && ((idx (plc bs)).all fun x => rowOK (bidsF bs x.2) m (rows.getD x.1 .non))
theorem is_rule_of_gen (v : VS bs m) {rows : List D} (h : ∀ d ∈ rows, RK d) (s : S) : f_is_rule_of [salD bs m, .tup rows] s = .ok (.bl (rulOK bs m rows)) s := by
  have l4 := v.len4
  have b5 : ∀ b ∈ bs, b.length ≤ 5 := fun b hb => (v.ok b hb).len5
  have pls := all_places_is (m := m) v.len4 b5
  have hpl := Nat.le_trans (plc_len_le bs b5) (Nat.le_trans (Nat.pow_le_pow_right (by decide) l4) (show 5 ^ 4 ≤ 625 by decide))
  rw [u_is_rule_of]; unfold b_is_rule_of
  by_cases hn : rows.length = (plc bs).length
  · have c1 : ∀ s, compL (tgTup 2 (tgCons (tgName 3) (tgCons (tgName 4) tgNil))) cYes (cCall 3 f_is_row (cCons (cVar 0) (cCons (cOp gIx (cVar 1) (cVar 3)) (cCons (cCall 2 f_bids_at (cCons (cVar 0) (cCons (cVar 4) cNil))) cNil)))) [some (salD bs m), some (.tup rows), some (.lst ((plc bs).map plD)), none, none] ((idx (plc bs)).map fun x => .tup [.int (x.1 : Int), plD x.2]) s = .ok ((idx (plc bs)).map fun x => .bl (rowOK (bidsF bs x.2) m (rows.getD x.1 .non))) s := fun s =>
      comp_map fun x hx => ⟨_, rfl, fun s => by
        have j := idx_mem hx
        have hp := plc_ok (List.mem_of_getElem? j)
        have hk : x.1 < rows.length := by rw [hn]; exact (List.getElem?_eq_some_iff.mp j).1
        have bi := bids_at_is (m := m) hp l4 s
        have e : rows[x.1]? = some (rows.getD x.1 .non) := by rw [List.getD_eq_getElem?_getD, List.getElem?_eq_getElem hk]; rfl
        have ir := is_row_gen v hp (h _ (List.mem_of_getElem? e)) s
        generalize rows.getD x.1 .non = r at *
        simp -implicitDefEqProofs [e, bi, ir]⟩
    simp -implicitDefEqProofs [pls, enum_idx, idx_len, hn, show (plc bs).length ≤ 100000 by omega]
    rw [c1]
    have e : ((idx (plc bs)).map fun x => D.bl (rowOK (bidsF bs x.2) m (rows.getD x.1 .non))) = ((idx (plc bs)).map fun x => rowOK (bidsF bs x.2) m (rows.getD x.1 .non)).map D.bl := by rw [List.map_map]; rfl
    rw [e]
    simp -implicitDefEqProofs only [bind_ok, lift_some, g_all, all_map, g_asB]
    simp [rulOK, hn]
  · have hn' : ¬ (rows.length : Int) = ((plc bs).length : Int) := by omega
    simp -implicitDefEqProofs [pls, hn, hn', rulOK]
theorem is_rule_gen (v : VS bs m) {rows : List D} (h : ∀ d ∈ rows, RK d) (s : S) : f_is_rule [salD bs m, .tup rows] s = .ok (.bl (rulOK bs m rows)) s := by
  rw [u_is_rule]; unfold b_is_rule
  simp -implicitDefEqProofs [need_sale_is, is_rule_of_gen v h]
/-- what is no tuple is no rule -/
theorem is_rule_of_odd (v : VS bs m) {d : D} (h : gIsi "tuple" d = some (.bl false)) (s : S) : f_is_rule_of [salD bs m, d] s = .ok (.bl false) s := by
  have b5 : ∀ b ∈ bs, b.length ≤ 5 := fun b hb => (v.ok b hb).len5
  have pls := all_places_is (m := m) v.len4 b5
  rw [u_is_rule_of]; unfold b_is_rule_of
  simp -implicitDefEqProofs [pls, h]
theorem is_rule_odd (v : VS bs m) {d : D} (h : gIsi "tuple" d = some (.bl false)) (s : S) : f_is_rule [salD bs m, d] s = .ok (.bl false) s := by
  rw [u_is_rule]; unfold b_is_rule
  simp -implicitDefEqProofs [need_sale_is, is_rule_of_odd v h]
/-! ### rows that are all fine are a rule -/
theorem row_is {p : List Nat} {d : D} (hp : PlOk bs p) (h : rowOK (bidsF bs p) m d = true) : ∃ x : RR, x.1 = p ∧ RwX bs m x ∧ d = rowX bs x := by
  unfold rowOK at h
  split at h
  · rename_i as gs ys
    unfold r3OK at h
    simp only [Bool.and_eq_true, decide_eq_true_eq] at h
    obtain ⟨h1, h2, h3, h4, h5, h6⟩ := h
    have ga : ∀ l : List D, l.all isBl = true → ∃ g : List Bool, l = g.map D.bl ∧ (l.filter isTr).length = (g.filter id).length := by
      intro l
      induction l with
      | nil => intro _; exact ⟨[], rfl, rfl⟩
      | cons d l ih =>
        intro hl
        rw [List.all_cons, Bool.and_eq_true] at hl
        obtain ⟨g, e1, e2⟩ := ih hl.2
        cases d <;> simp [isBl] at hl
        rename_i b
        refine ⟨b :: g, by rw [e1]; rfl, ?_⟩
        cases b
        · rw [List.filter_cons_of_neg (by simp [isTr]), List.filter_cons_of_neg (by simp)]; exact e2
        · rw [List.filter_cons_of_pos (by rfl), List.filter_cons_of_pos (by rfl), List.length_cons, List.length_cons, e2]
    have ya : ∀ l : List D, l.all (frm (-1000000000) 1000000000) = true → ∃ y : List Int, l = y.map D.int ∧ ∀ a ∈ y, -1000000000 ≤ a ∧ a ≤ 1000000000 := by
      intro l
      induction l with
      | nil => intro _; exact ⟨[], rfl, by simp⟩
      | cons d l ih =>
        intro hl
        rw [List.all_cons, Bool.and_eq_true] at hl
        obtain ⟨y, e1, e2⟩ := ih hl.2
        cases d <;> simp [frm] at hl
        rename_i i
        refine ⟨i :: y, by rw [e1]; rfl, fun a ha => ?_⟩
        rcases List.mem_cons.mp ha with rfl | z
        · exact hl.1
        · exact e2 a z
    obtain ⟨g, rfl, eg⟩ := ga gs h4
    obtain ⟨y, rfl, hy⟩ := ya ys h5
    have bl := bidsF_len bs p
    refine ⟨(p, g, y), rfl, ⟨by simpa [bl] using h2, by simpa [bl] using h3, hy, by show ((g.filter id).length : Int) ≤ m; rw [← eg]; exact h6⟩, ?_⟩
    rw [isInts_iff.mp h1]; rfl
  · cases h
theorem rul_is {rows : List D} (h : rulOK bs m rows = true) : ∃ X, RuX bs m X ∧ D.tup rows = ruleD bs X := by
  unfold rulOK at h
  rw [Bool.and_eq_true, decide_eq_true_eq, List.all_eq_true] at h
  obtain ⟨h1, h2⟩ := h
  have key : ∀ (ps : List (List Nat)) (rs : List D), rs.length = ps.length → (∀ i p, ps[i]? = some p → PlOk bs p ∧ rowOK (bidsF bs p) m (rs.getD i .non) = true) → ∃ X : List RR, X.map (·.1) = ps ∧ (∀ x ∈ X, RwX bs m x) ∧ rs = X.map (rowX bs) := by
    intro ps
    induction ps with
    | nil => intro rs hl _; exact ⟨[], rfl, by simp, by cases rs with | nil => rfl | cons => simp at hl⟩
    | cons p ps ih =>
      intro rs hl h
      cases rs with
      | nil => simp at hl
      | cons r rs =>
        obtain ⟨X, e1, e2, e3⟩ := ih rs (by simpa using hl) fun i q hq => h (i + 1) q (by simpa using hq)
        obtain ⟨hp, hr⟩ := h 0 p rfl
        obtain ⟨x, x1, x2, x3⟩ := row_is hp hr
        refine ⟨x :: X, by simp [x1, e1], fun y hy => ?_, ?_⟩
        · rcases List.mem_cons.mp hy with rfl | z
          · exact x2
          · exact e2 y z
        · have x3 : r = rowX bs x := x3
          rw [e3, x3]; rfl
  obtain ⟨X, e1, e2, e3⟩ := key (plc bs) rows h1 fun i p hi => ⟨plc_ok (List.mem_of_getElem? hi), h2 (i, p) (mem_idx hi)⟩
  exact ⟨X, ⟨e1, e2⟩, by rw [e3]; rfl⟩
end

/-! ### a rule, by the law -/
section
variable {bs : List (List P2)} {m : Int}
abbrev E5 (bs : List (List P2)) (m : Int) (V : D) (k : Nat) (c4 c7 : Option D) : En := [some (lawD bs m), some V, some (.lst ((plc bs).map (aD bs))), some (.int (k : Int)), c4, none, none, c7]
theorem p9 : gPow (.int 10) (.int 9) = some (.int 1000000000) := by
  have := g_pow 10 9
  exact this
theorem pays_loop {V : D} {k : Nat} {R : D} : ∀ (ys : List D) (c7 : Option D), (∀ d ∈ ys, EK d) → (ys.all (frm (-1000000000) 1000000000) = false → ∀ s, forL (tgName 7) l1__law_is_rule ys (E5 bs m V k (some R) c7) s = .ok (.ret (.bl false)) s) ∧ (ys.all (frm (-1000000000) 1000000000) = true → ∃ c, ∀ s, forL (tgName 7) l1__law_is_rule ys (E5 bs m V k (some R) c7) s = .ok (.next (E5 bs m V k (some R) c)) s)
  | [], c7, _ => ⟨fun h => by simp at h, fun _ => ⟨c7, fun _ => rfl⟩⟩
  | d :: ys, c7, h => by
    have ih := pays_loop ys (some d) (V := V) (k := k) (R := R) fun e he => h e (by simp [he])
    have ek := h d (by simp)
    have ib := isi_bl ek
    have ii := isi_int ek
    have step : ∀ s, l1__law_is_rule (E5 bs m V k (some R) (some d)) s = if frm (-1000000000) 1000000000 d then .ok (.next (E5 bs m V k (some R) (some d))) s else .ok (.ret (.bl false)) s := fun s => by
      unfold l1__law_is_rule
      cases ek with
      | int i =>
        simp -implicitDefEqProofs [p9, frm]
        by_cases z1 : -1000000000 ≤ i
        · by_cases z2 : i ≤ 1000000000
          · simp [z1, z2]
          · simp [z1, z2]
        · simp [z1]
      | _ => simp -implicitDefEqProofs [ib, ii, frm, isNum, isBl]
    have go : ∀ s, forL (tgName 7) l1__law_is_rule (d :: ys) (E5 bs m V k (some R) c7) s = (l1__law_is_rule (E5 bs m V k (some R) (some d)) s).bind fun fl s1 => match fl with | .next δ' => forL (tgName 7) l1__law_is_rule ys δ' s1 | .cont δ' => forL (tgName 7) l1__law_is_rule ys δ' s1 | .brk δ' => .ok (.next δ') s1 | .ret d => .ok (.ret d) s1 := fun s => by
      rw [forL, tg_name, lift_some, bind_ok]; rfl
    cases hf : frm (-1000000000) 1000000000 d with
    | false =>
      refine ⟨fun _ s => ?_, fun hh => by rw [List.all_cons, hf] at hh; cases hh⟩
      rw [go, step, hf]; rfl
    | true =>
      refine ⟨fun hh s => ?_, fun hh => ?_⟩
      · rw [List.all_cons, hf, Bool.true_and] at hh
        rw [go, step, hf, if_pos rfl, bind_ok]
        exact ih.1 hh s
      · rw [List.all_cons, hf, Bool.true_and] at hh
        obtain ⟨c, hc⟩ := ih.2 hh
        refine ⟨c, fun s => ?_⟩
        rw [go, step, hf, if_pos rfl, bind_ok]
        exact hc s
theorem sum_bl : ∀ {gs : List D}, gs.all isBl = true → (gs.map fun d => if isTr d then (1 : Int) else 0).sum = ((gs.filter isTr).length : Int)
  | [], _ => rfl
  | d :: gs, h => by
    rw [List.all_cons, Bool.and_eq_true] at h
    have ih := sum_bl h.2
    rw [List.map_cons, List.sum_cons, ih, List.filter_cons]
    by_cases z : isTr d = true
    · simp [z]; omega
    · simp [z]
theorem law_row_gen (v : VS bs m) {rows : List D} {k : Nat} {p : List Nat} {d : D} (hk : (plc bs)[k]? = some p) (hr : rows[k]? = some d) (h : RK d) (c4 c7 : Option D) :
    ∃ c c', ∀ s, l2__law_is_rule (E5 bs m (.tup rows) k c4 c7) s = if rowOK (bidsF bs p) m d then .ok (.next (E5 bs m (.tup rows) k c c')) s else .ok (.ret (.bl false)) s := by
  have l4 := v.len4
  have hp := plc_ok (List.mem_of_getElem? hk)
  have bl := bidsF_len bs p
  have hl := hp.len
  have lb := law_bids_is (m := m) hp l4
  generalize hB : bidsF bs p = B at *
  have ea : gIx (.lst ((plc bs).map (aD bs))) (.int (k : Int)) = some (aD bs p) := by rw [g_ixL, at_nat, List.getElem?_map, hk]; rfl
  have e0 : gIx (aD bs p) (.int 0) = some (plD p) := rfl
  have kb : gKey "buyers" (lawD bs m) = some (.tup (bs.map buD)) := by unfold lawD; simp
  have kt : gKey "things" (lawD bs m) = some (.int m) := by unfold lawD; simp
  have pl0 := fun R => pays_loop (bs := bs) (m := m) (V := .tup rows) (k := k) (R := R)
  have ev : gIx (.tup rows) (.int (k : Int)) = some d := by rw [g_ixT, at_nat, hr]
  unfold E5 at pl0 ⊢
  generalize hL : D.lst ((plc bs).map (aD bs)) = L at *
  generalize hA : aD bs p = A at *
  generalize hV : D.tup rows = V at *
  generalize hW : lawD bs m = W at *
  cases h with
  | non =>
    have z : gIsi "tuple" D.non = some (.bl false) := by show (kitB "NoneType" "tuple").map D.bl = _; rw [kB_nt]; rfl
    refine ⟨none, none, fun s => ?_⟩
    unfold l2__law_is_rule
    simp -implicitDefEqProofs [ev, z, rowOK]
  | nil =>
    refine ⟨none, none, fun s => ?_⟩
    unfold l2__law_is_rule
    simp -implicitDefEqProofs [ev, rowOK]
  | two a b =>
    refine ⟨none, none, fun s => ?_⟩
    unfold l2__law_is_rule
    simp -implicitDefEqProofs [ev, rowOK]
  | rl as gs ys ha la =>
    refine ⟨none, none, fun s => ?_⟩
    have rk : rowOK B m (D.tup [D.tup as, .lst gs, .tup ys]) = false := rfl
    generalize hR : D.tup [D.tup as, .lst gs, .tup ys] = R at *
    have i0 : gIx R (.int 0) = some (.tup as) := by rw [← hR]; rfl
    have i1 : gIx R (.int 1) = some (.lst gs) := by rw [← hR]; rfl
    have iL : gLen [R] = some (.int 3) := by rw [← hR]; rfl
    have iI : gIsi "tuple" R = some (.bl true) := by rw [← hR]; simp
    have z : gIsi "tuple" (D.lst gs) = some (.bl false) := by show (kitB "list" "tuple").map D.bl = _; rw [kB_lt]; rfl
    have ne := ne_odd ha B
    have c2 : ∀ s, compL (tgName 5) cYes (cIsi "bool" (cVar 5)) [some W, some V, some L, some (.int (k : Int)), some R, none, none, c7] as s = .ok ((as.map isBl).map D.bl) s := fun s =>
      comp_bs fun a h => ⟨_, rfl, fun s => by simp -implicitDefEqProofs [isi_bl (ha a h)]⟩
    unfold l2__law_is_rule
    rw [rk]
    simp -implicitDefEqProofs [ev, iI, iL, i0, ea, e0, lb, ne]
    cases q2 : eqA as B with
    | false => simp -implicitDefEqProofs
    | true =>
      simp -implicitDefEqProofs [i0, show as.length ≤ 100000 by omega]
      rw [c2]
      simp -implicitDefEqProofs only [bind_ok, lift_some, g_any, any_map', g_asB]
      cases q3 : as.any isBl with
      | true => simp -implicitDefEqProofs
      | false => simp -implicitDefEqProofs [i1, z]
  | r3 as gs ys ha hg hy la lg ly =>
    have rk : rowOK B m (D.tup [D.tup as, .tup gs, .tup ys]) = r3OK B m as gs ys := rfl
    generalize hR : D.tup [D.tup as, .tup gs, .tup ys] = R at *
    rw [rk]
    have i0 : gIx R (.int 0) = some (.tup as) := by rw [← hR]; rfl
    have i1 : gIx R (.int 1) = some (.tup gs) := by rw [← hR]; rfl
    have i2 : gIx R (.int 2) = some (.tup ys) := by rw [← hR]; rfl
    have iL : gLen [R] = some (.int 3) := by rw [← hR]; rfl
    have iI : gIsi "tuple" R = some (.bl true) := by rw [← hR]; simp
    have ne := ne_odd ha B
    have c2 : ∀ s, compL (tgName 5) cYes (cIsi "bool" (cVar 5)) [some W, some V, some L, some (.int (k : Int)), some R, none, none, c7] as s = .ok ((as.map isBl).map D.bl) s := fun s =>
      comp_bs fun a h => ⟨_, rfl, fun s => by simp -implicitDefEqProofs [isi_bl (ha a h)]⟩
    have c3 : ∀ s, compL (tgName 6) cYes (cIsi "bool" (cVar 6)) [some W, some V, some L, some (.int (k : Int)), some R, none, none, c7] gs s = .ok ((gs.map isBl).map D.bl) s := fun s =>
      comp_bs fun a h => ⟨_, rfl, fun s => by simp -implicitDefEqProofs [isi_bl (hg a h)]⟩
    have e1 := eqA_ints ha B
    have la' : as.length ≤ 100000 := by omega
    have lg' : gs.length ≤ 100000 := by omega
    have bB : bs.length = B.length := by omega
    have pl := pl0 R ys c7 hy
    unfold l2__law_is_rule
    cases q2 : eqA as B with
    | false =>
      rw [q2, Bool.false_and] at e1
      refine ⟨none, none, fun s => ?_⟩
      simp -implicitDefEqProofs [ev, iI, iL, i0, ea, e0, lb, ne, q2, r3OK, ← e1]
    | true =>
      cases q3 : as.any isBl with
      | true =>
        rw [q2, q3] at e1
        refine ⟨none, none, fun s => ?_⟩
        simp -implicitDefEqProofs [ev, iI, iL, i0, ea, e0, lb, ne, q2, la']
        rw [c2]
        simp -implicitDefEqProofs only [bind_ok, lift_some, g_any, any_map', g_asB, q3]
        simp -implicitDefEqProofs [r3OK, ← e1]
      | false =>
        rw [q2, q3] at e1
        have e1 : isInts as B = true := by rw [← e1]; rfl
        have pre : ∀ (G : En → M Fl) (s : S), (cSeq (cSet 4 (cOp gIx (cVar 1) (cVar 3)))
    (cSeq (cIte (cOr (cNot (cTst (cIsi "tuple" (cVar 4)))) (cOr (cTst (cOp gNe (cB gLen (cCons (cVar 4) cNil)) (cC (.int 3)))) (cTst (cOp gNe (cOp gIx (cVar 4) (cC (.int 0))) (cCall 2 f__law_bids (cCons (cVar 0) (cCons (cOp gIx (cOp gIx (cVar 2) (cVar 3)) (cC (.int 0))) cNil))))))) (cRet (cC (.bl false))) cNext)
    (cSeq (cIte (cOr (cNot (cTst (cIsi "tuple" (cOp gIx (cVar 4) (cC (.int 0)))))) (cTst (cB gAny (cCons (cLc [5] (cItU (cOp gIx (cVar 4) (cC (.int 0)))) (tgName 5) cYes (cIsi "bool" (cVar 5))) cNil)))) (cRet (cC (.bl false))) cNext)
    G))) [some W, some V, some L, some (.int (k : Int)), c4, none, none, c7] s = G [some W, some V, some L, some (.int (k : Int)), some R, none, none, c7] s := fun G s => by
          simp -implicitDefEqProofs [ev, iI, iL, i0, ea, e0, lb, ne, q2, la']
          rw [c2]
          simp -implicitDefEqProofs only [bind_ok, lift_some, g_any, any_map', g_asB, q3]
          simp -implicitDefEqProofs
        by_cases n1 : gs.length = B.length
        · by_cases n2 : ys.length = B.length
          · cases q4 : gs.all isBl with
            | false =>
              refine ⟨none, none, fun s => ?_⟩
              rw [pre]
              simp -implicitDefEqProofs [i1, i2, kb, bB, n1, n2, show B.length ≤ 100000 by omega]
              rw [c3]
              simp -implicitDefEqProofs only [bind_ok, lift_some, g_all, all_map, g_asB, q4]
              simp -implicitDefEqProofs [r3OK, q4]
            | true =>
              have c4' : ∀ s, compL (tgName 6) cYes (cB gInt (cCons (cVar 6) cNil)) [some W, some V, some L, some (.int (k : Int)), some R, none, none, c7] gs s = .ok (gs.map fun d => .int (if isTr d then 1 else 0)) s := fun s => by
                have := comp_map (enc := id) (xs := gs) (e := fun d => D.int (if isTr d then 1 else 0)) (tg := tgName 6) (f := cB gInt (cCons (cVar 6) cNil)) (δ := [some W, some V, some L, some (.int (k : Int)), some R, none, none, c7]) (s := s) fun a h => ⟨_, rfl, fun s => by
                  have := List.all_eq_true.mp q4 a h
                  cases a <;> simp [isBl] at this
                  rename_i b
                  cases b <;> simp -implicitDefEqProofs [isTr, gInt]⟩
                rw [List.map_id] at this
                exact this
              have sb := sum_bl q4
              by_cases n3 : ((gs.filter isTr).length : Int) ≤ m
              · cases q5 : ys.all (frm (-1000000000) 1000000000) with
                | false =>
                  refine ⟨none, none, fun s => ?_⟩
                  rw [pre]
                  simp -implicitDefEqProofs [i1, i2, kb, bB, n1, n2, show B.length ≤ 100000 by omega]
                  rw [c3]
                  simp -implicitDefEqProofs only [bind_ok, lift_some, g_all, all_map, g_asB, q4]
                  simp -implicitDefEqProofs [i1, kt, n1, show B.length ≤ 100000 by omega]
                  rw [c4']
                  simp -implicitDefEqProofs [sb, kt, i2, show ¬ m < ((gs.filter isTr).length : Int) by omega]
                  rw [pl.1 q5]
                  simp -implicitDefEqProofs [r3OK, q5]
                | true =>
                  obtain ⟨c, hc⟩ := pl.2 q5
                  refine ⟨some R, c, fun s => ?_⟩
                  rw [pre]
                  simp -implicitDefEqProofs [i1, i2, kb, bB, n1, n2, show B.length ≤ 100000 by omega]
                  rw [c3]
                  simp -implicitDefEqProofs only [bind_ok, lift_some, g_all, all_map, g_asB, q4]
                  simp -implicitDefEqProofs [i1, kt, n1, show B.length ≤ 100000 by omega]
                  rw [c4']
                  simp -implicitDefEqProofs [sb, kt, i2, show ¬ m < ((gs.filter isTr).length : Int) by omega]
                  rw [hc]
                  simp -implicitDefEqProofs [r3OK, q4, q5, n1, n2, n3, e1]
              · refine ⟨none, none, fun s => ?_⟩
                rw [pre]
                simp -implicitDefEqProofs [i1, i2, kb, bB, n1, n2, show B.length ≤ 100000 by omega]
                rw [c3]
                simp -implicitDefEqProofs only [bind_ok, lift_some, g_all, all_map, g_asB, q4]
                simp -implicitDefEqProofs [i1, kt, n1, show B.length ≤ 100000 by omega]
                rw [c4']
                simp -implicitDefEqProofs [sb, kt, show m < ((gs.filter isTr).length : Int) by omega]
                simp -implicitDefEqProofs [r3OK, n3]
          · refine ⟨none, none, fun s => ?_⟩
            rw [pre]
            simp -implicitDefEqProofs [i1, i2, kb, bB, n1, n2, show ¬ (ys.length : Int) = (B.length : Int) by omega, r3OK]
        · refine ⟨none, none, fun s => ?_⟩
          rw [pre]
          simp -implicitDefEqProofs [i1, i2, kb, bB, n1, show ¬ (gs.length : Int) = (B.length : Int) by omega, r3OK]
theorem law_is_rule_gen (v : VS bs m) {rows : List D} (h : ∀ d ∈ rows, RK d) (s : S) : f__law_is_rule [lawD bs m, .tup rows] s = .ok (.bl (rulOK bs m rows)) s := by
  have l4 := v.len4
  have b5 : ∀ b ∈ bs, b.length ≤ 5 := fun b hb => (v.ok b hb).len5
  have hpl := Nat.le_trans (plc_len_le bs b5) (Nat.le_trans (Nat.pow_le_pow_right (by decide) l4) (show 5 ^ 4 ≤ 625 by decide))
  have la := law_all_is (m := m) l4 v.ok s
  rw [u__law_is_rule]; unfold b__law_is_rule
  by_cases hn : rows.length = (plc bs).length
  · have fo := for_opt (tg := tgName 3) (F := l2__law_is_rule) (enc := fun (x : Nat × List Nat) => D.int (x.1 : Int)) (xs := idx (plc bs))
      (δ := [some (lawD bs m), some (.tup rows), some (.lst ((plc bs).map (aD bs))), none, none, none, none, none])
      (fun δ => ∃ c3 c4 c7, δ = [some (lawD bs m), some (.tup rows), some (.lst ((plc bs).map (aD bs))), c3, c4, none, none, c7])
      (fun x => if rowOK (bidsF bs x.2) m (rows.getD x.1 .non) then none else some (.bl false)) (by
        rintro x hx δ ⟨c3, c4, c7, rfl⟩
        have j := idx_mem hx
        have hk : x.1 < rows.length := by rw [hn]; exact (List.getElem?_eq_some_iff.mp j).1
        have e : rows[x.1]? = some (rows.getD x.1 .non) := by rw [List.getD_eq_getElem?_getD, List.getElem?_eq_getElem hk]; rfl
        obtain ⟨c, c', hc⟩ := law_row_gen v j e (h _ (List.mem_of_getElem? e)) c4 c7
        refine ⟨_, rfl, fun d hd s => ?_, fun hd => ⟨_, ⟨some (.int (x.1 : Int)), c, c', rfl⟩, fun s => ?_⟩⟩
        · have hf : rowOK (bidsF bs x.2) m (rows.getD x.1 .non) = false := by
            cases z : rowOK (bidsF bs x.2) m (rows.getD x.1 .non) with
            | false => rfl
            | true => rw [z] at hd; cases hd
          rw [hf] at hd
          cases hd
          have := hc s
          rw [hf] at this
          exact this
        · have hf : rowOK (bidsF bs x.2) m (rows.getD x.1 .non) = true := by
            cases z : rowOK (bidsF bs x.2) m (rows.getD x.1 .non) with
            | true => rfl
            | false => rw [z] at hd; cases hd
          have := hc s
          rw [hf] at this
          exact this) ⟨none, none, none, rfl⟩
    have er : gR1 [.int ((plc bs).length : Int)] = some ((idx (plc bs)).map fun (x : Nat × List Nat) => D.int (x.1 : Int)) := by
      rw [g_r1 _ (by omega), upto0]
      have : (idx (plc bs)).map (fun (x : Nat × List Nat) => D.int (x.1 : Int)) = ((idx (plc bs)).map (·.1)).map fun (i : Nat) => D.int (i : Int) := by rw [List.map_map]; rfl
      rw [this]
      congr 2
      unfold idx
      rw [List.map_fst_zip (by simp)]
    simp -implicitDefEqProofs [la, hn, er]
    cases z : (idx (plc bs)).findSome? (fun x => if rowOK (bidsF bs x.2) m (rows.getD x.1 .non) then none else some (D.bl false)) with
    | some d =>
      have hd : d = .bl false ∧ (idx (plc bs)).all (fun x => rowOK (bidsF bs x.2) m (rows.getD x.1 .non)) = false := by
        obtain ⟨x, hx, e⟩ := List.exists_of_findSome?_eq_some z
        split at e
        · cases e
        · rename_i q
          cases e
          refine ⟨rfl, ?_⟩
          rw [List.all_eq_false]
          exact ⟨x, hx, q⟩
      have rk : rulOK bs m rows = false := by unfold rulOK; rw [hd.2, Bool.and_false]
      rw [fo.1 d z, hd.1, rk]
      simp -implicitDefEqProofs
    | none =>
      obtain ⟨δ', _, hd⟩ := fo.2 z
      rw [hd]
      have : (idx (plc bs)).all (fun x => rowOK (bidsF bs x.2) m (rows.getD x.1 .non)) = true := by
        rw [List.all_eq_true]
        intro x hx
        have := List.findSome?_eq_none_iff.mp z x hx
        cases q : rowOK (bidsF bs x.2) m (rows.getD x.1 .non) with
        | true => rfl
        | false => rw [q] at this; cases this
      have rk : rulOK bs m rows = true := by unfold rulOK; rw [this, Bool.and_true, decide_eq_true_eq]; exact hn
      rw [rk]
      simp -implicitDefEqProofs
  · have hn' : ¬ (rows.length : Int) = ((plc bs).length : Int) := by omega
    simp -implicitDefEqProofs [la, hn, hn', rulOK]
end

/-! ### refusals -/
section
variable {bs : List (List P2)} {m : Int}
theorem lk_t : List.lookup (Str.ofString "takings") [(Str.ofString "flaw", f_flaw), (Str.ofString "takings", f_takings)] = some f_takings := by
  have ne : (Str.ofString "takings" == Str.ofString "flaw") = false := by decide +kernel
  simp only [List.lookup, ne, beq_self_eq_true]
theorem need_rule_no {d : D} {s : S} (h : f_is_rule_of [salD bs m, d] s = .ok (.bl false) s) : f_need_rule [salD bs m, d] s = .err ⟨"BadRule", []⟩ s := by
  rw [u_need_rule]; unfold b_need_rule
  simp -implicitDefEqProofs [h]
theorem refused_no {d : D} {j : Int} {s : S} (h : f_is_rule_of [salD bs m, d] s = .ok (.bl false) s) (j0 : 0 ≤ j) (j1 : j < 2) : f__law_refused [.int j, salD bs m, d] s = .ok (.bl true) s := by
  have n := need_rule_no h
  have e : j = 0 ∨ j = 1 := by omega
  have f1 : f_flaw [salD bs m, d] s = .err ⟨"BadRule", []⟩ s := by
    rw [u_flaw]; unfold b_flaw
    simp -implicitDefEqProofs [need_sale_is, n]
  have f2 : f_takings [salD bs m, d] s = .err ⟨"BadRule", []⟩ s := by
    rw [u_takings]; unfold b_takings
    simp -implicitDefEqProofs [need_sale_is, n]
  have i1 : isA "BadRule" "BadRule" = true := by decide +kernel
  rw [u__law_refused]; unfold b__law_refused h1__law_refused
  rcases e with rfl | rfl
  · simp -implicitDefEqProofs [f1, i1]
  · simp -implicitDefEqProofs [lk_t, f2, i1]
theorem refused_yes (v : VS bs m) {X : List RR} (hX : RuX bs m X) {j : Int} (j0 : 0 ≤ j) (j1 : j < 2) (s : S) : f__law_refused [.int j, salD bs m, ruleD bs X] s = .ok (.bl false) s := by
  obtain ⟨gf, yf, rfl⟩ := x_of hX
  have e : j = 0 ∨ j = 1 := by omega
  have f1 := flaw_is v hX s
  have f2 := takings_is v hX s
  generalize ruleD bs (Xof bs gf yf) = R at *
  rw [u__law_refused]; unfold b__law_refused
  rcases e with rfl | rfl
  · simp -implicitDefEqProofs [f1]
  · simp -implicitDefEqProofs [lk_t, f2]
theorem refused_gen (v : VS bs m) {rows : List D} (h : ∀ d ∈ rows, RK d) {j : Int} (j0 : 0 ≤ j) (j1 : j < 2) (s : S) : f__law_refused [.int j, salD bs m, .tup rows] s = .ok (.bl (!rulOK bs m rows)) s := by
  have ir := is_rule_of_gen v h s
  cases z : rulOK bs m rows with
  | false => rw [z] at ir; exact refused_no ir j0 j1
  | true =>
    obtain ⟨X, hX, e⟩ := rul_is z
    rw [e]
    exact refused_yes v hX j0 j1 s
end

section
variable {bs : List (List P2)} {m : Int}
theorem cut_mem {α : Type} {l : List α} {lo hi : Option Int} {x : α} (h : x ∈ cutD l lo hi) : x ∈ l := List.mem_of_mem_drop (List.mem_of_mem_take h)
theorem cut_len {α : Type} (l : List α) (lo hi : Option Int) : (cutD l lo hi).length ≤ l.length := by
  unfold cutD
  rw [List.length_take, List.length_drop]; omega
theorem ek_ints (l : List Int) : ∀ d ∈ l.map D.int, EK d := fun d hd => by obtain ⟨i, _, rfl⟩ := List.mem_map.mp hd; exact .int i
theorem ek_bls (l : List Bool) : ∀ d ∈ l.map D.bl, EK d := fun d hd => by obtain ⟨i, _, rfl⟩ := List.mem_map.mp hd; exact .bl i
/-- an item exchanged -/
def exch (l : List D) (sp : Int) (o : D) : List D := cutD l none (some sp) ++ [o] ++ cutD l (some (sp + 1)) none
theorem ek_exch {l : List D} {sp : Int} {o : D} (h : ∀ d ∈ l, EK d) (ho : EK o) : ∀ d ∈ exch l sp o, EK d := fun d hd => by
  unfold exch at hd
  rcases List.mem_append.mp hd with hd | hd
  · rcases List.mem_append.mp hd with hd | hd
    · exact h d (cut_mem hd)
    · rw [List.mem_singleton.mp hd]; exact ho
  · exact h d (cut_mem hd)
theorem exch_len (l : List D) (sp : Int) (o : D) : (exch l sp o).length ≤ 2 * l.length + 1 := by
  have a := cut_len l none (some sp)
  have b := cut_len l (some (sp + 1)) none
  unfold exch
  simp only [List.length_append, List.length_cons, List.length_nil]; omega
/-- the nine lines -/
def lines5 (B : List Int) (g : List Bool) (y : List Int) (sp : Int) (o : D) : List D :=
  [.tup [.tup (B.map D.int), .tup (g.map D.bl), .tup (exch (y.map D.int) sp o)], .tup [.tup (B.map D.int), .tup (exch (g.map D.bl) sp o), .tup (y.map D.int)], .tup [.tup (exch (B.map D.int) sp o), .tup (g.map D.bl), .tup (y.map D.int)],
   .tup [.tup (B.map D.int), .tup (List.replicate B.length [D.bl true]).flatten, .tup (y.map D.int)], .tup [.tup (B.map D.int), .tup (g.map D.bl), .tup (y.map D.int ++ [.int 0])], .tup [.tup (B.map D.int), .lst (g.map D.bl), .tup (y.map D.int)],
   .non, .tup [], .tup [.tup (B.map D.int), .tup (g.map D.bl)]]
theorem lines_rk {B : List Int} {g : List Bool} {y : List Int} {sp : Int} {o : D} (ho : EK o) (h1 : B.length ≤ 4) (h2 : g.length ≤ 4) (h3 : y.length ≤ 4) : ∀ d ∈ lines5 B g y sp o, RK d := fun d hd => by
  have e1 := ek_ints B
  have e2 := ek_bls g
  have e3 := ek_ints y
  have l1 := exch_len (B.map D.int) sp o
  have l2 := exch_len (g.map D.bl) sp o
  have l3 := exch_len (y.map D.int) sp o
  rw [List.length_map] at l1 l2 l3
  unfold lines5 at hd
  simp only [List.mem_cons, List.not_mem_nil, or_false] at hd
  rcases hd with rfl | rfl | rfl | rfl | rfl | rfl | rfl | rfl | rfl
  · exact .r3 _ _ _ e1 e2 (ek_exch e3 ho) (by simp; omega) (by simp; omega) (by omega)
  · exact .r3 _ _ _ e1 (ek_exch e2 ho) e3 (by simp; omega) (by omega) (by simp; omega)
  · exact .r3 _ _ _ (ek_exch e1 ho) e2 e3 (by omega) (by simp; omega) (by simp; omega)
  · refine .r3 _ _ _ e1 (fun d hd => ?_) e3 (by simp; omega) (by simp; omega) (by simp; omega)
    obtain ⟨l, hl, hd⟩ := List.mem_flatten.mp hd
    rw [(List.mem_replicate.mp hl).2] at hd
    rw [List.mem_singleton.mp hd]; exact .bl true
  · refine .r3 _ _ _ e1 e2 (fun d hd => ?_) (by simp; omega) (by simp; omega) (by simp; omega)
    rcases List.mem_append.mp hd with hd | hd
    · exact e3 d hd
    · rw [List.mem_singleton.mp hd]; exact .int 0
  · exact .rl _ _ _ e1 (by simp; omega)
  · exact .non
  · exact .nil
  · exact .two _ _
def odd5 : List D := [.non, .bl true, .int 1, .int 0, .str "1", .int (-1), .int 1000000000, .int 1000000001, .int (-1000000000), .tup [], .bl false]
theorem odd_ek : ∀ d ∈ odd5, EK d := fun d hd => by
  unfold odd5 at hd
  simp only [List.mem_cons, List.not_mem_nil, or_false] at hd
  rcases hd with rfl | rfl | rfl | rfl | rfl | rfl | rfl | rfl | rfl | rfl | rfl
  · exact .non
  · exact .bl _
  · exact .int _
  · exact .int _
  · exact .one
  · exact .int _
  · exact .int _
  · exact .int _
  · exact .int _
  · exact .nil
  · exact .bl _
theorem at_ex {α : Type} {l : List α} {i : Int} (h0 : 0 ≤ i) (h1 : i < (l.length : Int)) : ∃ a ∈ l, atI l i = some a := by
  obtain ⟨n, rfl⟩ := Int.eq_ofNat_of_zero_le h0
  have hn : n < l.length := by omega
  refine ⟨l[n], List.getElem_mem hn, ?_⟩
  rw [at_nat, List.getElem?_eq_getElem hn]
end

def Q5 : En → M Fl := (cIte (cTst (cOp gEq (cVar 8) (cC (.int 0)))) (cSetL 6 (cAddL (cSlO 6 cNo (cPart (cVar 7))) (cSlO 6 (cPart (cOp gAdd (cVar 7) (cC (.int 1)))) cNo))) (cIte (cTst (cOp gEq (cVar 8) (cC (.int 1)))) (cSetL 6 (cRevO 6)) (cIte (cTst (cOp gEq (cVar 8) (cC (.int 2)))) (cSetL 6 (cAddO 6 (cSlO 6 cNo (cPart (cOp gAdd (cC (.int 1)) (cOp gMod (cVar 7) (cC (.int 2)))))))) (cIte (cTst (cOp gLt (cVar 8) (cC (.int 5)))) (cPut 6 (cVar 7) (cIxO 15 (cCall 2 f__law_taken (cCons (cVar 1) (cCons (cScal (cB gLen (cCons (cVar 15) cNil))) cNil))))) cNext))))
def Z5 : En → M Fl := (cSeq (cSet 16 (cTupO 6))
    (cSeq (cSet 17 (cCall 2 f_is_rule (cCons (cVar 3) (cCons (cVar 16) cNil))))
    (cSeq (cIte (cOr (cNot (cTst (cIsi "bool" (cVar 17)))) (cTst (cOp gNe (cVar 17) (cCall 2 f__law_is_rule (cCons (cVar 2) (cCons (cVar 16) cNil)))))) (cRet (cC (.bl false))) cNext)
    (cIte (cTst (cOp gEq (cCall 3 f__law_refused (cCons (cCall 2 f__law_taken (cCons (cVar 1) (cCons (cC (.int 2)) cNil))) (cCons (cVar 3) (cCons (cVar 16) cNil)))) (cVar 17))) (cRet (cC (.bl false))) cNext))))
theorem l1_split : l1_law = (cSeq (cPar (pCons [6, 15] 6 (cN (cListL (cCons (cVar 4) cNil))) (pCons [6, 15] 7 (cV (cCall 2 f__law_taken (cCons (cVar 1) (cCons (cB gLen (cCons (cVar 4) cNil)) cNil)))) (pCons [6, 15] 8 (cV (cCall 2 f__law_taken (cCons (cVar 1) (cCons (cC (.int 6)) cNil)))) pNil))))
    (cSeq (cAsg (cIxO 6 (cVar 7)) (tgTup 3 (tgCons (tgName 9) (tgCons (tgName 10) (tgCons (tgName 11) tgNil)))))
    (cSeq (cSet 12 (cLst (cCons (cC .non) (cCons (cC (.bl true)) (cCons (cC (.int 1)) (cCons (cC (.int 0)) (cCons (cC (.str "1")) (cCons (cUn gNeg (cC (.int 1))) (cCons (cOp gPow (cC (.int 10)) (cC (.int 9))) (cCons (cOp gAdd (cOp gPow (cC (.int 10)) (cC (.int 9))) (cC (.int 1))) (cCons (cUn gNeg (cOp gPow (cC (.int 10)) (cC (.int 9)))) (cCons (cTup cNil) (cCons (cC (.bl false)) cNil)))))))))))))
    (cSeq (cSet 13 (cOp gIx (cVar 12) (cCall 2 f__law_taken (cCons (cVar 1) (cCons (cB gLen (cCons (cVar 12) cNil)) cNil)))))
    (cSeq (cSet 14 (cCall 2 f__law_taken (cCons (cVar 1) (cCons (cB gLen (cCons (cVar 9) cNil)) cNil))))
    (cSeq (cSetL 15 (cLstL (cCons (cTup (cCons (cVar 9) (cCons (cVar 10) (cCons (cOp gAdd (cOp gAdd (cSl (cVar 11) cNo (cPart (cVar 14))) (cTup (cCons (cVar 13) cNil))) (cSl (cVar 11) (cPart (cOp gAdd (cVar 14) (cC (.int 1)))) cNo)) cNil)))) cNil)))
    (cSeq (cApp 15 (cTup (cCons (cVar 9) (cCons (cOp gAdd (cOp gAdd (cSl (cVar 10) cNo (cPart (cVar 14))) (cTup (cCons (cVar 13) cNil))) (cSl (cVar 10) (cPart (cOp gAdd (cVar 14) (cC (.int 1)))) cNo)) (cCons (cVar 11) cNil)))))
    (cSeq (cApp 15 (cTup (cCons (cOp gAdd (cOp gAdd (cSl (cVar 9) cNo (cPart (cVar 14))) (cTup (cCons (cVar 13) cNil))) (cSl (cVar 9) (cPart (cOp gAdd (cVar 14) (cC (.int 1)))) cNo)) (cCons (cVar 10) (cCons (cVar 11) cNil)))))
    (cSeq (cSetL 15 (cAddO 15 (cLst (cCons (cTup (cCons (cVar 9) (cCons (cOp gMul (cTup (cCons (cC (.bl true)) cNil)) (cB gLen (cCons (cVar 9) cNil))) (cCons (cVar 11) cNil)))) (cCons (cTup (cCons (cVar 9) (cCons (cVar 10) (cCons (cOp gAdd (cVar 11) (cTup (cCons (cC (.int 0)) cNil))) cNil)))) (cCons (cTup (cCons (cVar 9) (cCons (cB gList (cCons (cVar 10) cNil)) (cCons (cVar 11) cNil)))) cNil))))))
    (cSeq (cSetL 15 (cAddO 15 (cLst (cCons (cC .non) (cCons (cTup cNil) (cCons (cTup (cCons (cVar 9) (cCons (cVar 10) cNil))) cNil))))))
    (cSeq Q5 Z5))))))))))) := rfl
section
variable {bs : List (List P2)} {m : Int}
/-- what is done to the list -/
theorem q5_is {c0 c2 c3 c4 c5 : Option D} {rows lines : List D} {a k : Int} {c9 c10 c11 c12 c13 c14 c16 c17 c18 : Option D} (hr : ∀ d ∈ rows, RK d) (hl : ∀ d ∈ lines, RK d) (l0 : lines.length = 9) (r1 : rows.length ≤ 700) (a0 : 0 ≤ a) (a1 : a < (rows.length : Int)) (s : S) :
    ∃ rows' s', (∀ d ∈ rows', RK d) ∧ rows'.length ≤ 1400 ∧ Q5 [c0, some .row, c2, c3, c4, c5, some (.lst rows), some (.int a), some (.int k), c9, c10, c11, c12, c13, c14, some (.lst lines), c16, c17, c18] s = .ok (.next [c0, some .row, c2, c3, c4, c5, some (.lst rows'), some (.int a), some (.int k), c9, c10, c11, c12, c13, c14, some (.lst lines), c16, c17, c18]) s' := by
  by_cases k0 : k = 0
  · have h1 := cut_len rows none (some a)
    have h2 := cut_len rows (some (a + 1)) none
    refine ⟨cutD rows none (some a) ++ cutD rows (some (a + 1)) none, s, fun d hd => ?_, by rw [List.length_append]; omega, ?_⟩
    · rcases List.mem_append.mp hd with z | z <;> exact hr d (cut_mem z)
    · unfold Q5
      simp -implicitDefEqProofs [k0, show (cutD rows none (some a)).length + (cutD rows (some (a + 1)) none).length ≤ 100000 by omega]
  · by_cases k1 : k = 1
    · refine ⟨rows.reverse, s, fun d hd => hr d (List.mem_reverse.mp hd), by rw [List.length_reverse]; omega, ?_⟩
      unfold Q5
      simp -implicitDefEqProofs [k1]
    · by_cases k2 : k = 2
      · have h1 := cut_len rows none (some (1 + a % 2))
        refine ⟨rows ++ cutD rows none (some (1 + a % 2)), s, fun d hd => ?_, by rw [List.length_append]; omega, ?_⟩
        · rcases List.mem_append.mp hd with z | z
          · exact hr d z
          · exact hr d (cut_mem z)
        · unfold Q5
          simp -implicitDefEqProofs [k2, g_mod (i := a) (j := 2) (by omega), show rows.length + (cutD rows none (some (1 + a % 2))).length ≤ 100000 by omega]
      · by_cases k5 : k < 5
        · obtain ⟨j, s1, j1, j2, j3⟩ := draw_is s (m := 9) (by omega) (by omega)
          obtain ⟨x, hx, ex⟩ := at_ex (l := lines) j1 (by omega)
          obtain ⟨n, rfl⟩ := Int.eq_ofNat_of_zero_le a0
          have hn : n < rows.length := by omega
          have ix : ixN rows.length (n : Int) = some n := by
            unfold ixN
            simp [hn]
          refine ⟨rows.set n x, s1, fun d hd => ?_, by rw [List.length_set]; omega, ?_⟩
          · rcases List.mem_or_eq_of_mem_set hd with z | z
            · exact hr d z
            · rw [z]; exact hl x hx
          · unfold Q5
            simp -implicitDefEqProofs [k0, k1, k2, k5, l0, j3, ex, cPut, ix, show PV.scal (D.int 9) = true from rfl]
        · refine ⟨rows, s, hr, by omega, ?_⟩
          unfold Q5
          simp -implicitDefEqProofs [k0, k1, k2, k5]
theorem g_neB (a b : Bool) : gNe (.bl a) (.bl b) = some (.bl (a != b)) := by
  have h1 : ∀ a : Bool, pyOk (.bl a) = some (.bool a) := fun a => by
    show (if SeqAt.shaped (.bool a) then some (PyData.bool a) else none) = _
    rw [if_pos (by simp [SeqAt.shaped, PyData.canLay0, PyData.depth])]
  unfold gNe eqD
  rw [h1, h1]
  cases a <;> cases b <;> simp [PyData.eqv]
theorem g_eqB (a b : Bool) : gEq (.bl a) (.bl b) = some (.bl (a == b)) := by
  have h1 : ∀ a : Bool, pyOk (.bl a) = some (.bool a) := fun a => by
    show (if SeqAt.shaped (.bool a) then some (PyData.bool a) else none) = _
    rw [if_pos (by simp [SeqAt.shaped, PyData.canLay0, PyData.depth])]
  unfold gEq eqD
  rw [h1, h1]
  cases a <;> cases b <;> simp [PyData.eqv]
theorem z5_is (v : VS bs m) {c0 c4 c5 c7 c8 c9 c10 c11 c12 c13 c14 c15 c16 c17 c18 : Option D} {rows : List D} (hr : ∀ d ∈ rows, RK d) (s : S) :
    ∃ c16' c17' s', Z5 [c0, some .row, some (lawD bs m), some (salD bs m), c4, c5, some (.lst rows), c7, c8, c9, c10, c11, c12, c13, c14, c15, c16, c17, c18] s = .ok (.next [c0, some .row, some (lawD bs m), some (salD bs m), c4, c5, some (.lst rows), c7, c8, c9, c10, c11, c12, c13, c14, c15, c16', c17', c18]) s' := by
  obtain ⟨j, s1, j1, j2, j3⟩ := draw_is s (m := 2) (by omega) (by omega)
  have e1 := is_rule_gen v hr s
  have e2 := law_is_rule_gen v hr s
  have e3 := refused_gen v hr j1 j2 s1
  have ib := isi_bl (EK.bl (rulOK bs m rows))
  refine ⟨some (.tup rows), some (.bl (rulOK bs m rows)), s1, ?_⟩
  generalize rulOK bs m rows = b at *
  generalize hV : D.tup rows = V at *
  unfold Z5
  simp -implicitDefEqProofs [hV, e1, e2, j3, e3, ib, isBl, g_neB, g_eqB]
end

section
variable {bs : List (List P2)} {m : Int}
theorem plc_one (v : VS bs m) : 1 ≤ (plc bs).length := by
  have hm : bs.map (fun _ => 0) ∈ plc bs := plc_mem.mpr ⟨by simp, fun k hk => by
    have hb : k < bs.length := hk
    have := (v.ok bs[k] (List.getElem_mem hb)).len1
    rw [List.getD_eq_getElem?_getD, List.getD_eq_getElem?_getD, List.getElem?_map, List.getElem?_eq_getElem hb]
    simp; omega⟩
  exact List.length_pos_of_mem hm
structure R5 (d : D) (B : List Int) (g : List Bool) (y : List Int) : Prop where
  e : d = .tup [.tup (B.map D.int), .tup (g.map D.bl), .tup (y.map D.int)]
  b1 : 1 ≤ B.length
  b4 : B.length ≤ 4
  g4 : g.length ≤ 4
  y4 : y.length ≤ 4
theorem R5.rk {d : D} {B : List Int} {g : List Bool} {y : List Int} (h : R5 d B g y) : RK d := by
  rw [h.e]
  have := h.b4
  have := h.g4
  have := h.y4
  exact .r3 _ _ _ (ek_ints B) (ek_bls g) (ek_ints y) (by simp; omega) (by simp; omega) (by simp; omega)
theorem pre5 (K : En → M Fl) {rows : List D} {B : List Int} {g : List Bool} {y : List Int} {one : D} {a k o sp : Int} {s s1 s2 s3 s4 : S} (r2 : rows.length ≤ 625) (a3 : drawF [.row, .int (rows.length : Int)] s = .ok (.int a) s1) (k3 : drawF [.row, .int 6] s1 = .ok (.int k) s2) (ed : atI rows a = some (.tup [.tup (B.map D.int), .tup (g.map D.bl), .tup (y.map D.int)]))
    (o3 : drawF [.row, .int 11] s2 = .ok (.int o) s3) (eo : atI odd5 o = some one) (p3 : drawF [.row, .int (B.length : Int)] s3 = .ok (.int sp) s4) (b1 : 1 ≤ B.length) (b4 : B.length ≤ 4) (g4 : g.length ≤ 4) (y4 : y.length ≤ 4) {W L c5 c6 c7 c8 c9 c10 c11 c12 c13 c14 c15 c16 c17 c18 : Option D} :
    (cSeq (cPar (pCons [6, 15] 6 (cN (cListL (cCons (cVar 4) cNil))) (pCons [6, 15] 7 (cV (cCall 2 f__law_taken (cCons (cVar 1) (cCons (cB gLen (cCons (cVar 4) cNil)) cNil)))) (pCons [6, 15] 8 (cV (cCall 2 f__law_taken (cCons (cVar 1) (cCons (cC (.int 6)) cNil)))) pNil))))
    (cSeq (cAsg (cIxO 6 (cVar 7)) (tgTup 3 (tgCons (tgName 9) (tgCons (tgName 10) (tgCons (tgName 11) tgNil)))))
    (cSeq (cSet 12 (cLst (cCons (cC .non) (cCons (cC (.bl true)) (cCons (cC (.int 1)) (cCons (cC (.int 0)) (cCons (cC (.str "1")) (cCons (cUn gNeg (cC (.int 1))) (cCons (cOp gPow (cC (.int 10)) (cC (.int 9))) (cCons (cOp gAdd (cOp gPow (cC (.int 10)) (cC (.int 9))) (cC (.int 1))) (cCons (cUn gNeg (cOp gPow (cC (.int 10)) (cC (.int 9)))) (cCons (cTup cNil) (cCons (cC (.bl false)) cNil)))))))))))))
    (cSeq (cSet 13 (cOp gIx (cVar 12) (cCall 2 f__law_taken (cCons (cVar 1) (cCons (cB gLen (cCons (cVar 12) cNil)) cNil)))))
    (cSeq (cSet 14 (cCall 2 f__law_taken (cCons (cVar 1) (cCons (cB gLen (cCons (cVar 9) cNil)) cNil))))
    (cSeq (cSetL 15 (cLstL (cCons (cTup (cCons (cVar 9) (cCons (cVar 10) (cCons (cOp gAdd (cOp gAdd (cSl (cVar 11) cNo (cPart (cVar 14))) (cTup (cCons (cVar 13) cNil))) (cSl (cVar 11) (cPart (cOp gAdd (cVar 14) (cC (.int 1)))) cNo)) cNil)))) cNil)))
    (cSeq (cApp 15 (cTup (cCons (cVar 9) (cCons (cOp gAdd (cOp gAdd (cSl (cVar 10) cNo (cPart (cVar 14))) (cTup (cCons (cVar 13) cNil))) (cSl (cVar 10) (cPart (cOp gAdd (cVar 14) (cC (.int 1)))) cNo)) (cCons (cVar 11) cNil)))))
    (cSeq (cApp 15 (cTup (cCons (cOp gAdd (cOp gAdd (cSl (cVar 9) cNo (cPart (cVar 14))) (cTup (cCons (cVar 13) cNil))) (cSl (cVar 9) (cPart (cOp gAdd (cVar 14) (cC (.int 1)))) cNo)) (cCons (cVar 10) (cCons (cVar 11) cNil)))))
    (cSeq (cSetL 15 (cAddO 15 (cLst (cCons (cTup (cCons (cVar 9) (cCons (cOp gMul (cTup (cCons (cC (.bl true)) cNil)) (cB gLen (cCons (cVar 9) cNil))) (cCons (cVar 11) cNil)))) (cCons (cTup (cCons (cVar 9) (cCons (cVar 10) (cCons (cOp gAdd (cVar 11) (cTup (cCons (cC (.int 0)) cNil))) cNil)))) (cCons (cTup (cCons (cVar 9) (cCons (cB gList (cCons (cVar 10) cNil)) (cCons (cVar 11) cNil)))) cNil))))))
    (cSeq (cSetL 15 (cAddO 15 (cLst (cCons (cC .non) (cCons (cTup cNil) (cCons (cTup (cCons (cVar 9) (cCons (cVar 10) cNil))) cNil))))))
    K)))))))))) [none, some .row, W, L, some (.lst rows), c5, c6, c7, c8, c9, c10, c11, c12, c13, c14, c15, c16, c17, c18] s = K [none, some .row, W, L, some (.lst rows), c5, some (.lst rows), some (.int a), some (.int k), some (.tup (B.map D.int)), some (.tup (g.map D.bl)), some (.tup (y.map D.int)), some (.lst odd5), some one, some (.int sp), some (.lst (lines5 B g y sp one)), c16, c17, c18] s4 := by
  have odd : [D.non, .bl true, .int 1, .int 0, .str "1", .int (-1), .int 1000000000, .int 1000000001, .int (-1000000000), .tup [], .bl false] = odd5 := rfl
  have oL : odd5.length = 11 := rfl
  have x1 := cut_len (B.map D.int) none (some sp)
  have x2 := cut_len (B.map D.int) (some (sp + 1)) none
  have x3 := cut_len (g.map D.bl) none (some sp)
  have x4 := cut_len (g.map D.bl) (some (sp + 1)) none
  have x5 := cut_len (y.map D.int) none (some sp)
  have x6 := cut_len (y.map D.int) (some (sp + 1)) none
  rw [List.length_map] at x1 x2 x3 x4 x5 x6
  have gm : gMul (.tup [.bl true]) (.int (B.length : Int)) = some (.tup (List.replicate B.length [D.bl true]).flatten) := by
    show (if _ ∧ _ ∧ _ ∧ _ then _ else _) = _
    rw [if_pos ⟨by simp, by omega, by omega, by simp⟩, Int.toNat_natCast]
  have gl : gList [.tup (g.map D.bl)] = some (.lst (g.map D.bl)) := rfl
  have ga : ∀ u w : List D, u.length + w.length ≤ 100000 → gAdd (.tup u) (.tup w) = some (.tup (u ++ w)) := fun u w h => if_pos h
  have t1 : ∀ l : List D, gSl (.tup l) none (some sp) = some (.tup (cutD l none (some sp))) := fun l => rfl
  have t2 : ∀ l : List D, gSl (.tup l) (some (sp + 1)) none = some (.tup (cutD l (some (sp + 1)) none)) := fun l => rfl
  generalize hu1 : cutD (B.map D.int) none (some sp) = u1 at *
  generalize hu2 : cutD (B.map D.int) (some (sp + 1)) none = u2 at *
  generalize hu3 : cutD (g.map D.bl) none (some sp) = u3 at *
  generalize hu4 : cutD (g.map D.bl) (some (sp + 1)) none = u4 at *
  generalize hu5 : cutD (y.map D.int) none (some sp) = u5 at *
  generalize hu6 : cutD (y.map D.int) (some (sp + 1)) none = u6 at *
  have a1 := ga u1 [one] (by simp; omega)
  have a2 := ga (u1 ++ [one]) u2 (by simp; omega)
  have a3' := ga u3 [one] (by simp; omega)
  have a4 := ga (u3 ++ [one]) u4 (by simp; omega)
  have a5 := ga u5 [one] (by simp; omega)
  have a6 := ga (u5 ++ [one]) u6 (by simp; omega)
  have a7 := ga (y.map D.int) [.int 0] (by simp; omega)
  simp -implicitDefEqProofs [a3, k3, ed, p9]
  rw [odd]
  simp -implicitDefEqProofs [oL, o3, eo, p3, t1, t2, hu1, hu2, hu3, hu4, hu5, hu6, a1, a2, a3', a4, a5, a6, a7, gm, gl]
  simp [lines5, exch, hu1, hu2, hu3, hu4, hu5, hu6]
theorem turn5 (v : VS bs m) {rows : List D} (hr : ∀ d ∈ rows, ∃ B g y, R5 d B g y) (r1 : 1 ≤ rows.length) (r2 : rows.length ≤ 625) {c5 c6 c7 c8 c9 c10 c11 c12 c13 c14 c15 c16 c17 c18 : Option D} (s : S) :
    ∃ c6' c7' c8' c9' c10' c11' c12' c13' c14' c15' c16' c17' s', l1_law [none, some .row, some (lawD bs m), some (salD bs m), some (.lst rows), c5, c6, c7, c8, c9, c10, c11, c12, c13, c14, c15, c16, c17, c18] s = .ok (.next [none, some .row, some (lawD bs m), some (salD bs m), some (.lst rows), c5, c6', c7', c8', c9', c10', c11', c12', c13', c14', c15', c16', c17', c18]) s' := by
  obtain ⟨a, s1, a1, a2, a3⟩ := draw_is s (m := (rows.length : Int)) (by omega) (by omega)
  obtain ⟨k, s2, k1, k2, k3⟩ := draw_is s1 (m := 6) (by omega) (by omega)
  obtain ⟨d, hd, ed⟩ := at_ex (l := rows) a1 a2
  obtain ⟨B, g, y, h⟩ := hr d hd
  obtain ⟨o, s3, o1, o2, o3⟩ := draw_is s2 (m := 11) (by omega) (by omega)
  obtain ⟨one, h1, eo⟩ := at_ex (l := odd5) o1 (by rw [show odd5.length = 11 from rfl]; exact o2)
  have b1 := h.b1
  have b4 := h.b4
  have g4 := h.g4
  have y4 := h.y4
  obtain ⟨sp, s4, p1, p2, p3⟩ := draw_is s3 (m := (B.length : Int)) (by omega) (by omega)
  have hl := lines_rk (B := B) (g := g) (y := y) (sp := sp) (odd_ek one h1) b4 g4 y4
  obtain ⟨rows', s5, q1, q2, q3⟩ := q5_is (c0 := none) (c2 := some (lawD bs m)) (c3 := some (salD bs m)) (c4 := some (.lst rows)) (c5 := c5) (rows := rows) (lines := lines5 B g y sp one) (a := a) (k := k) (c9 := some (.tup (B.map D.int))) (c10 := some (.tup (g.map D.bl))) (c11 := some (.tup (y.map D.int))) (c12 := some (.lst odd5)) (c13 := some one) (c14 := some (.int sp)) (c16 := c16) (c17 := c17) (c18 := c18)
    (fun e he => by obtain ⟨B, g, y, h⟩ := hr e he; exact h.rk) hl rfl (by omega) a1 a2 s4
  obtain ⟨c16', c17', s6, z⟩ := z5_is v (c0 := none) (c4 := some (.lst rows)) (c5 := c5) (c7 := some (.int a)) (c8 := some (.int k)) (c9 := some (.tup (B.map D.int))) (c10 := some (.tup (g.map D.bl))) (c11 := some (.tup (y.map D.int))) (c12 := some (.lst odd5)) (c13 := some one) (c14 := some (.int sp)) (c15 := some (.lst (lines5 B g y sp one))) (c16 := c16) (c17 := c17) (c18 := c18) q1 s5
  have e := h.e
  subst e
  refine ⟨some (.lst rows'), some (.int a), some (.int k), some (.tup (B.map D.int)), some (.tup (g.map D.bl)), some (.tup (y.map D.int)), some (.lst odd5), some one, some (.int sp), some (.lst (lines5 B g y sp one)), c16', c17', s6, ?_⟩
  rw [l1_split, pre5 (cSeq Q5 Z5) r2 a3 k3 ed o3 eo p3 b1 b4 g4 y4, e_seq, q3, bind_ok]
  exact z
end

section
variable {bs : List (List P2)} {m : Int}
theorem rul_non (v : VS bs m) (n : Nat) : rulOK bs m (List.replicate n .non) = false := by
  cases z : rulOK bs m (List.replicate n D.non) with
  | false => rfl
  | true =>
    unfold rulOK at z
    rw [Bool.and_eq_true, List.all_eq_true] at z
    have h1 := plc_one v
    obtain ⟨p, hp⟩ : ∃ p, (plc bs)[0]? = some p := ⟨(plc bs)[0], List.getElem?_eq_getElem h1⟩
    have := z.2 (0, p) (mem_idx hp)
    have e : (List.replicate n D.non).getD 0 .non = .non := by cases n <;> rfl
    simp only at this
    rw [e] at this
    cases this
theorem rul_nil (v : VS bs m) : rulOK bs m [] = false := rul_non v 0
end
theorem law_true : ∀ ns : List Int, ns.length ≤ 63 → ∃ s', b_law (lawEn N_law.length) ⟨ns, 0, 605, 0⟩ = .ok (.ret (.bl true)) s' := by
  intro ns _
  have e0 : lawEn N_law.length = [none, some .row, none, none, none, none, none, none, none, none, none, none, none, none, none, none, none, none, none] := rfl
  rw [e0]
  obtain ⟨bs, m, s1, v, hn, hb, hp⟩ := law_parts_is (n := 2) (k := 3) (by omega) (by omega) (by omega) (by omega) ⟨ns, 0, 605, 0⟩
  have hsale := law_sale_is v s1
  have l4 := v.len4
  have b5 : ∀ b ∈ bs, b.length ≤ 5 := fun b hb => (v.ok b hb).len5
  have hpl := Nat.le_trans (plc_len_le bs b5) (Nat.le_trans (Nat.pow_le_pow_right (by decide) l4) (show 5 ^ 4 ≤ 625 by decide))
  have p1 := plc_one v
  have ro := rule_of_is v s1
  have hr : ∀ d ∈ (plc bs).map (rrD bs m.toNat (tabR (lrows bs))), ∃ B g y, R5 d B g y := fun d hd => by
    obtain ⟨p, hpp, rfl⟩ := List.mem_map.mp hd
    have hl := (plc_ok hpp).len
    have bl := bidsF_len bs p
    have l1 := v.len1
    exact ⟨_, _, _, rfl, by omega, by omega, by simp [getsF]; omega, by simp [paysF]; omega⟩
  have hlen : ((plc bs).map (rrD bs m.toNat (tabR (lrows bs)))).length = (plc bs).length := List.length_map ..
  generalize (plc bs).map (rrD bs m.toNat (tabR (lrows bs))) = rows at *
  have key := for_inv (tg := tgName 5) (F := l1_law) (enc := D.int) (xs := [0, 1, 2, 3, 4, 5, 6, 7]) (fun _ δ _ => ∃ c5 c6 c7 c8 c9 c10 c11 c12 c13 c14 c15 c16 c17 c18, δ = [none, some .row, some (lawD bs m), some (salD bs m), some (.lst rows), c5, c6, c7, c8, c9, c10, c11, c12, c13, c14, c15, c16, c17, c18])
    (δ := [none, some .row, some (lawD bs m), some (salD bs m), some (.lst rows), none, none, none, none, none, none, none, none, none, none, none, none, none, none]) (s := s1) ⟨none, none, none, none, none, none, none, none, none, none, none, none, none, none, rfl⟩ (by
      rintro pre k post δ s e ⟨c5, c6, c7, c8, c9, c10, c11, c12, c13, c14, c15, c16, c17, c18, rfl⟩
      obtain ⟨c6', c7', c8', c9', c10', c11', c12', c13', c14', c15', c16', c17', s', h⟩ := turn5 v hr (by omega) (by omega) (c5 := some (.int k)) (c6 := c6) (c7 := c7) (c8 := c8) (c9 := c9) (c10 := c10) (c11 := c11) (c12 := c12) (c13 := c13) (c14 := c14) (c15 := c15) (c16 := c16) (c17 := c17) (c18 := c18) s
      exact ⟨_, _, s', rfl, h, _, _, _, _, _, _, _, _, _, _, _, _, _, _, rfl⟩)
  obtain ⟨δ', s2, h1, c5, c6, c7, c8, c9, c10, c11, c12, c13, c14, c15, c16, c17, c18, rfl⟩ := key
  have u8 : gR1 [.int 8] = some ([0, 1, 2, 3, 4, 5, 6, 7].map D.int) := rfl
  obtain ⟨a, s3, a1, a2, a3⟩ := draw_is s2 (m := 7) (by omega) (by omega)
  obtain ⟨j, s4, j1, j2, j3⟩ := draw_is s3 (m := 2) (by omega) (by omega)
  have gm : gMul (.tup [.non]) (.int (rows.length : Int)) = some (.tup (List.replicate rows.length D.non)) := by
    show (if _ ∧ _ ∧ _ ∧ _ then _ else _) = _
    rw [if_pos ⟨by simp, by omega, by omega, by simp⟩, Int.toNat_natCast]
    simp
  have gl : gList [.tup rows] = some (.lst rows) := rfl
  have bad : ∃ d, atI [D.non, .tup [], .lst rows, .str "rule", .int 0, .dic [] [], .tup (List.replicate rows.length D.non)] a = some d ∧ (∀ s, f_is_rule_of [salD bs m, d] s = .ok (.bl false) s) ∧ ∀ s, f_is_rule [salD bs m, d] s = .ok (.bl false) s := by
    have hc : a = 0 ∨ a = 1 ∨ a = 2 ∨ a = 3 ∨ a = 4 ∨ a = 5 ∨ a = 6 := by omega
    rcases hc with rfl | rfl | rfl | rfl | rfl | rfl | rfl
    · exact ⟨_, rfl, is_rule_of_odd v (by show (kitB "NoneType" "tuple").map D.bl = _; rw [kB_nt]; rfl), is_rule_odd v (by show (kitB "NoneType" "tuple").map D.bl = _; rw [kB_nt]; rfl)⟩
    · refine ⟨_, rfl, fun s => ?_, fun s => ?_⟩
      · rw [is_rule_of_gen v (by simp), rul_nil v]
      · rw [is_rule_gen v (by simp), rul_nil v]
    · exact ⟨_, rfl, is_rule_of_odd v (by show (kitB "list" "tuple").map D.bl = _; rw [kB_lt]; rfl), is_rule_odd v (by show (kitB "list" "tuple").map D.bl = _; rw [kB_lt]; rfl)⟩
    · have ks : kitB "str" "tuple" = some false := by decide +kernel
      exact ⟨_, rfl, is_rule_of_odd v (by show (kitB "str" "tuple").map D.bl = _; rw [ks]; rfl), is_rule_odd v (by show (kitB "str" "tuple").map D.bl = _; rw [ks]; rfl)⟩
    · exact ⟨_, rfl, is_rule_of_odd v (by show (kitB "int" "tuple").map D.bl = _; rw [kB_it]; rfl), is_rule_odd v (by show (kitB "int" "tuple").map D.bl = _; rw [kB_it]; rfl)⟩
    · have ks : kitB "dict" "tuple" = some false := by decide +kernel
      exact ⟨_, rfl, is_rule_of_odd v (by show (kitB "dict" "tuple").map D.bl = _; rw [ks]; rfl), is_rule_odd v (by show (kitB "dict" "tuple").map D.bl = _; rw [ks]; rfl)⟩
    · have rk : ∀ d ∈ List.replicate rows.length D.non, RK d := fun d hd => by rw [(List.mem_replicate.mp hd).2]; exact .non
      refine ⟨_, rfl, fun s => ?_, fun s => ?_⟩
      · rw [is_rule_of_gen v rk, rul_non v]
      · rw [is_rule_gen v rk, rul_non v]
  obtain ⟨d, ed, f1, f2⟩ := bad
  have f3 := refused_no (f1 s4) j1 j2
  refine ⟨s4, ?_⟩
  unfold b_law
  simp -implicitDefEqProofs [hp, hsale, ro, gl, u8]
  simp only [List.map_cons, List.map_nil] at h1
  rw [h1]
  simp -implicitDefEqProofs [gm, a3, ed, f2, j3, f3]

theorem all_mk {l : PySem.W.OpenLaw} {w : World} {K : PySem.W.Frag} {h : Heap} {mg : Str → Option Value} {fa : Addr} (hl : ∀ ns : List Int, ns.length ≤ 63 → ∃ s', b_law (lawEn N_law.length) ⟨ns, 0, 605, 0⟩ = .ok (.ret (.bl true)) s') (X : K.In h) (G : h.Ns mainGlobals mg) (hfa : mg "law" = some (.ref fa))
    {cS : Addr} (aS : PySem.W.nsIn K mainGlobals "Sale" = some (some (.ref cS))) (pgS : PySem.W.plainGet K cS Str.empty = true) (hdS : PySem.W.hasDictIn K cS = true) (poS : PySem.W.plainOver K cS = true) (saS : PySem.W.findIn K (.ref cS) "__setattr__" = some (some (.builtin "object.__setattr__"))) (mkS : PySem.W.makesIn K cS = true) (kcS : PySem.W.keepIn K (.ref cS) = true)
    (ncS : PySem.W.findIn K (.ref cS) "crowd" = some none) (nsS : PySem.W.findIn K (.ref cS) "stock" = some none) (haS : PySem.W.findIn K (.ref cS) "__class__" = some (some (.builtin "object.__class__"))) (hnS : PySem.W.specialIn K (.builtin "object.__class__") "__get__" = some (some (.builtin "getset_descriptor.__get__"))) (htS : PySem.W.takesIn K (.builtin "object.__class__") = some true) (hmS : PySem.W.mroIn K cS (.type "object") = some true)
    (ty0S : PySem.W.kitOne K (.type "NoneType") (.ref cS) = some false)
    (ty1S : PySem.W.kitOne K (.type "bool") (.ref cS) = some false)
    (ty2S : PySem.W.kitOne K (.type "int") (.ref cS) = some false)
    (ty3S : PySem.W.kitOne K (.type "str") (.ref cS) = some false)
    (ty4S : PySem.W.kitOne K (.type "tuple") (.ref cS) = some false)
    (ty5S : PySem.W.kitOne K (.type "list") (.ref cS) = some false)
    (ty6S : PySem.W.kitOne K (.type "dict") (.ref cS) = some false)
    {c_FloorError c_BadRule : Addr}
    (aC_FloorError : PySem.W.nsIn K mainGlobals "FloorError" = some (some (.ref c_FloorError)))
    (aC_BadRule : PySem.W.nsIn K mainGlobals "BadRule" = some (some (.ref c_BadRule)))
    (spF : PySem.W.specialIn K (.ref c_FloorError) "__getattribute__" = some (some (.builtin "type.__getattribute__"))) (tyF : PySem.W.typeIn K (.ref c_FloorError) = some (.type "type")) (rdF : PySem.W.readsIn K c_FloorError (.type "type") = true) (fcF : PySem.W.findCls K (.ref c_FloorError) (.type "type") "__init__" = some (.val (.builtin "ValueError.__init__")))
    {nm_BadRule q_BadRule : Str} {N_BadRule : Addr} {bs_BadRule : List Value} {sn_BadRule : List Str} {sub_BadRule : List Value} {ab_BadRule : Bool} {col_BadRule : Option Bool} {dd_BadRule : Option Addr} {m0_BadRule m1_BadRule m2_BadRule m3_BadRule m5_BadRule : Option Value} {fi_BadRule : Addr} {odi_BadRule ani_BadRule : Option Addr} {sli_BadRule : Array (Option Value)} {oci_BadRule kVi_BadRule dci_BadRule pmi_BadRule cdi_BadRule cti_BadRule : Value}
    (xL_BadRule : K.lookup c_BadRule = some (excClassObj nm_BadRule q_BadRule c_BadRule N_BadRule bs_BadRule [.ref c_FloorError, .type "ValueError", .type "Exception", .type "BaseException", .type "object"] true sn_BadRule sub_BadRule ab_BadRule col_BadRule dd_BadRule m0_BadRule m1_BadRule m2_BadRule m3_BadRule m5_BadRule "ValueError.__new__")) (sa_BadRule : PySem.W.findIn K (.ref c_BadRule) "__setattr__" = some (some (.builtin "object.__setattr__"))) (kC_BadRule : PySem.W.keepIn K (.ref c_BadRule) = true) (eC_BadRule : PySem.W.subIn K (.ref c_BadRule) (.type "BaseException") = some true) (tC_BadRule : PySem.W.typeIn K (.ref c_BadRule) = some (.type "type"))
    (iI_BadRule : PySem.W.findIn K (.ref c_BadRule) "__init__" = some (some (.ref fi_BadRule))) (tI_BadRule : PySem.W.typeIn K (.ref fi_BadRule) = some (.type "function")) (lI_BadRule : K.lookup fi_BadRule = some ⟨oci_BadRule, odi_BadRule, .func (PySem.W.fnOf "__init__" "BadRule.__init__" (defArgs s_BadRule) (defBody s_BadRule) (defScope s_BadRule) .none kVi_BadRule dci_BadRule pmi_BadRule ani_BadRule cdi_BadRule cti_BadRule), sli_BadRule⟩) (cI_BadRule : PySem.W.codeIn K cdi_BadRule "BadRule.__init__" = true) (kI_BadRule : PySem.W.keepIn K (.ref fi_BadRule) = true)
    (eb_BadRule : PySem.W.subIn K (.ref c_BadRule) (.type "BaseException") = some true) (ic_BadRule : PySem.W.isClsIn K c_BadRule = true) (tc_BadRule : PySem.W.typeIn K (.ref c_BadRule) = some (.type "type"))
    (su_BadRule_BadRule : PySem.W.subIn K (.ref c_BadRule) (.ref c_BadRule) = some true)
    {f0 : Addr} {od0 an0 : Option Addr} {sl0 : Array (Option Value)} {oc0 kV0 dc0 pm0 cd0 ct0 : Value}
    (a0 : PySem.W.nsIn K mainGlobals "_law_taken" = some (some (.ref f0))) (l0 : K.lookup f0 = some ⟨oc0, od0, .func (PySem.W.fnOf "_law_taken" "_law_taken" (defArgs s__law_taken) (defBody s__law_taken) (defScope s__law_taken) .none kV0 dc0 pm0 an0 cd0 ct0), sl0⟩) (c0 : PySem.W.codeIn K cd0 "_law_taken" = true) (k0 : PySem.W.keepIn K (.ref f0) = true)
    {f1 : Addr} {od1 an1 : Option Addr} {sl1 : Array (Option Value)} {oc1 kV1 dc1 pm1 cd1 ct1 : Value}
    (a1 : PySem.W.nsIn K mainGlobals "_law_buyer" = some (some (.ref f1))) (l1 : K.lookup f1 = some ⟨oc1, od1, .func (PySem.W.fnOf "_law_buyer" "_law_buyer" (defArgs s__law_buyer) (defBody s__law_buyer) (defScope s__law_buyer) .none kV1 dc1 pm1 an1 cd1 ct1), sl1⟩) (c1 : PySem.W.codeIn K cd1 "_law_buyer" = true) (k1 : PySem.W.keepIn K (.ref f1) = true)
    {f2 : Addr} {od2 an2 : Option Addr} {sl2 : Array (Option Value)} {oc2 kV2 dc2 pm2 cd2 ct2 : Value}
    (a2 : PySem.W.nsIn K mainGlobals "_law_parts" = some (some (.ref f2))) (l2 : K.lookup f2 = some ⟨oc2, od2, .func (PySem.W.fnOf "_law_parts" "_law_parts" (defArgs s__law_parts) (defBody s__law_parts) (defScope s__law_parts) .none kV2 dc2 pm2 an2 cd2 ct2), sl2⟩) (c2 : PySem.W.codeIn K cd2 "_law_parts" = true) (k2 : PySem.W.keepIn K (.ref f2) = true)
    {f3 : Addr} {od3 an3 : Option Addr} {sl3 : Array (Option Value)} {oc3 kV3 dc3 pm3 cd3 ct3 : Value}
    (a3 : PySem.W.nsIn K mainGlobals "is_from" = some (some (.ref f3))) (l3 : K.lookup f3 = some ⟨oc3, od3, .func (PySem.W.fnOf "is_from" "is_from" (defArgs s_is_from) (defBody s_is_from) (defScope s_is_from) .none kV3 dc3 pm3 an3 cd3 ct3), sl3⟩) (c3 : PySem.W.codeIn K cd3 "is_from" = true) (k3 : PySem.W.keepIn K (.ref f3) = true)
    {f4 : Addr} {od4 an4 : Option Addr} {sl4 : Array (Option Value)} {oc4 kV4 dc4 pm4 cd4 ct4 : Value}
    (a4 : PySem.W.nsIn K mainGlobals "is_pair" = some (some (.ref f4))) (l4 : K.lookup f4 = some ⟨oc4, od4, .func (PySem.W.fnOf "is_pair" "is_pair" (defArgs s_is_pair) (defBody s_is_pair) (defScope s_is_pair) .none kV4 dc4 pm4 an4 cd4 ct4), sl4⟩) (c4 : PySem.W.codeIn K cd4 "is_pair" = true) (k4 : PySem.W.keepIn K (.ref f4) = true)
    {f5 : Addr} {od5 an5 : Option Addr} {sl5 : Array (Option Value)} {oc5 kV5 dc5 pm5 cd5 ct5 : Value}
    (a5 : PySem.W.nsIn K mainGlobals "is_buyer" = some (some (.ref f5))) (l5 : K.lookup f5 = some ⟨oc5, od5, .func (PySem.W.fnOf "is_buyer" "is_buyer" (defArgs s_is_buyer) (defBody s_is_buyer) (defScope s_is_buyer) .none kV5 dc5 pm5 an5 cd5 ct5), sl5⟩) (c5 : PySem.W.codeIn K cd5 "is_buyer" = true) (k5 : PySem.W.keepIn K (.ref f5) = true)
    {f6 : Addr} {od6 an6 : Option Addr} {sl6 : Array (Option Value)} {oc6 kV6 dc6 pm6 cd6 ct6 : Value}
    (a6 : PySem.W.findIn K (.ref cS) "__init__" = some (some (.ref f6))) (i6 : PySem.W.isFn K (.ref f6) = true) (l6 : K.lookup f6 = some ⟨oc6, od6, .func (PySem.W.fnOf "__init__" "Sale.__init__" (defArgs s_Sale) (defBody s_Sale) (defScope s_Sale) .none kV6 dc6 pm6 an6 cd6 ct6), sl6⟩) (c6 : PySem.W.codeIn K cd6 "Sale.__init__" = true) (k6 : PySem.W.keepIn K (.ref f6) = true)
    {f7 : Addr} {od7 an7 : Option Addr} {sl7 : Array (Option Value)} {oc7 kV7 dc7 pm7 cd7 ct7 : Value}
    (a7 : PySem.W.nsIn K mainGlobals "_law_sale" = some (some (.ref f7))) (l7 : K.lookup f7 = some ⟨oc7, od7, .func (PySem.W.fnOf "_law_sale" "_law_sale" (defArgs s__law_sale) (defBody s__law_sale) (defScope s__law_sale) .none kV7 dc7 pm7 an7 cd7 ct7), sl7⟩) (c7 : PySem.W.codeIn K cd7 "_law_sale" = true) (k7 : PySem.W.keepIn K (.ref f7) = true)
    {f8 : Addr} {od8 an8 : Option Addr} {sl8 : Array (Option Value)} {oc8 kV8 dc8 pm8 cd8 ct8 : Value}
    (a8 : PySem.W.nsIn K mainGlobals "need_sale" = some (some (.ref f8))) (l8 : K.lookup f8 = some ⟨oc8, od8, .func (PySem.W.fnOf "need_sale" "need_sale" (defArgs s_need_sale) (defBody s_need_sale) (defScope s_need_sale) .none kV8 dc8 pm8 an8 cd8 ct8), sl8⟩) (c8 : PySem.W.codeIn K cd8 "need_sale" = true) (k8 : PySem.W.keepIn K (.ref f8) = true)
    {f9 : Addr} {od9 an9 : Option Addr} {sl9 : Array (Option Value)} {oc9 kV9 dc9 pm9 cd9 ct9 : Value}
    (a9 : PySem.W.nsIn K mainGlobals "common" = some (some (.ref f9))) (l9 : K.lookup f9 = some ⟨oc9, od9, .func (PySem.W.fnOf "common" "common" (defArgs s_common) (defBody s_common) (defScope s_common) .none kV9 dc9 pm9 an9 cd9 ct9), sl9⟩) (c9 : PySem.W.codeIn K cd9 "common" = true) (k9 : PySem.W.keepIn K (.ref f9) = true)
    {f10 : Addr} {od10 an10 : Option Addr} {sl10 : Array (Option Value)} {oc10 kV10 dc10 pm10 cd10 ct10 : Value}
    (a10 : PySem.W.nsIn K mainGlobals "scaled" = some (some (.ref f10))) (l10 : K.lookup f10 = some ⟨oc10, od10, .func (PySem.W.fnOf "scaled" "scaled" (defArgs s_scaled) (defBody s_scaled) (defScope s_scaled) .none kV10 dc10 pm10 an10 cd10 ct10), sl10⟩) (c10 : PySem.W.codeIn K cd10 "scaled" = true) (k10 : PySem.W.keepIn K (.ref f10) = true)
    {f11 : Addr} {od11 an11 : Option Addr} {sl11 : Array (Option Value)} {oc11 kV11 dc11 pm11 cd11 ct11 : Value}
    (a11 : PySem.W.nsIn K mainGlobals "stair" = some (some (.ref f11))) (l11 : K.lookup f11 = some ⟨oc11, od11, .func (PySem.W.fnOf "stair" "stair" (defArgs s_stair) (defBody s_stair) (defScope s_stair) .none kV11 dc11 pm11 an11 cd11 ct11), sl11⟩) (c11 : PySem.W.codeIn K cd11 "stair" = true) (k11 : PySem.W.keepIn K (.ref f11) = true)
    {f12 : Addr} {od12 an12 : Option Addr} {sl12 : Array (Option Value)} {oc12 kV12 dc12 pm12 cd12 ct12 : Value}
    (a12 : PySem.W.nsIn K mainGlobals "is_less" = some (some (.ref f12))) (l12 : K.lookup f12 = some ⟨oc12, od12, .func (PySem.W.fnOf "is_less" "is_less" (defArgs s_is_less) (defBody s_is_less) (defScope s_is_less) .none kV12 dc12 pm12 an12 cd12 ct12), sl12⟩) (c12 : PySem.W.codeIn K cd12 "is_less" = true) (k12 : PySem.W.keepIn K (.ref f12) = true)
    {f13 : Addr} {od13 an13 : Option Addr} {sl13 : Array (Option Value)} {oc13 kV13 dc13 pm13 cd13 ct13 : Value}
    (a13 : PySem.W.nsIn K mainGlobals "made" = some (some (.ref f13))) (l13 : K.lookup f13 = some ⟨oc13, od13, .func (PySem.W.fnOf "made" "made" (defArgs s_made) (defBody s_made) (defScope s_made) .none kV13 dc13 pm13 an13 cd13 ct13), sl13⟩) (c13 : PySem.W.codeIn K cd13 "made" = true) (k13 : PySem.W.keepIn K (.ref f13) = true)
    {f14 : Addr} {od14 an14 : Option Addr} {sl14 : Array (Option Value)} {oc14 kV14 dc14 pm14 cd14 ct14 : Value}
    (a14 : PySem.W.nsIn K mainGlobals "slope" = some (some (.ref f14))) (l14 : K.lookup f14 = some ⟨oc14, od14, .func (PySem.W.fnOf "slope" "slope" (defArgs s_slope) (defBody s_slope) (defScope s_slope) .none kV14 dc14 pm14 an14 cd14 ct14), sl14⟩) (c14 : PySem.W.codeIn K cd14 "slope" = true) (k14 : PySem.W.keepIn K (.ref f14) = true)
    {f15 : Addr} {od15 an15 : Option Addr} {sl15 : Array (Option Value)} {oc15 kV15 dc15 pm15 cd15 ct15 : Value}
    (a15 : PySem.W.nsIn K mainGlobals "is_bend" = some (some (.ref f15))) (l15 : K.lookup f15 = some ⟨oc15, od15, .func (PySem.W.fnOf "is_bend" "is_bend" (defArgs s_is_bend) (defBody s_is_bend) (defScope s_is_bend) .none kV15 dc15 pm15 an15 cd15 ct15), sl15⟩) (c15 : PySem.W.codeIn K cd15 "is_bend" = true) (k15 : PySem.W.keepIn K (.ref f15) = true)
    {f16 : Addr} {od16 an16 : Option Addr} {sl16 : Array (Option Value)} {oc16 kV16 dc16 pm16 cd16 ct16 : Value}
    (a16 : PySem.W.nsIn K mainGlobals "hull" = some (some (.ref f16))) (l16 : K.lookup f16 = some ⟨oc16, od16, .func (PySem.W.fnOf "hull" "hull" (defArgs s_hull) (defBody s_hull) (defScope s_hull) .none kV16 dc16 pm16 an16 cd16 ct16), sl16⟩) (c16 : PySem.W.codeIn K cd16 "hull" = true) (k16 : PySem.W.keepIn K (.ref f16) = true)
    {f17 : Addr} {od17 an17 : Option Addr} {sl17 : Array (Option Value)} {oc17 kV17 dc17 pm17 cd17 ct17 : Value}
    (a17 : PySem.W.nsIn K mainGlobals "levels_of" = some (some (.ref f17))) (l17 : K.lookup f17 = some ⟨oc17, od17, .func (PySem.W.fnOf "levels_of" "levels_of" (defArgs s_levels_of) (defBody s_levels_of) (defScope s_levels_of) .none kV17 dc17 pm17 an17 cd17 ct17), sl17⟩) (c17 : PySem.W.codeIn K cd17 "levels_of" = true) (k17 : PySem.W.keepIn K (.ref f17) = true)
    {f18 : Addr} {od18 an18 : Option Addr} {sl18 : Array (Option Value)} {oc18 kV18 dc18 pm18 cd18 ct18 : Value}
    (a18 : PySem.W.nsIn K mainGlobals "level_rows" = some (some (.ref f18))) (l18 : K.lookup f18 = some ⟨oc18, od18, .func (PySem.W.fnOf "level_rows" "level_rows" (defArgs s_level_rows) (defBody s_level_rows) (defScope s_level_rows) .none kV18 dc18 pm18 an18 cd18 ct18), sl18⟩) (c18 : PySem.W.codeIn K cd18 "level_rows" = true) (k18 : PySem.W.keepIn K (.ref f18) = true)
    {f19 : Addr} {od19 an19 : Option Addr} {sl19 : Array (Option Value)} {oc19 kV19 dc19 pm19 cd19 ct19 : Value}
    (a19 : PySem.W.nsIn K mainGlobals "all_places" = some (some (.ref f19))) (l19 : K.lookup f19 = some ⟨oc19, od19, .func (PySem.W.fnOf "all_places" "all_places" (defArgs s_all_places) (defBody s_all_places) (defScope s_all_places) .none kV19 dc19 pm19 an19 cd19 ct19), sl19⟩) (c19 : PySem.W.codeIn K cd19 "all_places" = true) (k19 : PySem.W.keepIn K (.ref f19) = true)
    {f20 : Addr} {od20 an20 : Option Addr} {sl20 : Array (Option Value)} {oc20 kV20 dc20 pm20 cd20 ct20 : Value}
    (a20 : PySem.W.nsIn K mainGlobals "chosen" = some (some (.ref f20))) (l20 : K.lookup f20 = some ⟨oc20, od20, .func (PySem.W.fnOf "chosen" "chosen" (defArgs s_chosen) (defBody s_chosen) (defScope s_chosen) .none kV20 dc20 pm20 an20 cd20 ct20), sl20⟩) (c20 : PySem.W.codeIn K cd20 "chosen" = true) (k20 : PySem.W.keepIn K (.ref f20) = true)
    {f21 : Addr} {od21 an21 : Option Addr} {sl21 : Array (Option Value)} {oc21 kV21 dc21 pm21 cd21 ct21 : Value}
    (a21 : PySem.W.nsIn K mainGlobals "price_at" = some (some (.ref f21))) (l21 : K.lookup f21 = some ⟨oc21, od21, .func (PySem.W.fnOf "price_at" "price_at" (defArgs s_price_at) (defBody s_price_at) (defScope s_price_at) .none kV21 dc21 pm21 an21 cd21 ct21), sl21⟩) (c21 : PySem.W.codeIn K cd21 "price_at" = true) (k21 : PySem.W.keepIn K (.ref f21) = true)
    {f22 : Addr} {od22 an22 : Option Addr} {sl22 : Array (Option Value)} {oc22 kV22 dc22 pm22 cd22 ct22 : Value}
    (a22 : PySem.W.nsIn K mainGlobals "sold_at" = some (some (.ref f22))) (l22 : K.lookup f22 = some ⟨oc22, od22, .func (PySem.W.fnOf "sold_at" "sold_at" (defArgs s_sold_at) (defBody s_sold_at) (defScope s_sold_at) .none kV22 dc22 pm22 an22 cd22 ct22), sl22⟩) (c22 : PySem.W.codeIn K cd22 "sold_at" = true) (k22 : PySem.W.keepIn K (.ref f22) = true)
    {f23 : Addr} {od23 an23 : Option Addr} {sl23 : Array (Option Value)} {oc23 kV23 dc23 pm23 cd23 ct23 : Value}
    (a23 : PySem.W.nsIn K mainGlobals "bids_at" = some (some (.ref f23))) (l23 : K.lookup f23 = some ⟨oc23, od23, .func (PySem.W.fnOf "bids_at" "bids_at" (defArgs s_bids_at) (defBody s_bids_at) (defScope s_bids_at) .none kV23 dc23 pm23 an23 cd23 ct23), sl23⟩) (c23 : PySem.W.codeIn K cd23 "bids_at" = true) (k23 : PySem.W.keepIn K (.ref f23) = true)
    {f24 : Addr} {od24 an24 : Option Addr} {sl24 : Array (Option Value)} {oc24 kV24 dc24 pm24 cd24 ct24 : Value}
    (a24 : PySem.W.nsIn K mainGlobals "rule_of" = some (some (.ref f24))) (l24 : K.lookup f24 = some ⟨oc24, od24, .func (PySem.W.fnOf "rule_of" "rule_of" (defArgs s_rule_of) (defBody s_rule_of) (defScope s_rule_of) .none kV24 dc24 pm24 an24 cd24 ct24), sl24⟩) (c24 : PySem.W.codeIn K cd24 "rule_of" = true) (k24 : PySem.W.keepIn K (.ref f24) = true)
    {f25 : Addr} {od25 an25 : Option Addr} {sl25 : Array (Option Value)} {oc25 kV25 dc25 pm25 cd25 ct25 : Value}
    (a25 : PySem.W.nsIn K mainGlobals "is_row" = some (some (.ref f25))) (l25 : K.lookup f25 = some ⟨oc25, od25, .func (PySem.W.fnOf "is_row" "is_row" (defArgs s_is_row) (defBody s_is_row) (defScope s_is_row) .none kV25 dc25 pm25 an25 cd25 ct25), sl25⟩) (c25 : PySem.W.codeIn K cd25 "is_row" = true) (k25 : PySem.W.keepIn K (.ref f25) = true)
    {f26 : Addr} {od26 an26 : Option Addr} {sl26 : Array (Option Value)} {oc26 kV26 dc26 pm26 cd26 ct26 : Value}
    (a26 : PySem.W.nsIn K mainGlobals "is_rule_of" = some (some (.ref f26))) (l26 : K.lookup f26 = some ⟨oc26, od26, .func (PySem.W.fnOf "is_rule_of" "is_rule_of" (defArgs s_is_rule_of) (defBody s_is_rule_of) (defScope s_is_rule_of) .none kV26 dc26 pm26 an26 cd26 ct26), sl26⟩) (c26 : PySem.W.codeIn K cd26 "is_rule_of" = true) (k26 : PySem.W.keepIn K (.ref f26) = true)
    {f27 : Addr} {od27 an27 : Option Addr} {sl27 : Array (Option Value)} {oc27 kV27 dc27 pm27 cd27 ct27 : Value}
    (a27 : PySem.W.nsIn K mainGlobals "is_rule" = some (some (.ref f27))) (l27 : K.lookup f27 = some ⟨oc27, od27, .func (PySem.W.fnOf "is_rule" "is_rule" (defArgs s_is_rule) (defBody s_is_rule) (defScope s_is_rule) .none kV27 dc27 pm27 an27 cd27 ct27), sl27⟩) (c27 : PySem.W.codeIn K cd27 "is_rule" = true) (k27 : PySem.W.keepIn K (.ref f27) = true)
    {f28 : Addr} {od28 an28 : Option Addr} {sl28 : Array (Option Value)} {oc28 kV28 dc28 pm28 cd28 ct28 : Value}
    (a28 : PySem.W.nsIn K mainGlobals "_law_all" = some (some (.ref f28))) (l28 : K.lookup f28 = some ⟨oc28, od28, .func (PySem.W.fnOf "_law_all" "_law_all" (defArgs s__law_all) (defBody s__law_all) (defScope s__law_all) .none kV28 dc28 pm28 an28 cd28 ct28), sl28⟩) (c28 : PySem.W.codeIn K cd28 "_law_all" = true) (k28 : PySem.W.keepIn K (.ref f28) = true)
    {f29 : Addr} {od29 an29 : Option Addr} {sl29 : Array (Option Value)} {oc29 kV29 dc29 pm29 cd29 ct29 : Value}
    (a29 : PySem.W.nsIn K mainGlobals "_law_bids" = some (some (.ref f29))) (l29 : K.lookup f29 = some ⟨oc29, od29, .func (PySem.W.fnOf "_law_bids" "_law_bids" (defArgs s__law_bids) (defBody s__law_bids) (defScope s__law_bids) .none kV29 dc29 pm29 an29 cd29 ct29), sl29⟩) (c29 : PySem.W.codeIn K cd29 "_law_bids" = true) (k29 : PySem.W.keepIn K (.ref f29) = true)
    {f30 : Addr} {od30 an30 : Option Addr} {sl30 : Array (Option Value)} {oc30 kV30 dc30 pm30 cd30 ct30 : Value}
    (a30 : PySem.W.nsIn K mainGlobals "_law_is_rule" = some (some (.ref f30))) (l30 : K.lookup f30 = some ⟨oc30, od30, .func (PySem.W.fnOf "_law_is_rule" "_law_is_rule" (defArgs s__law_is_rule) (defBody s__law_is_rule) (defScope s__law_is_rule) .none kV30 dc30 pm30 an30 cd30 ct30), sl30⟩) (c30 : PySem.W.codeIn K cd30 "_law_is_rule" = true) (k30 : PySem.W.keepIn K (.ref f30) = true)
    {f31 : Addr} {od31 an31 : Option Addr} {sl31 : Array (Option Value)} {oc31 kV31 dc31 pm31 cd31 ct31 : Value}
    (a31 : PySem.W.nsIn K mainGlobals "need_rule" = some (some (.ref f31))) (l31 : K.lookup f31 = some ⟨oc31, od31, .func (PySem.W.fnOf "need_rule" "need_rule" (defArgs s_need_rule) (defBody s_need_rule) (defScope s_need_rule) .none kV31 dc31 pm31 an31 cd31 ct31), sl31⟩) (c31 : PySem.W.codeIn K cd31 "need_rule" = true) (k31 : PySem.W.keepIn K (.ref f31) = true)
    {f32 : Addr} {od32 an32 : Option Addr} {sl32 : Array (Option Value)} {oc32 kV32 dc32 pm32 cd32 ct32 : Value}
    (a32 : PySem.W.nsIn K mainGlobals "gain_of" = some (some (.ref f32))) (l32 : K.lookup f32 = some ⟨oc32, od32, .func (PySem.W.fnOf "gain_of" "gain_of" (defArgs s_gain_of) (defBody s_gain_of) (defScope s_gain_of) .none kV32 dc32 pm32 an32 cd32 ct32), sl32⟩) (c32 : PySem.W.codeIn K cd32 "gain_of" = true) (k32 : PySem.W.keepIn K (.ref f32) = true)
    {f33 : Addr} {od33 an33 : Option Addr} {sl33 : Array (Option Value)} {oc33 kV33 dc33 pm33 cd33 ct33 : Value}
    (a33 : PySem.W.nsIn K mainGlobals "flaw_at" = some (some (.ref f33))) (l33 : K.lookup f33 = some ⟨oc33, od33, .func (PySem.W.fnOf "flaw_at" "flaw_at" (defArgs s_flaw_at) (defBody s_flaw_at) (defScope s_flaw_at) .none kV33 dc33 pm33 an33 cd33 ct33), sl33⟩) (c33 : PySem.W.codeIn K cd33 "flaw_at" = true) (k33 : PySem.W.keepIn K (.ref f33) = true)
    {f34 : Addr} {od34 an34 : Option Addr} {sl34 : Array (Option Value)} {oc34 kV34 dc34 pm34 cd34 ct34 : Value}
    (a34 : PySem.W.nsIn K mainGlobals "flaw_of" = some (some (.ref f34))) (l34 : K.lookup f34 = some ⟨oc34, od34, .func (PySem.W.fnOf "flaw_of" "flaw_of" (defArgs s_flaw_of) (defBody s_flaw_of) (defScope s_flaw_of) .none kV34 dc34 pm34 an34 cd34 ct34), sl34⟩) (c34 : PySem.W.codeIn K cd34 "flaw_of" = true) (k34 : PySem.W.keepIn K (.ref f34) = true)
    {f35 : Addr} {od35 an35 : Option Addr} {sl35 : Array (Option Value)} {oc35 kV35 dc35 pm35 cd35 ct35 : Value}
    (a35 : PySem.W.nsIn K mainGlobals "flaw" = some (some (.ref f35))) (l35 : K.lookup f35 = some ⟨oc35, od35, .func (PySem.W.fnOf "flaw" "flaw" (defArgs s_flaw) (defBody s_flaw) (defScope s_flaw) .none kV35 dc35 pm35 an35 cd35 ct35), sl35⟩) (c35 : PySem.W.codeIn K cd35 "flaw" = true) (k35 : PySem.W.keepIn K (.ref f35) = true)
    {f36 : Addr} {od36 an36 : Option Addr} {sl36 : Array (Option Value)} {oc36 kV36 dc36 pm36 cd36 ct36 : Value}
    (a36 : PySem.W.nsIn K mainGlobals "total_of" = some (some (.ref f36))) (l36 : K.lookup f36 = some ⟨oc36, od36, .func (PySem.W.fnOf "total_of" "total_of" (defArgs s_total_of) (defBody s_total_of) (defScope s_total_of) .none kV36 dc36 pm36 an36 cd36 ct36), sl36⟩) (c36 : PySem.W.codeIn K cd36 "total_of" = true) (k36 : PySem.W.keepIn K (.ref f36) = true)
    {f37 : Addr} {od37 an37 : Option Addr} {sl37 : Array (Option Value)} {oc37 kV37 dc37 pm37 cd37 ct37 : Value}
    (a37 : PySem.W.nsIn K mainGlobals "takings_of" = some (some (.ref f37))) (l37 : K.lookup f37 = some ⟨oc37, od37, .func (PySem.W.fnOf "takings_of" "takings_of" (defArgs s_takings_of) (defBody s_takings_of) (defScope s_takings_of) .none kV37 dc37 pm37 an37 cd37 ct37), sl37⟩) (c37 : PySem.W.codeIn K cd37 "takings_of" = true) (k37 : PySem.W.keepIn K (.ref f37) = true)
    {f38 : Addr} {od38 an38 : Option Addr} {sl38 : Array (Option Value)} {oc38 kV38 dc38 pm38 cd38 ct38 : Value}
    (a38 : PySem.W.nsIn K mainGlobals "takings" = some (some (.ref f38))) (l38 : K.lookup f38 = some ⟨oc38, od38, .func (PySem.W.fnOf "takings" "takings" (defArgs s_takings) (defBody s_takings) (defScope s_takings) .none kV38 dc38 pm38 an38 cd38 ct38), sl38⟩) (c38 : PySem.W.codeIn K cd38 "takings" = true) (k38 : PySem.W.keepIn K (.ref f38) = true)
    {f39 : Addr} {od39 an39 : Option Addr} {sl39 : Array (Option Value)} {oc39 kV39 dc39 pm39 cd39 ct39 : Value}
    (a39 : PySem.W.nsIn K mainGlobals "_law_refused" = some (some (.ref f39))) (l39 : K.lookup f39 = some ⟨oc39, od39, .func (PySem.W.fnOf "_law_refused" "_law_refused" (defArgs s__law_refused) (defBody s__law_refused) (defScope s__law_refused) .none kV39 dc39 pm39 an39 cd39 ct39), sl39⟩) (c39 : PySem.W.codeIn K cd39 "_law_refused" = true) (k39 : PySem.W.keepIn K (.ref f39) = true)
    {f40 : Addr} {od40 an40 : Option Addr} {sl40 : Array (Option Value)} {oc40 kV40 dc40 pm40 cd40 ct40 : Value}
    (a40 : PySem.W.nsIn K mainGlobals "law" = some (some (.ref f40))) (l40 : K.lookup f40 = some ⟨oc40, od40, .func (PySem.W.fnOf "law" "law" (defArgs s_law) (defBody s_law) (defScope s_law) .none kV40 dc40 pm40 an40 cd40 ct40), sl40⟩) (c40 : PySem.W.codeIn K cd40 "law" = true) (k40 : PySem.W.keepIn K (.ref f40) = true)
    (z_abs : PySem.W.nsIn K mainGlobals "abs" = some none)
    (z_all : PySem.W.nsIn K mainGlobals "all" = some none)
    (z_any : PySem.W.nsIn K mainGlobals "any" = some none)
    (z_bool : PySem.W.nsIn K mainGlobals "bool" = some none)
    (z_enumerate : PySem.W.nsIn K mainGlobals "enumerate" = some none)
    (z_int : PySem.W.nsIn K mainGlobals "int" = some none)
    (z_isinstance : PySem.W.nsIn K mainGlobals "isinstance" = some none)
    (z_len : PySem.W.nsIn K mainGlobals "len" = some none)
    (z_list : PySem.W.nsIn K mainGlobals "list" = some none)
    (z_range : PySem.W.nsIn K mainGlobals "range" = some none)
    (z_reversed : PySem.W.nsIn K mainGlobals "reversed" = some none)
    (z_sorted : PySem.W.nsIn K mainGlobals "sorted" = some none)
    (z_sum : PySem.W.nsIn K mainGlobals "sum" = some none)
    (z_tuple : PySem.W.nsIn K mainGlobals "tuple" = some none)
    {t_MOST : Tok} (g_MOST : PySem.W.nsIn K mainGlobals "MOST" = some (some (.int 1000000000 t_MOST)))
    {t_MOST_BUYERS : Tok} (g_MOST_BUYERS : PySem.W.nsIn K mainGlobals "MOST_BUYERS" = some (some (.int 4 t_MOST_BUYERS)))
    {t_MOST_THINGS : Tok} (g_MOST_THINGS : PySem.W.nsIn K mainGlobals "MOST_THINGS" = some (some (.int 3 t_MOST_THINGS)))
    {t_MOST_WORTHS : Tok} (g_MOST_WORTHS : PySem.W.nsIn K mainGlobals "MOST_WORTHS" = some (some (.int 5 t_MOST_WORTHS)))
    : ∃ fd : FuncData, (∀ (s : Shared) (v : Value), BindsTo s fd ⟨[v], []⟩ [("_law_script", v)]) ∧ ∀ base : Heap, K.In base → base.Ns mainGlobals mg → FnOk l.prog w K mg base CX0 9 fa fd ["_law_script"] (spLaw K) := by
  have e := hfa.symm.trans (PySem.W.mg_of X G a40)
  cases e
  obtain ⟨xc, hxc⟩ := xc_ex [("FloorError", c_FloorError), ("BadRule", c_BadRule), ("flaw", f35), ("takings", f38)] (show (["FloorError", "BadRule", "flaw", "takings"] : List Str).Nodup from by decide +kernel)
  have hx_FloorError : xc "FloorError" = c_FloorError := hxc ("FloorError", c_FloorError) (by simp)
  have hx_BadRule : xc "BadRule" = c_BadRule := hxc ("BadRule", c_BadRule) (by simp)
  have hx_flaw : xc "flaw" = f35 := hxc ("flaw", f35) (by simp)
  have hx_takings : xc "takings" = f38 := hxc ("takings", f38) (by simp)
  clear hxc
  subst hx_FloorError
  subst hx_BadRule
  subst hx_flaw
  subst hx_takings
  let B : Bs := ⟨K, cS, xc, false⟩
  have FI_BadRule := fun_mk (st := s_BadRule) lI_BadRule cI_BadRule kI_BadRule
  have bI_BadRule : Binds K _ P_BadRule [] := FI_BadRule.binds (ps := P_BadRule) fun _ _ _ _ _ _ us hl => match us, hl with | [_], _ => rfl
  have oX_BadRule : OexC B.K (B.xc "BadRule") := ⟨⟨_, _, _, _, _, _, _, _, _, _, _, _, _, _, _, xL_BadRule, by rfl⟩, sa_BadRule, eC_BadRule, tC_BadRule, kC_BadRule⟩
  have rX_BadRule : ∀ c ∈ csL, PySem.W.exmOne B.K (.ref (B.xc "BadRule")) (.ref (B.xc c)) = some (isA "BadRule" c) := (ca_cons (P := fun c => PySem.W.exmOne B.K (.ref (B.xc "BadRule")) (.ref (B.xc c)) = some (isA "BadRule" c)) ((exm_pair eb_BadRule ic_BadRule tc_BadRule su_BadRule_BadRule).trans (by decide +kernel)) ca_nil)
  have exm : ExmF B xsL csL := (.row rX_BadRule .nil)
  have saleF : SaleF B := ⟨⟨pgS, hdS, poS, saS⟩, ncS, nsS, haS, hnS, htS, hmS, fun T hT => by simp only [List.mem_cons, List.not_mem_nil, or_false] at hT; rcases hT with rfl | rfl | rfl | rfl | rfl | rfl | rfl <;> assumption⟩
  have F0 := fun_mk (st := s__law_taken) l0 c0 k0
  have b0 : Binds K _ P__law_taken [] := F0.binds (ps := P__law_taken) fun _ _ _ _ _ _ us hl => match us, hl with | [_, _], _ => rfl
  have F1 := fun_mk (st := s__law_buyer) l1 c1 k1
  have b1 : Binds K _ P__law_buyer [] := F1.binds (ps := P__law_buyer) fun _ _ _ _ _ _ us hl => match us, hl with | [_, _], _ => rfl
  have F2 := fun_mk (st := s__law_parts) l2 c2 k2
  have b2 : Binds K _ P__law_parts [] := F2.binds (ps := P__law_parts) fun _ _ _ _ _ _ us hl => match us, hl with | [_, _, _], _ => rfl
  have F3 := fun_mk (st := s_is_from) l3 c3 k3
  have b3 : Binds K _ P_is_from [] := F3.binds (ps := P_is_from) fun _ _ _ _ _ _ us hl => match us, hl with | [_, _, _], _ => rfl
  have F4 := fun_mk (st := s_is_pair) l4 c4 k4
  have b4 : Binds K _ P_is_pair [] := F4.binds (ps := P_is_pair) fun _ _ _ _ _ _ us hl => match us, hl with | [_], _ => rfl
  have F5 := fun_mk (st := s_is_buyer) l5 c5 k5
  have b5 : Binds K _ P_is_buyer [] := F5.binds (ps := P_is_buyer) fun _ _ _ _ _ _ us hl => match us, hl with | [_], _ => rfl
  have F6 := fun_mk (st := s_Sale) l6 c6 k6
  have b6 : Binds K _ P_Sale [] := F6.binds (ps := P_Sale) fun _ _ _ _ _ _ us hl => match us, hl with | [_, _, _], _ => rfl
  have F7 := fun_mk (st := s__law_sale) l7 c7 k7
  have b7 : Binds K _ P__law_sale [] := F7.binds (ps := P__law_sale) fun _ _ _ _ _ _ us hl => match us, hl with | [_], _ => rfl
  have F8 := fun_mk (st := s_need_sale) l8 c8 k8
  have b8 : Binds K _ P_need_sale [] := F8.binds (ps := P_need_sale) fun _ _ _ _ _ _ us hl => match us, hl with | [_], _ => rfl
  have F9 := fun_mk (st := s_common) l9 c9 k9
  have b9 : Binds K _ P_common [] := F9.binds (ps := P_common) fun _ _ _ _ _ _ us hl => match us, hl with | [_, _], _ => rfl
  have F10 := fun_mk (st := s_scaled) l10 c10 k10
  have b10 : Binds K _ P_scaled [] := F10.binds (ps := P_scaled) fun _ _ _ _ _ _ us hl => match us, hl with | [_], _ => rfl
  have F11 := fun_mk (st := s_stair) l11 c11 k11
  have b11 : Binds K _ P_stair [] := F11.binds (ps := P_stair) fun _ _ _ _ _ _ us hl => match us, hl with | [_], _ => rfl
  have F12 := fun_mk (st := s_is_less) l12 c12 k12
  have b12 : Binds K _ P_is_less [] := F12.binds (ps := P_is_less) fun _ _ _ _ _ _ us hl => match us, hl with | [_, _], _ => rfl
  have F13 := fun_mk (st := s_made) l13 c13 k13
  have b13 : Binds K _ P_made [] := F13.binds (ps := P_made) fun _ _ _ _ _ _ us hl => match us, hl with | [_, _], _ => rfl
  have F14 := fun_mk (st := s_slope) l14 c14 k14
  have b14 : Binds K _ P_slope [] := F14.binds (ps := P_slope) fun _ _ _ _ _ _ us hl => match us, hl with | [_, _], _ => rfl
  have F15 := fun_mk (st := s_is_bend) l15 c15 k15
  have b15 : Binds K _ P_is_bend [] := F15.binds (ps := P_is_bend) fun _ _ _ _ _ _ us hl => match us, hl with | [_, _, _], _ => rfl
  have F16 := fun_mk (st := s_hull) l16 c16 k16
  have b16 : Binds K _ P_hull [] := F16.binds (ps := P_hull) fun _ _ _ _ _ _ us hl => match us, hl with | [_], _ => rfl
  have F17 := fun_mk (st := s_levels_of) l17 c17 k17
  have b17 : Binds K _ P_levels_of [] := F17.binds (ps := P_levels_of) fun _ _ _ _ _ _ us hl => match us, hl with | [_], _ => rfl
  have F18 := fun_mk (st := s_level_rows) l18 c18 k18
  have b18 : Binds K _ P_level_rows [] := F18.binds (ps := P_level_rows) fun _ _ _ _ _ _ us hl => match us, hl with | [_], _ => rfl
  have F19 := fun_mk (st := s_all_places) l19 c19 k19
  have b19 : Binds K _ P_all_places [] := F19.binds (ps := P_all_places) fun _ _ _ _ _ _ us hl => match us, hl with | [_], _ => rfl
  have F20 := fun_mk (st := s_chosen) l20 c20 k20
  have b20 : Binds K _ P_chosen [] := F20.binds (ps := P_chosen) fun _ _ _ _ _ _ us hl => match us, hl with | [_, _, _], _ => rfl
  have F21 := fun_mk (st := s_price_at) l21 c21 k21
  have b21 : Binds K _ P_price_at [] := F21.binds (ps := P_price_at) fun _ _ _ _ _ _ us hl => match us, hl with | [_, _, _, _], _ => rfl
  have F22 := fun_mk (st := s_sold_at) l22 c22 k22
  have b22 : Binds K _ P_sold_at [] := F22.binds (ps := P_sold_at) fun _ _ _ _ _ _ us hl => match us, hl with | [_, _, _], _ => rfl
  have F23 := fun_mk (st := s_bids_at) l23 c23 k23
  have b23 : Binds K _ P_bids_at [] := F23.binds (ps := P_bids_at) fun _ _ _ _ _ _ us hl => match us, hl with | [_, _], _ => rfl
  have F24 := fun_mk (st := s_rule_of) l24 c24 k24
  have b24 : Binds K _ P_rule_of [] := F24.binds (ps := P_rule_of) fun _ _ _ _ _ _ us hl => match us, hl with | [_], _ => rfl
  have F25 := fun_mk (st := s_is_row) l25 c25 k25
  have b25 : Binds K _ P_is_row [] := F25.binds (ps := P_is_row) fun _ _ _ _ _ _ us hl => match us, hl with | [_, _, _], _ => rfl
  have F26 := fun_mk (st := s_is_rule_of) l26 c26 k26
  have b26 : Binds K _ P_is_rule_of [] := F26.binds (ps := P_is_rule_of) fun _ _ _ _ _ _ us hl => match us, hl with | [_, _], _ => rfl
  have F27 := fun_mk (st := s_is_rule) l27 c27 k27
  have b27 : Binds K _ P_is_rule [] := F27.binds (ps := P_is_rule) fun _ _ _ _ _ _ us hl => match us, hl with | [_, _], _ => rfl
  have F28 := fun_mk (st := s__law_all) l28 c28 k28
  have b28 : Binds K _ P__law_all [] := F28.binds (ps := P__law_all) fun _ _ _ _ _ _ us hl => match us, hl with | [_], _ => rfl
  have F29 := fun_mk (st := s__law_bids) l29 c29 k29
  have b29 : Binds K _ P__law_bids [] := F29.binds (ps := P__law_bids) fun _ _ _ _ _ _ us hl => match us, hl with | [_, _], _ => rfl
  have F30 := fun_mk (st := s__law_is_rule) l30 c30 k30
  have b30 : Binds K _ P__law_is_rule [] := F30.binds (ps := P__law_is_rule) fun _ _ _ _ _ _ us hl => match us, hl with | [_, _], _ => rfl
  have F31 := fun_mk (st := s_need_rule) l31 c31 k31
  have b31 : Binds K _ P_need_rule [] := F31.binds (ps := P_need_rule) fun _ _ _ _ _ _ us hl => match us, hl with | [_, _], _ => rfl
  have F32 := fun_mk (st := s_gain_of) l32 c32 k32
  have b32 : Binds K _ P_gain_of [] := F32.binds (ps := P_gain_of) fun _ _ _ _ _ _ us hl => match us, hl with | [_, _, _], _ => rfl
  have F33 := fun_mk (st := s_flaw_at) l33 c33 k33
  have b33 : Binds K _ P_flaw_at [] := F33.binds (ps := P_flaw_at) fun _ _ _ _ _ _ us hl => match us, hl with | [_, _, _], _ => rfl
  have F34 := fun_mk (st := s_flaw_of) l34 c34 k34
  have b34 : Binds K _ P_flaw_of [] := F34.binds (ps := P_flaw_of) fun _ _ _ _ _ _ us hl => match us, hl with | [_, _], _ => rfl
  have F35 := fun_mk (st := s_flaw) l35 c35 k35
  have b35 : Binds K _ P_flaw [] := F35.binds (ps := P_flaw) fun _ _ _ _ _ _ us hl => match us, hl with | [_, _], _ => rfl
  have F36 := fun_mk (st := s_total_of) l36 c36 k36
  have b36 : Binds K _ P_total_of [] := F36.binds (ps := P_total_of) fun _ _ _ _ _ _ us hl => match us, hl with | [_], _ => rfl
  have F37 := fun_mk (st := s_takings_of) l37 c37 k37
  have b37 : Binds K _ P_takings_of [] := F37.binds (ps := P_takings_of) fun _ _ _ _ _ _ us hl => match us, hl with | [_, _], _ => rfl
  have F38 := fun_mk (st := s_takings) l38 c38 k38
  have b38 : Binds K _ P_takings [] := F38.binds (ps := P_takings) fun _ _ _ _ _ _ us hl => match us, hl with | [_, _], _ => rfl
  have F39 := fun_mk (st := s__law_refused) l39 c39 k39
  have b39 : Binds K _ P__law_refused [] := F39.binds (ps := P__law_refused) fun _ _ _ _ _ _ us hl => match us, hl with | [_, _, _], _ => rfl
  have F40 := fun_mk (st := s_law) l40 c40 k40
  have b40 : Binds K _ P_law [] := F40.binds (ps := P_law) fun _ _ _ _ _ _ us hl => match us, hl with | [_], _ => rfl
  let T : Tx B mg := { lit := rfl, X_BadRule := ⟨fi_BadRule, _, FI_BadRule, PySem.W.mg_of X G aC_BadRule, oX_BadRule, iI_BadRule, tI_BadRule, bI_BadRule⟩, c_BadRule := PySem.W.mg_of X G aC_BadRule, fe := ⟨PySem.W.mg_of X G aC_FloorError, spF, tyF, rdF, fcF⟩, exm := exm, gf_flaw := PySem.W.mg_of X G a35, xa_flaw := rfl, gf_takings := PySem.W.mg_of X G a38, xa_takings := rfl, D__law_taken := ⟨f0, _, F0, PySem.W.mg_of X G a0, k0, b0⟩, D__law_buyer := ⟨f1, _, F1, PySem.W.mg_of X G a1, k1, b1⟩, D__law_parts := ⟨f2, _, F2, PySem.W.mg_of X G a2, k2, b2⟩, D_is_from := ⟨f3, _, F3, PySem.W.mg_of X G a3, k3, b3⟩, D_is_pair := ⟨f4, _, F4, PySem.W.mg_of X G a4, k4, b4⟩, D_is_buyer := ⟨f5, _, F5, PySem.W.mg_of X G a5, k5, b5⟩, f_Sale := f6, d_Sale := _, F_Sale := F6, m_Sale := PySem.W.mg_of X G aS, mk_Sale := ⟨mkS, a6, i6, kcS⟩, sale := saleF, b_Sale := b6, D__law_sale := ⟨f7, _, F7, PySem.W.mg_of X G a7, k7, b7⟩, D_need_sale := ⟨f8, _, F8, PySem.W.mg_of X G a8, k8, b8⟩, D_common := ⟨f9, _, F9, PySem.W.mg_of X G a9, k9, b9⟩, D_scaled := ⟨f10, _, F10, PySem.W.mg_of X G a10, k10, b10⟩, D_stair := ⟨f11, _, F11, PySem.W.mg_of X G a11, k11, b11⟩, D_is_less := ⟨f12, _, F12, PySem.W.mg_of X G a12, k12, b12⟩, D_made := ⟨f13, _, F13, PySem.W.mg_of X G a13, k13, b13⟩, D_slope := ⟨f14, _, F14, PySem.W.mg_of X G a14, k14, b14⟩, D_is_bend := ⟨f15, _, F15, PySem.W.mg_of X G a15, k15, b15⟩, D_hull := ⟨f16, _, F16, PySem.W.mg_of X G a16, k16, b16⟩, D_levels_of := ⟨f17, _, F17, PySem.W.mg_of X G a17, k17, b17⟩, D_level_rows := ⟨f18, _, F18, PySem.W.mg_of X G a18, k18, b18⟩, D_all_places := ⟨f19, _, F19, PySem.W.mg_of X G a19, k19, b19⟩, D_chosen := ⟨f20, _, F20, PySem.W.mg_of X G a20, k20, b20⟩, D_price_at := ⟨f21, _, F21, PySem.W.mg_of X G a21, k21, b21⟩, D_sold_at := ⟨f22, _, F22, PySem.W.mg_of X G a22, k22, b22⟩, D_bids_at := ⟨f23, _, F23, PySem.W.mg_of X G a23, k23, b23⟩, D_rule_of := ⟨f24, _, F24, PySem.W.mg_of X G a24, k24, b24⟩, D_is_row := ⟨f25, _, F25, PySem.W.mg_of X G a25, k25, b25⟩, D_is_rule_of := ⟨f26, _, F26, PySem.W.mg_of X G a26, k26, b26⟩, D_is_rule := ⟨f27, _, F27, PySem.W.mg_of X G a27, k27, b27⟩, D__law_all := ⟨f28, _, F28, PySem.W.mg_of X G a28, k28, b28⟩, D__law_bids := ⟨f29, _, F29, PySem.W.mg_of X G a29, k29, b29⟩, D__law_is_rule := ⟨f30, _, F30, PySem.W.mg_of X G a30, k30, b30⟩, D_need_rule := ⟨f31, _, F31, PySem.W.mg_of X G a31, k31, b31⟩, D_gain_of := ⟨f32, _, F32, PySem.W.mg_of X G a32, k32, b32⟩, D_flaw_at := ⟨f33, _, F33, PySem.W.mg_of X G a33, k33, b33⟩, D_flaw_of := ⟨f34, _, F34, PySem.W.mg_of X G a34, k34, b34⟩, D_flaw := ⟨_, _, F35, PySem.W.mg_of X G a35, k35, b35⟩, D_total_of := ⟨f36, _, F36, PySem.W.mg_of X G a36, k36, b36⟩, D_takings_of := ⟨f37, _, F37, PySem.W.mg_of X G a37, k37, b37⟩, D_takings := ⟨_, _, F38, PySem.W.mg_of X G a38, k38, b38⟩, D__law_refused := ⟨f39, _, F39, PySem.W.mg_of X G a39, k39, b39⟩, D_law := ⟨fa, _, F40, PySem.W.mg_of X G a40, k40, b40⟩, n_abs := PySem.W.mg_none_of X G z_abs, n_all := PySem.W.mg_none_of X G z_all, n_any := PySem.W.mg_none_of X G z_any, n_bool := PySem.W.mg_none_of X G z_bool, n_enumerate := PySem.W.mg_none_of X G z_enumerate, n_int := PySem.W.mg_none_of X G z_int, n_isinstance := PySem.W.mg_none_of X G z_isinstance, n_len := PySem.W.mg_none_of X G z_len, n_list := PySem.W.mg_none_of X G z_list, n_range := PySem.W.mg_none_of X G z_range, n_reversed := PySem.W.mg_none_of X G z_reversed, n_sorted := PySem.W.mg_none_of X G z_sorted, n_sum := PySem.W.mg_none_of X G z_sum, n_tuple := PySem.W.mg_none_of X G z_tuple, t_MOST := t_MOST, m_MOST := PySem.W.mg_of X G g_MOST, t_MOST_BUYERS := t_MOST_BUYERS, m_MOST_BUYERS := PySem.W.mg_of X G g_MOST_BUYERS, t_MOST_THINGS := t_MOST_THINGS, m_MOST_THINGS := PySem.W.mg_of X G g_MOST_THINGS, t_MOST_WORTHS := t_MOST_WORTHS, m_MOST_WORTHS := PySem.W.mg_of X G g_MOST_WORTHS }
  exact ⟨_, fun s v => .of_eq rfl, fun base _ _ => ok_law (B := B) T hl⟩
end LW
open PySem PySem.W PyProof.Rows
set_option maxHeartbeats 0 in
theorem PySem.Challenge.cw_floorprices_k05_rules_checked_holds : PySem.Challenge.rw_floorprices_k05_rules_checked.Holds := by
  w_on; o_law; k_head; (case hw => w_witness2)
  k_fill
  refine L2.walk_of (l := PySem.Challenge.rw_floorprices_k05_rules_checked) (n := 63) (k := 9) (x := "_law_script") (CX := fun _ => L2.CX0) (sp := fun w => PV.spLaw _) rfl (by decide) rfl ⟨rfl, by decide, by decide⟩ (fun w h Y => PySem.W.kIn_of Y) ?F (fun _ _ a ns hl hO hS => ⟨a, ns, rfl, hS, hO, hl, fun _ => rfl⟩) (fun _ _ _ _ _ h => h)
  case F =>
    intro w mg fa h KX G hmg
    refine' LW.all_mk LW.law_true KX G hmg ?aS ?pgS ?hdS ?poS ?saS ?mkS ?kcS ?ncS ?nsS ?haS ?hnS ?htS ?hmS ?ty0S ?ty1S ?ty2S ?ty3S ?ty4S ?ty5S ?ty6S ?aC_FloorError ?aC_BadRule ?spF ?tyF ?rdF ?fcF ?xL_BadRule ?sa_BadRule ?kC_BadRule ?eC_BadRule ?tC_BadRule ?iI_BadRule ?tI_BadRule ?lI_BadRule ?cI_BadRule ?kI_BadRule ?eb_BadRule ?ic_BadRule ?tc_BadRule ?su_BadRule_BadRule ?a0 ?l0 ?c0 ?k0 ?a1 ?l1 ?c1 ?k1 ?a2 ?l2 ?c2 ?k2 ?a3 ?l3 ?c3 ?k3 ?a4 ?l4 ?c4 ?k4 ?a5 ?l5 ?c5 ?k5 ?a6 ?i6 ?l6 ?c6 ?k6 ?a7 ?l7 ?c7 ?k7 ?a8 ?l8 ?c8 ?k8 ?a9 ?l9 ?c9 ?k9 ?a10 ?l10 ?c10 ?k10 ?a11 ?l11 ?c11 ?k11 ?a12 ?l12 ?c12 ?k12 ?a13 ?l13 ?c13 ?k13 ?a14 ?l14 ?c14 ?k14 ?a15 ?l15 ?c15 ?k15 ?a16 ?l16 ?c16 ?k16 ?a17 ?l17 ?c17 ?k17 ?a18 ?l18 ?c18 ?k18 ?a19 ?l19 ?c19 ?k19 ?a20 ?l20 ?c20 ?k20 ?a21 ?l21 ?c21 ?k21 ?a22 ?l22 ?c22 ?k22 ?a23 ?l23 ?c23 ?k23 ?a24 ?l24 ?c24 ?k24 ?a25 ?l25 ?c25 ?k25 ?a26 ?l26 ?c26 ?k26 ?a27 ?l27 ?c27 ?k27 ?a28 ?l28 ?c28 ?k28 ?a29 ?l29 ?c29 ?k29 ?a30 ?l30 ?c30 ?k30 ?a31 ?l31 ?c31 ?k31 ?a32 ?l32 ?c32 ?k32 ?a33 ?l33 ?c33 ?k33 ?a34 ?l34 ?c34 ?k34 ?a35 ?l35 ?c35 ?k35 ?a36 ?l36 ?c36 ?k36 ?a37 ?l37 ?c37 ?k37 ?a38 ?l38 ?c38 ?k38 ?a39 ?l39 ?c39 ?k39 ?a40 ?l40 ?c40 ?k40 ?z_abs ?z_all ?z_any ?z_bool ?z_enumerate ?z_int ?z_isinstance ?z_len ?z_list ?z_range ?z_reversed ?z_sorted ?z_sum ?z_tuple ?g_MOST ?g_MOST_BUYERS ?g_MOST_THINGS ?g_MOST_WORTHS
    (case aS => k_is); (case pgS => k_is); (case hdS => k_is); (case poS => k_is); (case saS => k_is); (case mkS => k_is); (case kcS => k_is); (case ncS => k_is); (case nsS => k_is); (case haS => k_is); (case hnS => k_is); (case htS => k_is); (case hmS => k_is); (case ty0S => kit_is); (case ty1S => kit_is); (case ty2S => kit_is); (case ty3S => kit_is); (case ty4S => kit_is); (case ty5S => kit_is); (case ty6S => kit_is); (case aC_FloorError => k_is); (case aC_BadRule => k_is); (case spF => k_is); (case tyF => k_is); (case rdF => k_is); (case fcF => k_is); (case xL_BadRule => k_is); (case sa_BadRule => k_is); (case kC_BadRule => k_is); (case eC_BadRule => k_is); (case tC_BadRule => k_is); (case iI_BadRule => k_is); (case tI_BadRule => k_is); (case lI_BadRule => k_is); (case cI_BadRule => k_is); (case kI_BadRule => k_is); (case eb_BadRule => k_is); (case ic_BadRule => k_is); (case tc_BadRule => k_is); (case su_BadRule_BadRule => (first | rfl | k_is)); (case a0 => k_is); (case l0 => k_is); (case c0 => k_is); (case k0 => k_is); (case a1 => k_is); (case l1 => k_is); (case c1 => k_is); (case k1 => k_is); (case a2 => k_is); (case l2 => k_is); (case c2 => k_is); (case k2 => k_is); (case a3 => k_is); (case l3 => k_is); (case c3 => k_is); (case k3 => k_is); (case a4 => k_is); (case l4 => k_is); (case c4 => k_is); (case k4 => k_is); (case a5 => k_is); (case l5 => k_is); (case c5 => k_is); (case k5 => k_is); (case a6 => k_is); (case i6 => k_is); (case l6 => k_is); (case c6 => k_is); (case k6 => k_is); (case a7 => k_is); (case l7 => k_is); (case c7 => k_is); (case k7 => k_is); (case a8 => k_is); (case l8 => k_is); (case c8 => k_is); (case k8 => k_is); (case a9 => k_is); (case l9 => k_is); (case c9 => k_is); (case k9 => k_is); (case a10 => k_is); (case l10 => k_is); (case c10 => k_is); (case k10 => k_is); (case a11 => k_is); (case l11 => k_is); (case c11 => k_is); (case k11 => k_is); (case a12 => k_is); (case l12 => k_is); (case c12 => k_is); (case k12 => k_is); (case a13 => k_is); (case l13 => k_is); (case c13 => k_is); (case k13 => k_is); (case a14 => k_is); (case l14 => k_is); (case c14 => k_is); (case k14 => k_is); (case a15 => k_is); (case l15 => k_is); (case c15 => k_is); (case k15 => k_is); (case a16 => k_is); (case l16 => k_is); (case c16 => k_is); (case k16 => k_is); (case a17 => k_is); (case l17 => k_is); (case c17 => k_is); (case k17 => k_is); (case a18 => k_is); (case l18 => k_is); (case c18 => k_is); (case k18 => k_is); (case a19 => k_is); (case l19 => k_is); (case c19 => k_is); (case k19 => k_is); (case a20 => k_is); (case l20 => k_is); (case c20 => k_is); (case k20 => k_is); (case a21 => k_is); (case l21 => k_is); (case c21 => k_is); (case k21 => k_is); (case a22 => k_is); (case l22 => k_is); (case c22 => k_is); (case k22 => k_is); (case a23 => k_is); (case l23 => k_is); (case c23 => k_is); (case k23 => k_is); (case a24 => k_is); (case l24 => k_is); (case c24 => k_is); (case k24 => k_is); (case a25 => k_is); (case l25 => k_is); (case c25 => k_is); (case k25 => k_is); (case a26 => k_is); (case l26 => k_is); (case c26 => k_is); (case k26 => k_is); (case a27 => k_is); (case l27 => k_is); (case c27 => k_is); (case k27 => k_is); (case a28 => k_is); (case l28 => k_is); (case c28 => k_is); (case k28 => k_is); (case a29 => k_is); (case l29 => k_is); (case c29 => k_is); (case k29 => k_is); (case a30 => k_is); (case l30 => k_is); (case c30 => k_is); (case k30 => k_is); (case a31 => k_is); (case l31 => k_is); (case c31 => k_is); (case k31 => k_is); (case a32 => k_is); (case l32 => k_is); (case c32 => k_is); (case k32 => k_is); (case a33 => k_is); (case l33 => k_is); (case c33 => k_is); (case k33 => k_is); (case a34 => k_is); (case l34 => k_is); (case c34 => k_is); (case k34 => k_is); (case a35 => k_is); (case l35 => k_is); (case c35 => k_is); (case k35 => k_is); (case a36 => k_is); (case l36 => k_is); (case c36 => k_is); (case k36 => k_is); (case a37 => k_is); (case l37 => k_is); (case c37 => k_is); (case k37 => k_is); (case a38 => k_is); (case l38 => k_is); (case c38 => k_is); (case k38 => k_is); (case a39 => k_is); (case l39 => k_is); (case c39 => k_is); (case k39 => k_is); (case a40 => k_is); (case l40 => k_is); (case c40 => k_is); (case k40 => k_is); (case z_abs => k_is); (case z_all => k_is); (case z_any => k_is); (case z_bool => k_is); (case z_enumerate => k_is); (case z_int => k_is); (case z_isinstance => k_is); (case z_len => k_is); (case z_list => k_is); (case z_range => k_is); (case z_reversed => k_is); (case z_sorted => k_is); (case z_sum => k_is); (case z_tuple => k_is); (case g_MOST => k_is); (case g_MOST_BUYERS => k_is); (case g_MOST_THINGS => k_is); (case g_MOST_WORTHS => k_is)

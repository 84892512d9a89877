import PyProof.Rows.All
import Wide.All
import OpenK.AllK
import Wide.FinOn
import PySem.Challenge.RW_floorprices_k18_texts_refused
import HandS.ForMost
import HandS.ForExc
import HandS.Walk
import HandS.Evl
import HandS.TupAny
import HandS.TupMul
import HandS.Style
import HandS.Wide
import HandS.Zip
import HandS.Rev
import HandS.IsInst
import HandS.SortInts
import HandS.SortRule
import HandS.Strs
import KE.KTupSum
import KE.GoesEnum
import KE.GoesMore
import HandS.SetFor
import KE.GoesNew
import HandS.ExcInit
import HandS.TryMany
import HandS.ExcField
import HandS.Star
import HandS.Conv
import HandS.Iter
import HandS.Dict
import HandS.Spec
import PyProof.DictRoadsH
import HandS.DictComp
import HandS.Property
import HandS.OwnEq
import HandS.Text
import HandS.FStr
import HandS.Flow
import PyProof.StrOps2
import KE.KStateDown
import HandS.Base
import HandS.Call
import HandS.Exc
import HandS.Head0
import HandS.Head1
import HandS.Head2
import HandS.HeadEnd
import HandS.HeadHook1
set_option Elab.async false
set_option linter.all false
set_option maxRecDepth 100000
set_option maxHeartbeats 4000000
/-! PV: Python data as plain values; readings of the hand layer as functions over them. -/
namespace PV
open PySem L2

inductive D where
  | non
  | bl (b : Bool)
  | int (i : Int)
  | str (x : Str)
  | tup (ds : List D)
  | lst (ds : List D)
  | dic (ks : List Str) (ds : List D)
  | sal (c n : D)
  | row
  | obj (a : Addr)
  | fn (x : Str)
  | dct (ks : List (List Int)) (ds : List D)
instance : Inhabited D := ⟨.non⟩

/-- the state of the draws -/
structure S where
  ns : List Int
  pos : Nat
  mix : Int
  rest : Int

structure Err where
  cls : Str
  val : List D

inductive Out (α : Type) where
  | stuck
  | ok (a : α) (s : S)
  | err (e : Err) (s : S)

abbrev M (α : Type) := S → Out α
def Out.bind {α β : Type} : Out α → (α → S → Out β) → Out β
  | .stuck, _ => .stuck
  | .ok a s, k => k a s
  | .err e s, _ => .err e s
@[simp] theorem bind_ok {α β : Type} {a : α} {s : S} {k : α → S → Out β} : (Out.ok a s).bind k = k a s := rfl
@[simp] theorem bind_err {α β : Type} {e : Err} {s : S} {k : α → S → Out β} : (Out.err e s).bind k = .err e s := rfl
@[simp] theorem bind_stuck {α β : Type} {k : α → S → Out β} : (Out.stuck : Out α).bind k = .stuck := rfl
def Out.post {α : Type} (P : α → S → Prop) (R : Err → S → Prop) : Out α → Prop
  | .stuck => False
  | .ok a s => P a s
  | .err e s => R e s
theorem post_bind {α β : Type} {o : Out α} {k : α → S → Out β} {P : β → S → Prop} {R : Err → S → Prop} (h : (o.bind k).post P R) : o.post (fun a s => (k a s).post P R) R := by
  cases o with
  | stuck => exact h
  | ok a s => exact h
  | err e s => exact h
theorem post_mono {α : Type} {o : Out α} {P P' : α → S → Prop} {R R' : Err → S → Prop} (h : o.post P R) (hp : ∀ a s, P a s → P' a s) (hr : ∀ e s, R e s → R' e s) : o.post P' R' := by
  cases o with
  | stuck => exact h
  | ok a s => exact hp a s h
  | err e s => exact hr e s h

/-- the written part, and the class of sales -/
structure Bs where
  K : PySem.W.Frag
  cs : Addr
  xc : Str → Addr
  lit : Bool := true
  dx : Addr → List (List Key × Addr × Value) → Heap → Prop := fun _ _ _ => True

def hid (H : Hp) (O : List Addr) : Hp := fun a => if a ∈ O then none else H a
theorem hid_in {H : Hp} {O : List Addr} {a : Addr} (h : a ∈ O) : hid H O a = none := if_pos h
theorem hid_out {H : Hp} {O : List Addr} {a : Addr} (h : a ∉ O) : hid H O a = H a := if_neg h
theorem hid_some {H : Hp} {O : List Addr} {a : Addr} {o : HO} (h : hid H O a = some o) : a ∉ O ∧ H a = some o := by
  by_cases q : a ∈ O
  · rw [hid_in q] at h; cases h
  · rw [hid_out q] at h; exact ⟨q, h⟩
theorem hid_le {H : Hp} {O : List Addr} : Same (hid H O) H := fun a o h => (hid_some h).2
theorem hid_sub {H : Hp} {O O' : List Addr} (h : ∀ a ∈ O, a ∈ O') : Same (hid H O') (hid H O) := fun a o e => by
  have ⟨h1, h2⟩ := hid_some e
  rw [hid_out fun z => h1 (h a z)]; exact h2
theorem hid_upd {H : Hp} {O : List Addr} {p : Addr} {o : HO} (h : p ∈ O) : hid (upd H p o) O = hid H O := by
  funext a
  by_cases q : a ∈ O
  · rw [hid_in q, hid_in q]
  · rw [hid_out q, hid_out q, upd_ne (fun e => q (by rw [e]; exact h))]

/-! ### what stands for what -/
/-- a tuple: tracked, or (where the law lets it) one of the written part -/
def TuA (B : Bs) (H : Hp) (a : Addr) (vs : List V) : Prop := H a = some (.tup vs) ∨ (B.lit = true ∧ SqT B.K H a vs)
theorem TuA.of {B : Bs} {H : Hp} {a : Addr} {vs : List V} (h : H a = some (.tup vs)) : TuA B H a vs := .inl h
theorem TuA.sq {B : Bs} {H : Hp} {a : Addr} {vs : List V} (h : TuA B H a vs) : SqT B.K H a vs := h.elim SqT.of (·.2)
theorem TuA.same {B : Bs} {H H' : Hp} {a : Addr} {vs : List V} (e : Same H H') (h : TuA B H a vs) : TuA B H' a vs := h.elim (fun z => .inl (e _ _ z)) (fun z => .inr ⟨z.1, Evl.ex_t e z.2⟩)
def kI (ks : List Int) : List Key := ks.map Sum.inl
mutual
inductive Rep (B : Bs) (r : Addr) (H : Hp) : V → D → Prop
  | non : Rep B r H .non .non
  | bl (b : Bool) : Rep B r H (.bl b) (.bl b)
  | int (i : Int) : Rep B r H (.int i) (.int i)
  | str (x : Str) : Rep B r H (.str x) (.str x)
  | tup {a : Addr} {vs : List V} {ds : List D} : TuA B H a vs → Reps B r H vs ds → Rep B r H (.ref a) (.tup ds)
  | lst {a : Addr} {vs : List V} {ds : List D} : H a = some (.lst vs) → Reps B r H vs ds → Rep B r H (.ref a) (.lst ds)
  | dic {a : Addr} {kvs : List (Key × V)} {vs : List V} {ks : List Str} {ds : List D} : H a = some (.dK kvs) → kvs = (ks.map Sum.inr).zip vs → ks.length = vs.length → Reps B r H vs ds → Rep B r H (.ref a) (.dic ks ds)
  | sal {a dx : Addr} {vc vn : V} {c n : D} : H a = some (.ins B.cs dx [("crowd", vc), ("stock", vn)]) → Rep B r H vc c → Rep B r H vn n → Rep B r H (.ref a) (.sal c n)
  | row : Rep B r H (.ref r) .row
  | obj (a : Addr) : Rep B r H (.ref a) (.obj a)
  | fn (x : Str) : Rep B r H (.ref (B.xc x)) (.fn x)
  | dct {a : Addr} {xs : List (List Key × Addr × Value)} {vs : List V} {ks : List (List Int)} {ds : List D} : H a = some (.ext (B.dx a xs)) → xs.map (·.1) = ks.map kI → (∀ q ∈ xs, SqT B.K H q.2.1 (q.1.map kV)) → Vals vs (xs.map (·.2.2)) → Reps B r H vs ds → Rep B r H (.ref a) (.dct ks ds)
inductive Reps (B : Bs) (r : Addr) (H : Hp) : List V → List D → Prop
  | nil : Reps B r H [] []
  | cons {v : V} {d : D} {vs : List V} {ds : List D} : Rep B r H v d → Reps B r H vs ds → Reps B r H (v :: vs) (d :: ds)
end

theorem same_t {K : PySem.W.Frag} {H H' : Hp} {a : Addr} {xs : List V} (e : Same H H') (h : SqT K H a xs) : SqT K H' a xs := Evl.ex_t e h
mutual
theorem Rep.mono {B : Bs} {r : Addr} {H H' : Hp} (e : Same H H') : ∀ {v : V} {d : D}, Rep B r H v d → Rep B r H' v d
  | _, _, .non => .non
  | _, _, .bl b => .bl b
  | _, _, .int i => .int i
  | _, _, .str x => .str x
  | _, _, .tup h hs => .tup (h.same e) (Reps.mono e hs)
  | _, _, .lst h hs => .lst (e _ _ h) (Reps.mono e hs)
  | _, _, .dic h hk hl hs => .dic (e _ _ h) hk hl (Reps.mono e hs)
  | _, _, .sal h h1 h2 => .sal (e _ _ h) (Rep.mono e h1) (Rep.mono e h2)
  | _, _, .row => .row
  | _, _, .obj a => .obj a
  | _, _, .fn x => .fn x
  | _, _, .dct h hk hq hl hs => .dct (e _ _ h) hk (fun q hx => same_t e (hq q hx)) hl (Reps.mono e hs)
theorem Reps.mono {B : Bs} {r : Addr} {H H' : Hp} (e : Same H H') : ∀ {vs : List V} {ds : List D}, Reps B r H vs ds → Reps B r H' vs ds
  | _, _, .nil => .nil
  | _, _, .cons h hs => .cons (Rep.mono e h) (Reps.mono e hs)
end
section
variable {B : Bs} {r : Addr} {H : Hp}
theorem Reps.length : ∀ {vs : List V} {ds : List D}, Reps B r H vs ds → vs.length = ds.length
  | _, _, .nil => rfl
  | _, _, .cons _ hs => by rw [List.length_cons, List.length_cons, Reps.length hs]
theorem Reps.get : ∀ {vs : List V} {ds : List D}, Reps B r H vs ds → ∀ (i : Nat) (d : D), ds[i]? = some d → ∃ v, vs[i]? = some v ∧ Rep B r H v d
  | _, _, .nil, i, d, h => by simp at h
  | _, _, .cons h hs, 0, d, e => by
    cases (Option.some.inj e : _ = d)
    exact ⟨_, rfl, h⟩
  | _, _, .cons h hs, i + 1, d, e => by
    obtain ⟨v, h1, h2⟩ := Reps.get hs i d (by simpa using e)
    exact ⟨v, by simpa using h1, h2⟩
theorem Reps.get' : ∀ {vs : List V} {ds : List D}, Reps B r H vs ds → ∀ (i : Nat) (v : V), vs[i]? = some v → ∃ d, ds[i]? = some d ∧ Rep B r H v d
  | _, _, .nil, i, d, h => by simp at h
  | _, _, .cons h hs, 0, d, e => by
    cases (Option.some.inj e : _ = d)
    exact ⟨_, rfl, h⟩
  | _, _, .cons h hs, i + 1, d, e => by
    obtain ⟨v, h1, h2⟩ := Reps.get' hs i d (by simpa using e)
    exact ⟨v, by simpa using h1, h2⟩
theorem Reps.append : ∀ {vs ws : List V} {ds es : List D}, Reps B r H vs ds → Reps B r H ws es → Reps B r H (vs ++ ws) (ds ++ es)
  | _, _, _, _, .nil, q => q
  | _, _, _, _, .cons h hs, q => .cons h (Reps.append hs q)
theorem Reps.take : ∀ {vs : List V} {ds : List D} (n : Nat), Reps B r H vs ds → Reps B r H (vs.take n) (ds.take n)
  | _, _, 0, _ => by simpa using Reps.nil
  | _, _, n + 1, .nil => .nil
  | _, _, n + 1, .cons h hs => .cons h (Reps.take n hs)
theorem Reps.drop : ∀ {vs : List V} {ds : List D} (n : Nat), Reps B r H vs ds → Reps B r H (vs.drop n) (ds.drop n)
  | _, _, 0, h => h
  | _, _, n + 1, .nil => .nil
  | _, _, n + 1, .cons h hs => Reps.drop n hs
theorem Reps.reverse : ∀ {vs : List V} {ds : List D}, Reps B r H vs ds → Reps B r H vs.reverse ds.reverse
  | _, _, .nil => .nil
  | _, _, .cons h hs => by
    rw [List.reverse_cons, List.reverse_cons]
    exact (Reps.reverse hs).append (.cons h .nil)
theorem Reps.set : ∀ {vs : List V} {ds : List D} {v : V} {d : D} (n : Nat), Reps B r H vs ds → Rep B r H v d → Reps B r H (vs.set n v) (ds.set n d)
  | _, _, _, _, _, .nil, _ => .nil
  | _, _, _, _, 0, .cons h hs, q => .cons q hs
  | _, _, _, _, n + 1, .cons h hs, q => .cons h (Reps.set n hs q)
theorem Reps.rep {v : V} {d : D} (h : Rep B r H v d) : ∀ n, Reps B r H (List.replicate n v) (List.replicate n d)
  | 0 => .nil
  | n + 1 => .cons h (Reps.rep h n)
theorem Reps.flat {vs : List V} {ds : List D} (h : Reps B r H vs ds) : ∀ n, Reps B r H (List.replicate n vs).flatten (List.replicate n ds).flatten
  | 0 => .nil
  | n + 1 => by
    rw [List.replicate_succ, List.replicate_succ, List.flatten_cons, List.flatten_cons]
    exact h.append (Reps.flat h n)
theorem Reps.ints {ns : List Int} : ∀ {vs : List V}, Reps B r H vs (ns.map D.int) → vs = ns.map V.int := by
  induction ns with
  | nil => intro vs h; cases h; rfl
  | cons n ns ih => intro vs h; cases h with | cons h hs => cases h; rw [ih hs]; rfl
theorem Reps.of_ints : ∀ (ns : List Int), Reps B r H (ns.map V.int) (ns.map D.int)
  | [] => .nil
  | n :: ns => .cons (.int n) (Reps.of_ints ns)
theorem Reps.bls {bs : List Bool} : ∀ {vs : List V}, Reps B r H vs (bs.map D.bl) → vs = bs.map V.bl := by
  induction bs with
  | nil => intro vs h; cases h; rfl
  | cons n ns ih => intro vs h; cases h with | cons h hs => cases h; rw [ih hs]; rfl
end

/-! ### the state of a def -/
abbrev En := List (Option D)
def Scr (K : PySem.W.Frag) (H : Hp) (sa : Addr) (xs : List V) : Prop := (∃ o, H sa = some (.frz o (.lst xs))) ∨ ∀ H', SqL K H' sa xs
theorem Scr.sq {K : PySem.W.Frag} {H : Hp} {sa : Addr} {xs : List V} (h : Scr K H sa xs) : SqL K H sa xs := h.elim (fun ⟨o, e⟩ => .inl (.inr ⟨o, e⟩)) (fun z => z H)
def RowAt (B : Bs) (r sa : Addr) (H : Hp) (s : S) : Prop := H r = some (.lst [.ref sa, .int (s.pos : Int), .int s.mix, .int s.rest]) ∧ Scr B.K H sa (s.ns.map V.int)
/-- all but the row stands as it did -/
def Stp (r : Addr) (H H' : Hp) : Prop := ∀ a o, a ≠ r → H a = some o → H' a = some o
theorem Stp.refl {r : Addr} (H : Hp) : Stp r H H := fun _ _ _ h => h
theorem Stp.trans {r : Addr} {H H1 H2 : Hp} (a : Stp r H H1) (b : Stp r H1 H2) : Stp r H H2 := fun x o n h => b x o n (a x o n h)
theorem Stp.of {r : Addr} {H H' : Hp} (e : Same H H') : Stp r H H' := fun a o _ h => e a o h
theorem Stp.hid {r : Addr} {H H' : Hp} {O : List Addr} (e : Stp r H H') (hr : r ∈ O) : Same (hid H O) (hid H' O) := fun a o h => by
  have ⟨h1, h2⟩ := hid_some h
  rw [hid_out h1]
  exact e a o (fun z => h1 (z ▸ hr)) h2
theorem Stp.new {r : Addr} {H : Hp} {p : Addr} {o : HO} (h : H p = none) : Stp r H (upd H p o) := fun a u _ e => by
  rw [upd_ne (ne_of_none e h)]; exact e
theorem RowAt.same {B : Bs} {r sa : Addr} {H H' : Hp} {s : S} (e : Same H H') (h : RowAt B r sa H s) : RowAt B r sa H' s := ⟨e _ _ h.1, h.2.elim (fun ⟨o, q⟩ => .inl ⟨o, e _ _ q⟩) .inr⟩
theorem RowAt.new {B : Bs} {r sa : Addr} {H : Hp} {s : S} {p : Addr} {o : HO} (h : RowAt B r sa H s) (n : H p = none) : RowAt B r sa (upd H p o) s := h.same fun a u e => by
  rw [upd_ne (ne_of_none e n)]; exact e

structure Gd (B : Bs) (r sa : Addr) (H0 : Hp) (O0 : List Addr) (W : List Nat) (O : List Addr) (σ : St) (δ : En) (s : S) (H : Hp) : Prop where
  len : σ.length = δ.length
  row : RowAt B r sa H s
  r0 : r ∈ O0
  dom : ∀ p ∈ O, H p ≠ none
  dom0 : ∀ p ∈ O0, H0 p ≠ none
  sub : ∀ p ∈ O0, p ∈ O
  frsh : ∀ p ∈ O, p ∈ O0 ∨ H0 p = none
  stp : Stp r H0 H
  val : ∀ i d, i ∉ W → δ[i]? = some (some d) → ∃ v, σ[i]? = some (some v) ∧ Rep B r (hid H O) v d
  own : ∀ i d, i ∈ W → δ[i]? = some (some d) → ∃ p vs ds, d = .lst ds ∧ σ[i]? = some (some (.ref p)) ∧ p ∈ O ∧ p ∉ O0 ∧ H p = some (.lst vs) ∧ Reps B r (hid H O) vs ds
  inj : ∀ i j p d e, i ∈ W → j ∈ W → i ≠ j → δ[i]? = some (some d) → δ[j]? = some (some e) → σ[i]? = some (some (.ref p)) → σ[j]? = some (some (.ref p)) → False
section
variable {B : Bs} {r sa : Addr} {H0 : Hp} {O0 : List Addr} {W : List Nat} {O : List Addr} {σ : St} {δ : En} {s s' : S} {H H' : Hp}
theorem Gd.rO (g : Gd B r sa H0 O0 W O σ δ s H) : r ∈ O := g.sub r g.r0
/-- behind an expression -/
theorem Gd.step (g : Gd B r sa H0 O0 W O σ δ s H) (e : Stp r H H') (hr : RowAt B r sa H' s') : Gd B r sa H0 O0 W O σ δ s' H' := by
  have sm : Same (hid H O) (hid H' O) := e.hid g.rO
  refine ⟨g.len, hr, g.r0, fun p hp => ?_, g.dom0, g.sub, g.frsh, g.stp.trans e, fun i d hi h => ?_, fun i d hi h => ?_, g.inj⟩
  · by_cases q : p = r
    · rw [q, hr.1]; exact fun z => nomatch z
    · cases h1 : H p with
      | none => exact absurd h1 (g.dom p hp)
      | some o => rw [e p o q h1]; exact fun z => nomatch z
  · obtain ⟨v, h1, h2⟩ := g.val i d hi h
    exact ⟨v, h1, h2.mono sm⟩
  · obtain ⟨p, vs, ds, h1, h2, h3, h4, h5, h6⟩ := g.own i d hi h
    exact ⟨p, vs, ds, h1, h2, h3, h4, e p _ (fun z => h4 (z ▸ g.r0)) h5, h6.mono sm⟩
/-- the slots change -/
theorem Gd.set {i : Nat} {v : V} {d : D} (g : Gd B r sa H0 O0 W O σ δ s H) (hi : i ∉ W) (h : Rep B r (hid H O) v d) : Gd B r sa H0 O0 W O (σ.set i (some v)) (δ.set i (some d)) s H := by
  refine ⟨by rw [List.length_set, List.length_set, g.len], g.row, g.r0, g.dom, g.dom0, g.sub, g.frsh, g.stp, fun j e hj q => ?_, fun j e hj q => ?_, fun j k p e e' hj hk ne q1 q2 q3 q4 => ?_⟩
  · by_cases z : i = j
    · subst z
      rw [List.getElem?_set] at q
      split at q
      · split at q
        · have q : d = e := by simpa using q
          subst q
          refine ⟨v, ?_, h⟩
          rw [List.getElem?_set_self (by rw [g.len]; assumption)]
        · cases q
      · rename_i hn; exact absurd rfl hn
    · rw [List.getElem?_set_ne z] at q ⊢
      exact g.val j e hj q
  · have z : i ≠ j := fun z => hi (z ▸ hj)
    rw [List.getElem?_set_ne z] at q ⊢
    exact g.own j e hj q
  · have z : i ≠ j := fun z => hi (z ▸ hj)
    have z' : i ≠ k := fun z => hi (z ▸ hk)
    rw [List.getElem?_set_ne z] at q1 q3
    rw [List.getElem?_set_ne z'] at q2 q4
    exact g.inj j k p e e' hj hk ne q1 q2 q3 q4
end
end PV

namespace PV
open PySem L2

/-- the fields of the errors, the last one told first -/
def xFl (c : Str) : List Str := if c = "BadBuyers" ∨ c = "BadSeen" then ["index"] else if c = "BadNumber" then ["n"] else if c = "InvalidText" then ["word", "line"] else []
def XRep (B : Bs) (r : Addr) (H : Hp) (e : Err) (cl : Value) (d : Option Addr) : Prop :=
  cl = .ref (B.xc e.cls) ∧ (e.val = [] ∨ ∃ dx fs vs, d = some dx ∧ H dx = some (.xd fs) ∧ fs = (xFl e.cls).zip vs ∧ Reps B r H vs e.val)
def EPost (B : Bs) (E : Option XK) (r sa : Addr) (H : Hp) (O : List Addr) (e : Err) (s' : S) : Prop := match E with
  | none => False
  | some E => ∀ cl d H', Stp r H H' → RowAt B r sa H' s' → XRep B r (hid H' O) e cl d → E cl d H'
theorem EPost.mono {B : Bs} {E : Option XK} {r sa : Addr} {H H1 : Hp} {O : List Addr} {e : Err} {s' : S} (st : Stp r H H1) (h : EPost B E r sa H O e s') : EPost B E r sa H1 O e s' := by
  cases E with
  | none => exact h
  | some E => exact fun cl d H' a b c => h cl d H' (st.trans a) b c
def xk : Option XK → XK | none => E0 | some E => E
abbrev OkV (B : Bs) (r sa : Addr) (H : Hp) (O : List Addr) (Q : VK) : D → S → Prop := fun d s' => ∀ v H', Stp r H H' → RowAt B r sa H' s' → Rep B r (hid H' O) v d → Q v H'
abbrev OkT (B : Bs) (r sa : Addr) (H : Hp) (Q : Bool → Hp → Prop) : Bool → S → Prop := fun b s' => ∀ H', Stp r H H' → RowAt B r sa H' s' → Q b H'
abbrev OkA (B : Bs) (r sa : Addr) (H : Hp) (O : List Addr) (Q : List V → Hp → Prop) : List D → S → Prop := fun d s' => ∀ v H', Stp r H H' → RowAt B r sa H' s' → Reps B r (hid H' O) v d → Q v H'
def RdE (B : Bs) (W : List Nat) (E : Option XK) (t : TE) (f : En → M D) : Prop :=
  ∀ {r sa : Addr} {H0 : Hp} {O0 O : List Addr} {σ : St} {δ : En} {s : S} {H : Hp}, Gd B r sa H0 O0 W O σ δ s H → ∀ Q : VK, (f δ s).post (OkV B r sa H O Q) (EPost B E r sa H O) → t σ H Q
def RdT (B : Bs) (W : List Nat) (E : Option XK) (t : TT) (f : En → M Bool) : Prop :=
  ∀ {r sa : Addr} {H0 : Hp} {O0 O : List Addr} {σ : St} {δ : En} {s : S} {H : Hp}, Gd B r sa H0 O0 W O σ δ s H → ∀ Q : Bool → Hp → Prop, (f δ s).post (OkT B r sa H Q) (EPost B E r sa H O) → t σ H Q
def RdA (B : Bs) (W : List Nat) (E : Option XK) (t : TA) (f : En → M (List D)) : Prop :=
  ∀ {r sa : Addr} {H0 : Hp} {O0 O : List Addr} {σ : St} {δ : En} {s : S} {H : Hp}, Gd B r sa H0 O0 W O σ δ s H → ∀ Q : List V → Hp → Prop, (f δ s).post (OkA B r sa H O Q) (EPost B E r sa H O) → t σ H Q

/-- of a value or none -/
def lift {α : Type} (o : Option α) (s : S) : Out α := match o with | some a => .ok a s | none => .stuck
@[simp] theorem lift_some {α : Type} (a : α) (s : S) : lift (some a) s = .ok a s := rfl
@[simp] theorem lift_none {α : Type} (s : S) : lift (none : Option α) s = .stuck := rfl
theorem post_lift {α : Type} {o : Option α} {s : S} {P : α → S → Prop} {R : Err → S → Prop} (h : (lift o s).post P R) : ∃ a, o = some a ∧ P a s := by
  cases o with
  | none => exact h.elim
  | some a => exact ⟨a, rfl, h⟩

def cVar (i : Nat) : En → M D := fun δ s => lift (δ[i]?.join) s
def cC (d : D) : En → M D := fun _ s => .ok d s
def cOp (g : D → D → Option D) (fa fb : En → M D) : En → M D := fun δ s => (fa δ s).bind fun x s1 => (fb δ s1).bind fun y s2 => lift (g x y) s2
def cUn (g : D → Option D) (fa : En → M D) : En → M D := fun δ s => (fa δ s).bind fun x s1 => lift (g x) s1
def cNil : En → M (List D) := fun _ s => .ok [] s
def cCons (fa : En → M D) (fr : En → M (List D)) : En → M (List D) := fun δ s => (fa δ s).bind fun x s1 => (fr δ s1).bind fun xs s2 => .ok (x :: xs) s2
def cB (g : List D → Option D) (fa : En → M (List D)) : En → M D := fun δ s => (fa δ s).bind fun ds s1 => lift (g ds) s1
def asB : D → Option Bool | .bl b => some b | _ => none
def cTst (f : En → M D) : En → M Bool := fun δ s => (f δ s).bind fun d s1 => lift (asB d) s1
def cAnd (fa fb : En → M Bool) : En → M Bool := fun δ s => (fa δ s).bind fun b s1 => if b then fb δ s1 else .ok false s1
def cOr (fa fb : En → M Bool) : En → M Bool := fun δ s => (fa δ s).bind fun b s1 => if b then .ok true s1 else fb δ s1
def cNot (fa : En → M Bool) : En → M Bool := fun δ s => (fa δ s).bind fun b s1 => .ok (!b) s1
def cAndV (fa fb : En → M D) : En → M D := fun δ s => (fa δ s).bind fun d s1 => (lift (asB d) s1).bind fun b s2 => if b then fb δ s2 else .ok (.bl false) s2
def cOrV (fa fb : En → M D) : En → M D := fun δ s => (fa δ s).bind fun d s1 => (lift (asB d) s1).bind fun b s2 => if b then .ok (.bl true) s2 else fb δ s2
def cNotV (fa : En → M D) : En → M D := fun δ s => (fa δ s).bind fun d s1 => (lift (asB d) s1).bind fun b s2 => .ok (.bl (!b)) s2
def cIf (c : En → M Bool) (fa fb : En → M D) : En → M D := fun δ s => (c δ s).bind fun b s1 => if b then fa δ s1 else fb δ s1
def cTup (fa : En → M (List D)) : En → M D := fun δ s => (fa δ s).bind fun ds s1 => if ds.length ≤ 100000 then .ok (.tup ds) s1 else .stuck
def cLst (fa : En → M (List D)) : En → M D := fun δ s => (fa δ s).bind fun ds s1 => if ds.length ≤ 100000 then .ok (.lst ds) s1 else .stuck
def scal : D → Bool | .non => true | .bl _ => true | .int _ => true | .str _ => true | _ => false
def calmO {α : Type} (p : α → Bool) : Out α → Out α | .ok a s => if p a then .ok a s else .stuck | _ => .stuck
theorem post_calm {α : Type} {p : α → Bool} {o : Out α} {P : α → S → Prop} {R R' : Err → S → Prop} (h : (calmO p o).post P R) : o.post (fun a s => p a = true ∧ P a s) R' := by
  cases o with
  | stuck => exact h
  | err e s => exact h.elim
  | ok a s =>
    have h : (if p a then Out.ok a s else Out.stuck).post P R := h
    cases q : p a with
    | true => rw [q] at h; exact ⟨q, h⟩
    | false => rw [q] at h; exact h.elim
def cScal (f : En → M D) : En → M D := fun δ s => calmO scal (f δ s)
def cPk (f : En → M Bool) : En → M Bool := fun δ s => calmO (fun _ => true) (f δ s)
def cChain (g g' : D → D → Option D) (fa fb fc : En → M D) : En → M D := fun δ s => (fa δ s).bind fun x s1 => (fb δ s1).bind fun y s2 => (lift (g x y) s2).bind fun z s3 => (lift (asB z) s3).bind fun b s4 => if b then (fc δ s4).bind fun w s5 => lift (g' y w) s5 else .ok (.bl false) s4

/-- operations by values -/
def OpS (B : Bs) (r2 : R2) (g : D → D → Option D) : Prop := ∀ (r : Addr) (O : List Addr) (H : Hp) (x y : V) (dx dy d : D) (Q : VK), (∀ p ∈ O, H p ≠ none) → Rep B r (hid H O) x dx → Rep B r (hid H O) y dy → g dx dy = some d →
  (∀ v H', Same H H' → Rep B r (hid H' O) v d → Q v H') → r2 x y H Q
def UnS (B : Bs) (r1 : V → Hp → VK → Prop) (g : D → Option D) : Prop := ∀ (r : Addr) (O : List Addr) (H : Hp) (x : V) (dx d : D) (Q : VK), (∀ p ∈ O, H p ≠ none) → Rep B r (hid H O) x dx → g dx = some d →
  (∀ v H', Same H H' → Rep B r (hid H' O) v d → Q v H') → r1 x H Q
def CaS (B : Bs) (rc : List V → Hp → VK → Prop) (g : List D → Option D) : Prop := ∀ (r : Addr) (O : List Addr) (H : Hp) (xs : List V) (ds : List D) (d : D) (Q : VK), (∀ p ∈ O, H p ≠ none) → Reps B r (hid H O) xs ds → g ds = some d →
  (∀ v H', Same H H' → Rep B r (hid H' O) v d → Q v H') → rc xs H Q

section
variable {B : Bs} {W : List Nat} {E : Option XK} {ta tb tc te : TE} {tA tB' : TT} {tr : TA} {fa fb fc : En → M D} {ba bb : En → M Bool} {fr : En → M (List D)} {r2 r2' : R2} {g g' : D → D → Option D}

theorem rd_var {i : Nat} (hi : decide (i ∉ W) = true := by rfl) : RdE B W E (tVar i) (cVar i) := by
  intro r sa H0 O0 O σ δ s H gd Q h
  obtain ⟨d, e, h⟩ := post_lift h
  obtain ⟨v, h1, h2⟩ := gd.val i d (of_decide_eq_true hi) (by
    cases q : δ[i]? with
    | none => rw [q] at e; cases e
    | some o => rw [q] at e; cases o with
      | none => cases e
      | some d' => cases (Option.some.inj e : d' = d); rfl)
  exact ⟨v, h1, h v H (Stp.refl H) gd.row h2⟩
theorem rd_c {v : V} {d : D} (hv : ∀ r H, Rep B r H v d) : RdE B W E (tC v) (cC d) := by
  intro r sa H0 O0 O σ δ s H gd Q h
  exact h v H (Stp.refl H) gd.row (hv r _)
theorem rd_int {i : Int} : RdE B W E (tC (.int i)) (cC (.int i)) := rd_c fun _ _ => .int i
theorem rd_bl {b : Bool} : RdE B W E (tC (.bl b)) (cC (.bl b)) := rd_c fun _ _ => .bl b
theorem rd_non : RdE B W E (tC .non) (cC .non) := rd_c fun _ _ => .non
theorem rd_str {x : Str} : RdE B W E (tC (.str x)) (cC (.str x)) := rd_c fun _ _ => .str x

theorem rd_op (ho : OpS B r2 g) (ha : RdE B W E ta fa) (hb : RdE B W E tb fb) : RdE B W E (tOp r2 ta tb) (cOp g fa fb) := by
  intro r sa H0 O0 O σ δ s H gd Q h
  refine ha gd _ (post_mono (post_bind h) (fun x s1 hx v H1 st ra rp => ?_) (fun _ _ z => z))
  refine hb (gd.step st ra) _ (post_mono (post_bind hx) (fun y s2 hy w H2 st2 ra2 rp2 => ?_) (fun _ _ z => z.mono st))
  obtain ⟨d, e, hd⟩ := post_lift hy
  have gd2 := (gd.step st ra).step st2 ra2
  refine ho r O H2 v w x y d Q gd2.dom (rp.mono (st2.hid gd.rO)) rp2 e fun u H3 sm rp3 => hd u H3 ((st.trans st2).trans (Stp.of sm)) (ra2.same sm) rp3
theorem rd_un {r1 : V → Hp → VK → Prop} {g : D → Option D} (ho : UnS B r1 g) (ha : RdE B W E ta fa) : RdE B W E (tUn r1 ta) (cUn g fa) := by
  intro r sa H0 O0 O σ δ s H gd Q h
  refine ha gd _ (post_mono (post_bind h) (fun x s1 hx v H1 st ra rp => ?_) (fun _ _ z => z))
  obtain ⟨d, e, hd⟩ := post_lift hx
  refine ho r O H1 v x d Q (gd.step st ra).dom rp e fun u H3 sm rp3 => hd u H3 (st.trans (Stp.of sm)) (ra.same sm) rp3
theorem rd_nil : RdA B W E tNil cNil := by
  intro r sa H0 O0 O σ δ s H gd Q h
  exact h [] H (Stp.refl H) gd.row .nil
theorem rd_cons (ha : RdE B W E ta fa) (hb : RdA B W E tr fr) : RdA B W E (tCons ta tr) (cCons fa fr) := by
  intro r sa H0 O0 O σ δ s H gd Q h
  refine ha gd _ (post_mono (post_bind h) (fun x s1 hx v H1 st ra rp => ?_) (fun _ _ z => z))
  refine hb (gd.step st ra) _ (post_mono (post_bind hx) (fun y s2 hy w H2 st2 ra2 rp2 => ?_) (fun _ _ z => z.mono st))
  exact hy _ _ (st.trans st2) ra2 (.cons (rp.mono (st2.hid gd.rO)) rp2)
theorem rd_b {rc : List V → Hp → VK → Prop} {g : List D → Option D} (ho : CaS B rc g) (ha : RdA B W E tr fr) : RdE B W E (tCB rc tr) (cB g fr) := by
  intro r sa H0 O0 O σ δ s H gd Q h
  refine ha gd _ (post_mono (post_bind h) (fun x s1 hx v H1 st ra rp => ?_) (fun _ _ z => z))
  obtain ⟨d, e, hd⟩ := post_lift hx
  refine ho r O H1 v x d Q (gd.step st ra).dom rp e fun u H3 sm rp3 => hd u H3 (st.trans (Stp.of sm)) (ra.same sm) rp3
theorem rep_bl {r : Addr} {H : Hp} {v : V} {d : D} {b : Bool} (h : Rep B r H v d) (e : asB d = some b) : v = .bl b ∧ d = .bl b := by
  cases d <;> simp [asB] at e
  subst e
  cases h; exact ⟨rfl, rfl⟩
theorem rt_b (ha : RdE B W E ta fa) : RdT B W E (tB ta) (cTst fa) := by
  intro r sa H0 O0 O σ δ s H gd Q h
  refine ha gd _ (post_mono (post_bind h) (fun x s1 hx v H1 st ra rp => ?_) (fun _ _ z => z))
  obtain ⟨b, e, hd⟩ := post_lift hx
  exact ⟨b, (rep_bl rp e).1, hd H1 st ra⟩
theorem rt_and (ha : RdT B W E tA ba) (hb : RdT B W E tB' bb) : RdT B W E (tAnd tA tB') (cAnd ba bb) := by
  intro r sa H0 O0 O σ δ s H gd Q h
  refine ha gd _ (post_mono (post_bind h) (fun b s1 hx H1 st ra => ?_) (fun _ _ z => z))
  cases b with
  | true => exact hb (gd.step st ra) Q (post_mono hx (fun c s2 q H2 st2 ra2 => q H2 (st.trans st2) ra2) (fun _ _ z => z.mono st))
  | false => exact hx H1 st ra
theorem rt_or (ha : RdT B W E tA ba) (hb : RdT B W E tB' bb) : RdT B W E (tOr tA tB') (cOr ba bb) := by
  intro r sa H0 O0 O σ δ s H gd Q h
  refine ha gd _ (post_mono (post_bind h) (fun b s1 hx H1 st ra => ?_) (fun _ _ z => z))
  cases b with
  | false => exact hb (gd.step st ra) Q (post_mono hx (fun c s2 q H2 st2 ra2 => q H2 (st.trans st2) ra2) (fun _ _ z => z.mono st))
  | true => exact hx H1 st ra
theorem rt_not (ha : RdT B W E tA ba) : RdT B W E (tNot tA) (cNot ba) := by
  intro r sa H0 O0 O σ δ s H gd Q h
  refine ha gd _ (post_mono (post_bind h) (fun b s1 hx H1 st ra => ?_) (fun _ _ z => z))
  exact hx H1 st ra
theorem rd_andV (ha : RdE B W E ta fa) (hb : RdE B W E tb fb) : RdE B W E (tAndV ta tb) (cAndV fa fb) := by
  intro r sa H0 O0 O σ δ s H gd Q h
  refine ha gd _ (post_mono (post_bind h) (fun x s1 hx v H1 st ra rp => ?_) (fun _ _ z => z))
  obtain ⟨b, e, hd⟩ := post_lift (post_bind hx)
  refine ⟨b, (rep_bl rp e).1, ?_⟩
  cases b with
  | true => exact hb (gd.step st ra) Q (post_mono hd (fun c s2 q w H2 st2 ra2 => q w H2 (st.trans st2) ra2) (fun _ _ z => z.mono st))
  | false => exact hd _ H1 st ra (.bl false)
theorem rd_orV (ha : RdE B W E ta fa) (hb : RdE B W E tb fb) : RdE B W E (tOrV ta tb) (cOrV fa fb) := by
  intro r sa H0 O0 O σ δ s H gd Q h
  refine ha gd _ (post_mono (post_bind h) (fun x s1 hx v H1 st ra rp => ?_) (fun _ _ z => z))
  obtain ⟨b, e, hd⟩ := post_lift (post_bind hx)
  refine ⟨b, (rep_bl rp e).1, ?_⟩
  cases b with
  | false => exact hb (gd.step st ra) Q (post_mono hd (fun c s2 q w H2 st2 ra2 => q w H2 (st.trans st2) ra2) (fun _ _ z => z.mono st))
  | true => exact hd _ H1 st ra (.bl true)
theorem rd_notV (ha : RdE B W E ta fa) : RdE B W E (tNotV ta) (cNotV fa) := by
  intro r sa H0 O0 O σ δ s H gd Q h
  refine ha gd _ (post_mono (post_bind h) (fun x s1 hx v H1 st ra rp => ?_) (fun _ _ z => z))
  obtain ⟨b, e, hd⟩ := post_lift (post_bind hx)
  exact ⟨b, (rep_bl rp e).1, hd _ H1 st ra (.bl _)⟩
theorem rd_if (hc : RdT B W E tA ba) (ha : RdE B W E ta fa) (hb : RdE B W E tb fb) : RdE B W E (tIf tA ta tb) (cIf ba fa fb) := by
  intro r sa H0 O0 O σ δ s H gd Q h
  refine hc gd _ (post_mono (post_bind h) (fun b s1 hx H1 st ra => ?_) (fun _ _ z => z))
  cases b with
  | true => exact ha (gd.step st ra) Q (post_mono hx (fun c s2 q w H2 st2 ra2 => q w H2 (st.trans st2) ra2) (fun _ _ z => z.mono st))
  | false => exact hb (gd.step st ra) Q (post_mono hx (fun c s2 q w H2 st2 ra2 => q w H2 (st.trans st2) ra2) (fun _ _ z => z.mono st))
/-- a new object is seen -/
theorem same_new {H : Hp} {p : Addr} {o : HO} (h : H p = none) : Same H (upd H p o) := fun b x e => by
  rw [upd_ne (ne_of_none e h)]; exact e
theorem hid_new {H : Hp} {O : List Addr} {p : Addr} {o : HO} (h : H p = none) (hd : ∀ q ∈ O, H q ≠ none) : Same (hid H O) (hid (upd H p o) O) ∧ hid (upd H p o) O p = some o := by
  have hp : p ∉ O := fun z => hd p z h
  refine ⟨fun a u e => ?_, by rw [hid_out hp, upd_same]⟩
  have ⟨h1, h2⟩ := hid_some e
  rw [hid_out h1, upd_ne (ne_of_none h2 h)]; exact h2
theorem hid_same {H H' : Hp} {O : List Addr} (e : Same H H') : Same (hid H O) (hid H' O) := fun a o q => by
  have ⟨h1, h2⟩ := hid_some q
  rw [hid_out h1]; exact e a o h2
theorem rd_tup (ha : RdA B W E tr fr) : RdE B W E (tTup tr) (cTup fr) := by
  intro r sa H0 O0 O σ δ s H gd Q h
  refine ha gd _ (post_mono (post_bind h) (fun x s1 hx v H1 st ra rp => ?_) (fun _ _ z => z))
  split at hx
  · rename_i hl
    refine ⟨Evl.sz_of (by rw [rp.length]; exact hl), fun p hp => ?_⟩
    have ⟨a1, a2⟩ := hid_new (O := O) (o := .tup v) hp (gd.step st ra).dom
    exact hx _ _ (st.trans (Stp.new hp)) (ra.new hp) (.tup (TuA.of a2) (rp.mono a1))
  · exact hx.elim
theorem rd_lst (ha : RdA B W E tr fr) : RdE B W E (tLst tr) (cLst fr) := by
  intro r sa H0 O0 O σ δ s H gd Q h
  refine ha gd _ (post_mono (post_bind h) (fun x s1 hx v H1 st ra rp => ?_) (fun _ _ z => z))
  split at hx
  · rename_i hl
    refine ⟨Evl.sz_of (by rw [rp.length]; exact hl), fun p hp => ?_⟩
    have ⟨a1, a2⟩ := hid_new (O := O) (o := .lst v) hp (gd.step st ra).dom
    exact hx _ _ (st.trans (Stp.new hp)) (ra.new hp) (.lst a2 (rp.mono a1))
  · exact hx.elim
theorem rd_chain (ho : OpS B r2 g) (ho' : OpS B r2' g') (ha : RdE B W E ta fa) (hb : RdE B W E tb fb) (hc : RdE B W E tc fc) : RdE B W E (tChain r2 r2' ta tb tc) (cChain g g' fa fb fc) := by
  intro r sa H0 O0 O σ δ s H gd Q h
  refine ha gd _ (post_mono (post_bind h) (fun x s1 hx v H1 st ra rp => ?_) (fun _ _ z => z))
  refine hb (gd.step st ra) _ (post_mono (post_bind hx) (fun y s2 hy w H2 st2 ra2 rp2 => ?_) (fun _ _ z => z.mono st))
  obtain ⟨d, e, hd⟩ := post_lift (post_bind hy)
  have gd2 := (gd.step st ra).step st2 ra2
  refine ho r O H2 v w x y d _ gd2.dom (rp.mono (st2.hid gd.rO)) rp2 e fun u H3 sm rp3 => ?_
  obtain ⟨b, e2, hd⟩ := post_lift (post_bind hd)
  refine ⟨b, (rep_bl rp3 e2).1, ?_⟩
  have st3 : Stp r H H3 := (st.trans st2).trans (Stp.of sm)
  have gd3 := gd.step st3 (ra2.same sm)
  cases b with
  | false => exact hd _ H3 st3 gd3.row (.bl false)
  | true =>
    refine hc gd3 _ (post_mono (post_bind hd) (fun z s4 hz q H4 st4 ra4 rp4 => ?_) (fun _ _ z => z.mono st3))
    obtain ⟨d', e', hd'⟩ := post_lift hz
    have gd4 := gd3.step st4 ra4
    refine ho' r O H4 w q y z d' Q gd4.dom (rp2.mono ((hid_same sm).trans (st4.hid gd.rO))) rp4 e' fun u H5 sm5 rp5 => hd' u H5 (st3.trans (st4.trans (Stp.of sm5))) (ra4.same sm5) rp5
/-- a slot that is owned is looked at: what comes out is a scalar -/
theorem Gd.peek {r sa : Addr} {H0 : Hp} {O0 O : List Addr} {σ : St} {δ : En} {s : S} {H : Hp} {i : Nat} (gd : Gd B r sa H0 O0 W O σ δ s H) : ∃ O', Gd B r sa H0 O0 (W.filter (· != i)) O' σ δ s H ∧ (∀ a ∈ O', a ∈ O) := by
  by_cases hi : i ∈ W
  · cases e : δ[i]?.join with
    | none =>
      refine ⟨O, ⟨gd.len, gd.row, gd.r0, gd.dom, gd.dom0, gd.sub, gd.frsh, gd.stp, fun j d hj q => ?_, fun j d hj q => gd.own j d (List.mem_filter.mp hj).1 q, fun j k p d e' hj hk => gd.inj j k p d e' (List.mem_filter.mp hj).1 (List.mem_filter.mp hk).1⟩, fun _ h => h⟩
      by_cases hjW : j ∈ W
      · have : j = i := by
          by_cases z : j = i
          · exact z
          · exact absurd (List.mem_filter.mpr ⟨hjW, by simp [z]⟩) hj
        subst this
        rw [q] at e; cases e
      · exact gd.val j d hjW q
    | some d0 =>
      have e0 : δ[i]? = some (some d0) := by
        cases q : δ[i]? with
        | none => rw [q] at e; cases e
        | some o => rw [q] at e; cases o with
          | none => cases e
          | some d' => cases (Option.some.inj e : d' = d0); rfl
      obtain ⟨p, vs, ds, h1, h2, h3, h4, h5, h6⟩ := gd.own i d0 hi e0
      have hsub : ∀ a ∈ O.filter (· != p), a ∈ O := fun a h => (List.mem_filter.mp h).1
      have sm : Same (hid H O) (hid H (O.filter (· != p))) := hid_sub hsub
      have pn : p ∉ O.filter (· != p) := fun z => by have := (List.mem_filter.mp z).2; simp at this
      refine ⟨O.filter (· != p), ⟨gd.len, gd.row, gd.r0, fun q hq => gd.dom q (hsub q hq), gd.dom0, fun q hq => List.mem_filter.mpr ⟨gd.sub q hq, ?_⟩, fun q hq => gd.frsh q (hsub q hq), gd.stp, fun j d hj q => ?_, fun j d hj q => ?_, fun j k p d e' hj hk => gd.inj j k p d e' (List.mem_filter.mp hj).1 (List.mem_filter.mp hk).1⟩, hsub⟩
      · have : q ≠ p := fun z => h4 (z ▸ hq)
        simp [this]
      · by_cases hjW : j ∈ W
        · have : j = i := by
            by_cases z : j = i
            · exact z
            · exact absurd (List.mem_filter.mpr ⟨hjW, by simp [z]⟩) hj
          subst this
          rw [e0] at q
          cases q
          subst h1
          exact ⟨_, h2, .lst (by rw [hid_out pn]; exact h5) (h6.mono sm)⟩
        · obtain ⟨v, q1, q2⟩ := gd.val j d hjW q
          exact ⟨v, q1, q2.mono sm⟩
      · obtain ⟨p', vs', ds', q1, q2, q3, q4, q5, q6⟩ := gd.own j d (List.mem_filter.mp hj).1 q
        have hne : p' ≠ p := fun z => by
          have nj : i ≠ j := fun z => by have := (List.mem_filter.mp hj).2; simp [z] at this
          exact gd.inj i j p d0 d hi (List.mem_filter.mp hj).1 nj e0 q h2 (z ▸ q2)
        exact ⟨p', vs', ds', q1, q2, List.mem_filter.mpr ⟨q3, by simp [hne]⟩, q4, q5, q6.mono sm⟩
  · refine ⟨O, ?_, fun _ h => h⟩
    have e : W.filter (· != i) = W := by
      refine List.filter_eq_self.mpr fun a ha => ?_
      have : a ≠ i := fun z => hi (z ▸ ha)
      simp [this]
    rw [e]; exact gd
theorem XRep.mono {r : Addr} {H H' : Hp} {e : Err} {cl : Value} {d : Option Addr} (sm : Same H H') (h : XRep B r H e cl d) : XRep B r H' e cl d := by
  refine ⟨h.1, ?_⟩
  rcases h.2 with h | ⟨dx, fs, vs, h1, h2, h3, h4⟩
  · exact .inl h
  · exact .inr ⟨dx, fs, vs, h1, sm _ _ h2, h3, h4.mono sm⟩
theorem rep_scal {r : Addr} {H H' : Hp} {v : V} {d : D} (h : Rep B r H v d) (hs : scal d = true) : Rep B r H' v d := by
  cases h <;> first | (cases hs; done) | (constructor; done)
theorem rd_peek {i : Nat} {W' : List Nat} (hW : W.filter (· != i) = W') (h : RdE B W' E te fa) : RdE B W E te (cScal fa) := by
  intro r sa H0 O0 O σ δ s H gd Q hp
  obtain ⟨O', gd', sub⟩ := gd.peek (i := i)
  rw [hW] at gd'
  exact h gd' _ (post_mono (post_calm (R' := EPost B E r sa H O') hp) (fun x s1 hx v H1 st ra rp => hx.2 v H1 st ra (rep_scal rp hx.1)) (fun _ _ z => z))
theorem rt_peek {i : Nat} {W' : List Nat} (hW : W.filter (· != i) = W') (h : RdT B W' E tA ba) : RdT B W E tA (cPk ba) := by
  intro r sa H0 O0 O σ δ s H gd Q hp
  obtain ⟨O', gd', sub⟩ := gd.peek (i := i)
  rw [hW] at gd'
  exact h gd' _ (post_mono (post_calm (R' := EPost B E r sa H O') hp) (fun x s1 hx H1 st ra => hx.2 H1 st ra) (fun _ _ z => z))
end
end PV

namespace PV
open PySem L2
section
variable {B : Bs} {r : Addr} {H : Hp} {v : V}
theorem Rep.inv_int {i : Int} (h : Rep B r H v (.int i)) : v = .int i := by cases h; rfl
theorem Rep.inv_bl {b : Bool} (h : Rep B r H v (.bl b)) : v = .bl b := by cases h; rfl
theorem Rep.inv_str {x : Str} (h : Rep B r H v (.str x)) : v = .str x := by cases h; rfl
theorem Rep.inv_non (h : Rep B r H v .non) : v = .non := by cases h; rfl
theorem Rep.inv_tup {ds : List D} (h : Rep B r H v (.tup ds)) : ∃ a vs, v = .ref a ∧ SqT B.K H a vs ∧ Reps B r H vs ds := by cases h with | tup h hs => exact ⟨_, _, rfl, h.sq, hs⟩
theorem Rep.inv_tupA {ds : List D} (h : Rep B r H v (.tup ds)) : ∃ a vs, v = .ref a ∧ TuA B H a vs ∧ Reps B r H vs ds := by cases h with | tup h hs => exact ⟨_, _, rfl, h, hs⟩
theorem Rep.inv_lst {ds : List D} (h : Rep B r H v (.lst ds)) : ∃ a vs, v = .ref a ∧ H a = some (.lst vs) ∧ Reps B r H vs ds := by cases h with | lst h hs => exact ⟨_, _, rfl, h, hs⟩
theorem sqT_le {K : PySem.W.Frag} {H : Hp} {O : List Addr} {a : Addr} {xs : List V} (h : SqT K (hid H O) a xs) : SqT K H a xs := same_t hid_le h
theorem new_tup {H : Hp} {O : List Addr} {p : Addr} {vs : List V} {ds : List D} (hp : H p = none) (hd : ∀ q ∈ O, H q ≠ none) (h : Reps B r (hid H O) vs ds) : Rep B r (hid (upd H p (.tup vs)) O) (.ref p) (.tup ds) := by
  have ⟨a1, a2⟩ := hid_new (O := O) (o := .tup vs) hp hd
  exact .tup (TuA.of a2) (h.mono a1)
theorem new_lst {H : Hp} {O : List Addr} {p : Addr} {vs : List V} {ds : List D} (hp : H p = none) (hd : ∀ q ∈ O, H q ≠ none) (h : Reps B r (hid H O) vs ds) : Rep B r (hid (upd H p (.lst vs)) O) (.ref p) (.lst ds) := by
  have ⟨a1, a2⟩ := hid_new (O := O) (o := .lst vs) hp hd
  exact .lst a2 (h.mono a1)
end

/-! ### arithmetic -/
def gAdd : D → D → Option D
  | .int i, .int j => some (.int (i + j))
  | .lst xs, .lst ys => if xs.length + ys.length ≤ 100000 then some (.lst (xs ++ ys)) else none
  | .tup xs, .tup ys => if xs.length + ys.length ≤ 100000 then some (.tup (xs ++ ys)) else none
  | .str x, .str y => if x.length + y.length ≤ 100000 then some (.str (x ++ y)) else none
  | _, _ => none
def rAddS' : R2 := fun x y H Q => ∃ i j, x = .str i ∧ y = .str j ∧ i.length + j.length ≤ sizeLine ∧ Q (.str (i ++ j)) H
def rAddU (K : PySem.W.Frag) : R2 := fun x y H Q => rI0 (fun i j => .int (i + j)) x y H Q ∨ (rCat x y H Q ∨ (rCatA K x y H Q ∨ rAddS' x y H Q))
theorem op_addU {X : Cx} : OpR X (binaryOp .Add) (rAddU X.K) := OpR.or op_add (OpR.or op_cat (OpR.or op_catA op_add_str))
theorem os_add {B : Bs} : OpS B (rAddU B.K) gAdd := by
  intro r O H x y dx dy d Q hd rx ry e q
  unfold gAdd at e
  split at e
  · cases e; cases rx; cases ry
    exact .inl ⟨_, _, rfl, rfl, q _ H (Same.refl H) (.int _)⟩
  · split at e
    · rename_i hl
      cases e
      obtain ⟨a, vs, rfl, ha, hs⟩ := rx.inv_lst
      obtain ⟨b, ws, rfl, hb, ht⟩ := ry.inv_lst
      refine .inr (.inl ⟨a, b, vs, ws, rfl, rfl, hid_le _ _ ha, hid_le _ _ hb, Evl.sz_of (by rw [hs.length, ht.length]; exact hl), fun p hp => ?_⟩)
      exact q _ _ (same_new hp) (new_lst hp hd (hs.append ht))
    · cases e
  · split at e
    · rename_i hl
      cases e
      obtain ⟨a, vs, rfl, ha, hs⟩ := rx.inv_tup
      obtain ⟨b, ws, rfl, hb, ht⟩ := ry.inv_tup
      refine .inr (.inr (.inl ⟨a, b, vs, ws, rfl, rfl, sqT_le ha, sqT_le hb, Evl.sz_of (by rw [hs.length, ht.length]; exact hl), fun e => ?_, fun _ e => ?_, fun _ _ p hp => ?_⟩))
      · subst e
        cases hs
        exact q _ H (Same.refl H) ry
      · subst e
        cases ht
        rw [List.append_nil] at q
        exact q _ H (Same.refl H) rx
      · exact q _ _ (same_new hp) (new_tup hp hd (hs.append ht))
    · cases e
  · split at e
    · rename_i hl
      cases e; cases rx; cases ry
      exact .inr (.inr (.inr ⟨_, _, rfl, rfl, Evl.sz_of hl, q _ H (Same.refl H) (.str _)⟩))
    · cases e
  · cases e
def gI (f : Int → Int → D) : D → D → Option D
  | .int i, .int j => some (f i j)
  | _, _ => none
def gIc (c : Int → Int → Bool) (f : Int → Int → D) : D → D → Option D
  | .int i, .int j => if c i j then some (f i j) else none
  | _, _ => none
theorem os_i0 {B : Bs} {g : Int → Int → V} {f : Int → Int → D} (h : ∀ i j r H, Rep B r H (g i j) (f i j)) : OpS B (rI0 g) (gI f) := by
  intro r O H x y dx dy d Q hd rx ry e q
  unfold gI at e
  split at e
  · cases e; cases rx; cases ry
    exact ⟨_, _, rfl, rfl, q _ H (Same.refl H) (h _ _ _ _)⟩
  · cases e
theorem os_ic {B : Bs} {C : Int → Int → Prop} {c : Int → Int → Bool} {g : Int → Int → V} {f : Int → Int → D} (hc : ∀ i j, c i j = true → C i j) (h : ∀ i j r H, Rep B r H (g i j) (f i j)) : OpS B (rI C g) (gIc c f) := by
  intro r O H x y dx dy d Q hd rx ry e q
  unfold gIc at e
  split at e
  · split at e
    · rename_i z
      cases e; cases rx; cases ry
      exact ⟨_, _, rfl, rfl, hc _ _ z, q _ H (Same.refl H) (h _ _ _ _)⟩
    · cases e
  · cases e
def gDif := gI fun i j => .int (i - j)
theorem os_dif {B : Bs} : OpS B (rI0 fun i j => .int (i - j)) gDif := os_i0 fun _ _ _ _ => .int _
def okMul (i j : Int) : Bool := decide (i.natAbs.log2 + j.natAbs.log2 < 1000000)
def okDiv (i j : Int) : Bool := decide (0 < j ∧ j.natAbs.log2 < 9000)
def okMod (i j : Int) : Bool := decide (0 < j)
def okPow (i j : Int) : Bool := decide (0 ≤ j ∧ j ≤ 1000000 ∧ i.natAbs < 2 ^ 64)
def gFdiv := gIc okDiv fun i j => .int (i / j)
theorem os_fdiv {B : Bs} : OpS B (rI CDivW fun i j => .int (i / j)) gFdiv := os_ic (fun i j h => show 0 < j ∧ j.natAbs.log2 < 9000 from of_decide_eq_true h) fun _ _ _ _ => .int _
def gMod := gIc okMod fun i j => .int (i % j)
theorem os_mod {B : Bs} : OpS B (rI (fun _ j => 0 < j) fun i j => .int (i % j)) gMod := os_ic (fun _ _ h => of_decide_eq_true h) fun _ _ _ _ => .int _
def gPow := gIc okPow fun i j => .int (i ^ j.toNat)
theorem os_pow {B : Bs} : OpS B (rI CPow fun i j => .int (i ^ j.toNat)) gPow := os_ic (fun i j h => show 0 ≤ j ∧ j ≤ 1000000 ∧ i.natAbs < 2 ^ 64 from of_decide_eq_true h) fun _ _ _ _ => .int _
def gLt := gI fun i j => .bl (decide (i < j))
theorem os_lt {B : Bs} : OpS B (rI0 fun i j => .bl (decide (i < j))) gLt := os_i0 fun _ _ _ _ => .bl _
def gLe := gI fun i j => .bl (decide (i ≤ j))
theorem os_le {B : Bs} : OpS B (rI0 fun i j => .bl (decide (i ≤ j))) gLe := os_i0 fun _ _ _ _ => .bl _
def gGt := gI fun i j => .bl (decide (j < i))
theorem os_gt {B : Bs} : OpS B (rI0 fun i j => .bl (decide (j < i))) gGt := os_i0 fun _ _ _ _ => .bl _
def gGe := gI fun i j => .bl (decide (j ≤ i))
theorem os_ge {B : Bs} : OpS B (rI0 fun i j => .bl (decide (j ≤ i))) gGe := os_i0 fun _ _ _ _ => .bl _
/-- * : two ints, a list and an int, a tuple and an int above 1 -/
def gMul : D → D → Option D
  | .int i, .int j => if okMul i j then some (.int (i * j)) else none
  | .lst xs, .int k => if k ≤ 100000 ∧ -100000 ≤ k ∧ xs.length * k.toNat ≤ 100000 then some (.lst (List.replicate k.toNat xs).flatten) else none
  | .tup xs, .int k => if xs ≠ [] ∧ 1 ≤ k ∧ k ≤ 1000 ∧ xs.length ≤ 1000 then some (.tup (List.replicate k.toNat xs).flatten) else none
  | _, _ => none
instance {α : Type} (xs : List α) : Decidable (xs ≠ []) := match xs with | [] => isFalse (fun h => h rfl) | _ :: _ => isTrue (by simp)
section
open PySem.Spec PyProof.Rows
theorem tuple_mul1 (l : Addr) (items : Array Value) (n : Nat) (sl : Array (Option Value)) (dd : Option Addr) (u : Tok) :
    Meets (Builtin.«tuple.__mul__» ⟨[.ref l, .int 1 u], []⟩) (fun _ R s => s.heap.get? l = some { cls := .type "tuple", dict := dd, data := .seq items n, slots := sl } ∧ R (.ok (.ret (Value.ref l))) s) :=
  .of_wp fun prog w A R s h => by
    obtain ⟨hp, g, d, tk, os⟩ := s
    obtain ⟨hl, h⟩ := h
    have f1 := AutoSeq1.idx_int
    wp_walk using wpAny_loadPart' hl
    exact ⟨_, rfl, h⟩
def rRepT1 (K : PySem.W.Frag) : R2 := fun x y H Q => ∃ l xs, x = .ref l ∧ y = .int 1 ∧ SqT K H l xs ∧ Q (.ref l) H
theorem op_repT1 {X : Cx} : OpR X (binaryOp .Mult) (rRepT1 X.K) := by
  intro pins s σ H x y v u Q I rx ry h
  obtain ⟨l, xs, rfl, rfl, hT, q⟩ := h
  cases rx
  obtain ⟨t, rfl⟩ := ry
  obtain ⟨its, r, ⟨⟨cls, dd, data, sl⟩, ho, hc, n, hd⟩, hs⟩ := I.tuple hT
  simp only at hc hd
  subst hc hd
  exact wpAny_binaryOp_repeat_ref (T := "tuple") (U := "int") (by decide) ⟨_, ho, rfl⟩ (fun s' => typeIs_int s' 1 t) noFill_tuple_mul F.fills_int_mul F.slot_int_rmul repeat_tuple F.slot_int_index.lookup
    (call_meets F.slot_int_rmul (typeIs_int s 1 t) F.entry_int_rmul (F.args_int_rmul_2 _ _) (int_rmul_tuple 1 t l its.toArray n dd sl)
      ⟨ho, rfl, ⟨_, ho, rfl⟩, call_meets F.slot_tuple_mul ⟨_, ho, rfl⟩ F.entry_tuple_mul (F.args_tuple_mul_2 _ _) (tuple_mul1 l its.toArray n sl dd t) ⟨ho, ⟨.ref l, H, I, rfl, q⟩⟩⟩)
end
def rMulU (K : PySem.W.Frag) : R2 := fun x y H Q => rI CMulW (fun i j => .int (i * j)) x y H Q ∨ (rRep x y H Q ∨ (rRepT K x y H Q ∨ rRepT1 K x y H Q))
theorem op_mulU {X : Cx} : OpR X (binaryOp .Mult) (rMulU X.K) := OpR.or op_mulW (OpR.or op_rep (OpR.or op_repT op_repT1))
theorem os_mul {B : Bs} : OpS B (rMulU B.K) gMul := by
  intro r O H x y dx dy d Q hd rx ry e q
  unfold gMul at e
  split at e
  · split at e
    · rename_i z
      cases e; cases rx; cases ry
      exact .inl ⟨_, _, rfl, rfl, (show _ + _ < _ from of_decide_eq_true z), q _ H (Same.refl H) (.int _)⟩
    · cases e
  · split at e
    · rename_i hl
      cases e; cases ry
      obtain ⟨a, vs, rfl, ha, hs⟩ := rx.inv_lst
      refine .inr (.inl ⟨a, _, vs, rfl, rfl, hid_le _ _ ha, by omega, by omega, Evl.sz_of (by rw [hs.length]; exact hl.2.2), fun p hp => ?_⟩)
      exact q _ _ (same_new hp) (new_lst hp hd (hs.flat _))
    · cases e
  · split at e
    · rename_i hl
      cases e; cases ry
      obtain ⟨a, vs, rfl, hA, hs⟩ := rx.inv_tupA
      have ha := hA.sq
      rename_i k
      by_cases h1 : k = 1
      · subst h1
        refine .inr (.inr (.inr ⟨a, vs, rfl, rfl, sqT_le ha, q _ H (Same.refl H) ?_⟩))
        rw [show (List.replicate (1 : Int).toNat _).flatten = _ from List.append_nil _]
        exact .tup hA hs
      · refine .inr (.inr (.inl ⟨a, _, vs, rfl, rfl, sqT_le ha, ?_, by have := hl.2.1; omega, hl.2.2.1, by rw [hs.length]; exact hl.2.2.2, fun p hp => ?_⟩))
        · intro z; subst z; cases hs; exact hl.1 rfl
        · exact q _ _ (same_new hp) (new_tup hp hd (hs.flat _))
    · cases e
  · cases e

/-! ### is None, ==, in -/
def isNonB : D → Bool | .non => true | _ => false
def gIsN : D → D → Option D := fun x y => if isNonB y then some (.bl (isNonB x)) else none
def gNotN : D → D → Option D := fun x y => if isNonB y then some (.bl (!isNonB x)) else none
theorem rep_isNon {B : Bs} {r : Addr} {H : Hp} {v : V} {d : D} (h : Rep B r H v d) : decide (v = .non) = isNonB d := by cases h <;> rfl
theorem os_isN {B : Bs} : OpS B (fun x y H Q => y = .non ∧ Q (.bl (decide (x = .non))) H) gIsN := by
  intro r O H x y dx dy d Q hd rx ry e q
  unfold gIsN at e
  split at e
  · rename_i h
    cases e
    have : dy = .non := by cases dy <;> first | rfl | (cases h)
    subst this; cases ry
    exact ⟨rfl, q _ H (Same.refl H) (by rw [rep_isNon rx]; exact .bl _)⟩
  · cases e
theorem os_notN {B : Bs} : OpS B (fun x y H Q => y = .non ∧ Q (.bl (!decide (x = .non))) H) gNotN := by
  intro r O H x y dx dy d Q hd rx ry e q
  unfold gNotN at e
  split at e
  · rename_i h
    cases e
    have : dy = .non := by cases dy <;> first | rfl | (cases h)
    subst this; cases ry
    exact ⟨rfl, q _ H (Same.refl H) (by rw [rep_isNon rx]; exact .bl _)⟩
  · cases e
mutual
/-- plain data of depth at most n -/
def toPy : D → Option PyData
  | .non => some .none
  | .bl b => some (.bool b)
  | .int i => some (.int i)
  | .str x => some (.str x)
  | .tup ds => (toPys ds).map .tuple
  | .lst ds => (toPys ds).map .list
  | _ => none
def toPys : List D → Option (List PyData)
  | [] => some []
  | d :: ds => match toPy d, toPys ds with | some p, some ps => some (p :: ps) | _, _ => none
end
mutual
theorem rep_dp {B : Bs} {r : Addr} {H : Hp} : ∀ {v : V} {d : D} {p : PyData}, Rep B r H v d → toPy d = some p → Dp B.K H v p
  | _, _, _, .non, e => by cases (Option.some.inj e : PyData.none = _); exact .non
  | _, _, _, .bl b, e => by cases (Option.some.inj e : PyData.bool b = _); exact .bl b
  | _, _, _, .int b, e => by cases (Option.some.inj e : PyData.int b = _); exact .int b
  | _, _, _, .str b, e => by cases (Option.some.inj e : PyData.str b = _); exact .str b
  | _, _, _, .tup h hs, e => by
    unfold toPy at e
    obtain ⟨ps, h1, h2⟩ := Option.map_eq_some_iff.mp e
    subst h2
    exact .tup h.sq (reps_dp hs h1)
  | _, _, _, .lst h hs, e => by
    unfold toPy at e
    obtain ⟨ps, h1, h2⟩ := Option.map_eq_some_iff.mp e
    subst h2
    exact .lst (SqL.of h) (reps_dp hs h1)
  | _, _, _, .dic _ _ _ _, e => by cases e
  | _, _, _, .sal _ _ _, e => by cases e
  | _, _, _, .row, e => by cases e
  | _, _, _, .obj _, e => by cases e
  | _, _, _, .fn _, e => by cases e
  | _, _, _, .dct _ _ _ _ _, e => by cases e
theorem reps_dp {B : Bs} {r : Addr} {H : Hp} : ∀ {vs : List V} {ds : List D} {ps : List PyData}, Reps B r H vs ds → toPys ds = some ps → DpAll B.K H vs ps
  | _, _, _, .nil, e => by cases (Option.some.inj e : [] = _); exact .nil
  | _, _, _, .cons h hs, e => by
    unfold toPys at e
    split at e
    · rename_i p ps h1 h2
      cases e
      exact .cons (rep_dp h h1) (reps_dp hs h2)
    · cases e
end
def pyOk (d : D) : Option PyData := match toPy d with | some p => if SeqAt.shaped p then some p else none | none => none
theorem pyOk_some {d : D} {p : PyData} (h : pyOk d = some p) : toPy d = some p ∧ SeqAt.shaped p = true := by
  unfold pyOk at h
  split at h
  · split at h
    · cases h; exact ⟨by assumption, by assumption⟩
    · cases h
  · cases h
def eqD (x y : D) : Option Bool := match pyOk x, pyOk y with | some p, some q => some (PyData.eqv p q) | _, _ => none
def gEq : D → D → Option D := fun x y => (eqD x y).map .bl
def gNe : D → D → Option D := fun x y => (eqD x y).map fun b => .bl (!b)
theorem eqD_some {x y : D} {b : Bool} (h : eqD x y = some b) : ∃ p q, toPy x = some p ∧ toPy y = some q ∧ SeqAt.shaped p = true ∧ SeqAt.shaped q = true ∧ b = PyData.eqv p q := by
  unfold eqD at h
  split at h
  · rename_i p q h1 h2
    cases h
    exact ⟨p, q, (pyOk_some h1).1, (pyOk_some h2).1, (pyOk_some h1).2, (pyOk_some h2).2, rfl⟩
  · cases h
theorem os_eq {B : Bs} : OpS B (rEqD B.K) gEq := by
  intro r O H x y dx dy d Q hd rx ry e q
  obtain ⟨b, h1, h2⟩ := Option.map_eq_some_iff.mp e
  subst h2
  obtain ⟨p, p', e1, e2, s1, s2, rfl⟩ := eqD_some h1
  exact ⟨p, p', rep_dp (rx.mono hid_le) e1, rep_dp (ry.mono hid_le) e2, s1, s2, q _ H (Same.refl H) (.bl _)⟩
theorem os_ne {B : Bs} : OpS B (rNeD B.K) gNe := by
  intro r O H x y dx dy d Q hd rx ry e q
  obtain ⟨b, h1, h2⟩ := Option.map_eq_some_iff.mp e
  subst h2
  obtain ⟨p, p', e1, e2, s1, s2, rfl⟩ := eqD_some h1
  exact ⟨p, p', rep_dp (rx.mono hid_le) e1, rep_dp (ry.mono hid_le) e2, s1, s2, q _ H (Same.refl H) (.bl _)⟩
/-- == of scalars -/
def eqS : D → D → Bool
  | .non, .non => true
  | .bl a, .bl b => a == b
  | .bl a, .int b => (if a then 1 else 0) == b
  | .int a, .bl b => a == (if b then 1 else 0)
  | .int a, .int b => a == b
  | .str a, .str b => a == b
  | _, _ => false
def seqD : D → Option (List D) | .lst ds => some ds | .tup ds => some ds | _ => none
def inD (neg : Bool) (x y : D) : Option D := match seqD y with
  | some ds => if scal x && ds.all scal then some (.bl (if neg then !ds.any (eqS · x) else ds.any (eqS · x))) else none
  | none => none
def gIn := inD false
def gNotIn := inD true
theorem rep_flat {B : Bs} {r : Addr} {H : Hp} {v : V} {d : D} (h : Rep B r H v d) : scal d = flatV v := by cases h <;> rfl
theorem rep_eqV {B : Bs} {r : Addr} {H : Hp} {v w : V} {d e : D} (h : Rep B r H v d) (h' : Rep B r H w e) : eqV v w = eqS d e := by cases h <;> cases h' <;> rfl
theorem reps_all {B : Bs} {r : Addr} {H : Hp} : ∀ {vs : List V} {ds : List D}, Reps B r H vs ds → ds.all scal = vs.all flatV
  | _, _, .nil => rfl
  | _, _, .cons h hs => by rw [List.all_cons, List.all_cons, rep_flat h, reps_all hs]
theorem reps_in {B : Bs} {r : Addr} {H : Hp} {x : V} {dx : D} (hx : Rep B r H x dx) : ∀ {vs : List V} {ds : List D}, Reps B r H vs ds → inV x vs = ds.any (eqS · dx)
  | _, _, .nil => rfl
  | _, _, .cons h hs => by
    unfold inV
    rw [List.any_cons, List.any_cons, rep_eqV h hx]
    have := reps_in hx hs
    unfold inV at this
    rw [this]
theorem seq_inv {B : Bs} {r : Addr} {H : Hp} {v : V} {d : D} {ds : List D} (h : Rep B r H v d) (e : seqD d = some ds) : ∃ a vs, v = .ref a ∧ (SqL B.K H a vs ∨ SqT B.K H a vs) ∧ Reps B r H vs ds := by
  cases d <;> simp [seqD] at e
  · subst e; obtain ⟨a, vs, h1, h2, h3⟩ := h.inv_tup; exact ⟨a, vs, h1, .inr h2, h3⟩
  · subst e; obtain ⟨a, vs, h1, h2, h3⟩ := h.inv_lst; exact ⟨a, vs, h1, .inl (SqL.of h2), h3⟩
theorem sqLT_le {K : PySem.W.Frag} {H : Hp} {O : List Addr} {a : Addr} {xs : List V} (h : SqL K (hid H O) a xs ∨ SqT K (hid H O) a xs) : SqL K H a xs ∨ SqT K H a xs := h.elim (fun z => .inl (Evl.ex_l hid_le z)) (fun z => .inr (sqT_le z))
theorem os_inG {B : Bs} {neg : Bool} : OpS B (rIn B.K neg) (inD neg) := by
  intro r O H x y dx dy d Q hd rx ry e q
  unfold inD at e
  split at e
  · rename_i ds hs
    obtain ⟨a, vs, rfl, hq, hr⟩ := seq_inv ry hs
    split at e
    · rename_i hz
      cases e
      rw [Bool.and_eq_true] at hz
      refine ⟨a, vs, rfl, sqLT_le hq, by rw [← rep_flat rx]; exact hz.1, by rw [← reps_all hr]; exact hz.2, ?_⟩
      rw [reps_in rx hr]
      exact q _ H (Same.refl H) (.bl _)
    · cases e
  · cases e
theorem os_in {B : Bs} : OpS B (rIn B.K false) gIn := os_inG
theorem os_notIn {B : Bs} : OpS B (rIn B.K true) gNotIn := os_inG

/-! ### unary -/
def gNeg : D → Option D | .int i => some (.int (-i)) | _ => none
theorem us_neg {B : Bs} : UnS B (rU fun i => .int (-i)) gNeg := by
  intro r O H x dx d Q hd rx e q
  unfold gNeg at e
  split at e
  · cases e; cases rx; exact ⟨_, rfl, q _ H (Same.refl H) (.int _)⟩
  · cases e

/-! ### subscripts -/
def gIx : D → D → Option D
  | .tup ds, .int i => atI ds i
  | .lst ds, .int i => atI ds i
  | .str z, .int i => if z.length ≤ 100000 then (atI z.cps.toList i).map fun c => .str ⟨#[c]⟩ else none
  | _, _ => none
theorem reps_at {B : Bs} {r : Addr} {H : Hp} {vs : List V} {ds : List D} {i : Int} {d : D} (h : Reps B r H vs ds) (e : atI ds i = some d) : ∃ v, atI vs i = some v ∧ Rep B r H v d := by
  unfold atI at e ⊢
  rw [h.length]
  obtain ⟨j, h1, h2⟩ := Option.bind_eq_some_iff.mp e
  obtain ⟨v, h3, h4⟩ := h.get j d h2
  exact ⟨v, by rw [h1]; exact h3, h4⟩
theorem os_ix {B : Bs} : OpS B (rIx B.K) gIx := by
  intro r O H x y dx dy d Q hd rx ry e q
  unfold gIx at e
  split at e
  · cases ry
    obtain ⟨a, vs, rfl, ha, hs⟩ := rx.inv_tup
    obtain ⟨v, h1, h2⟩ := reps_at hs e
    exact .inr (.inl ⟨a, vs, _, v, rfl, rfl, sqT_le ha, h1, q _ H (Same.refl H) h2⟩)
  · cases ry
    obtain ⟨a, vs, rfl, ha, hs⟩ := rx.inv_lst
    obtain ⟨v, h1, h2⟩ := reps_at hs e
    exact .inl ⟨a, vs, _, v, rfl, rfl, SqL.of (hid_le _ _ ha), h1, q _ H (Same.refl H) h2⟩
  · split at e
    · rename_i hl
      cases rx; cases ry
      obtain ⟨c, h1, h2⟩ := Option.map_eq_some_iff.mp e
      subst h2
      exact .inr (.inr ⟨_, _, c, rfl, rfl, Evl.sz_of hl, h1, q _ H (Same.refl H) (.str _)⟩)
    · cases e
  · cases e

/-! ### slices -/
def partI : Option D → Option (Option Int) | none => some none | some (.int i) => some (some i) | _ => none
abbrev RdO (B : Bs) (W : List Nat) (E : Option XK) (t : TO) (f : En → M (Option Int)) : Prop :=
  ∀ {r sa : Addr} {H0 : Hp} {O0 O : List Addr} {σ : St} {δ : En} {s : S} {H : Hp}, Gd B r sa H0 O0 W O σ δ s H → ∀ Q : Option Int → Hp → Prop, (f δ s).post (fun o s' => ∀ H', Stp r H H' → RowAt B r sa H' s' → Q o H') (EPost B E r sa H O) → t σ H Q
def cNo : En → M (Option Int) := fun _ s => .ok none s
def asI : D → Option Int | .int i => some i | _ => none
def cPart (f : En → M D) : En → M (Option Int) := fun δ s => (f δ s).bind fun d s1 => (lift (asI d) s1).bind fun i s2 => .ok (some i) s2
def cutD {α : Type} (xs : List α) (lo hi : Option Int) : List α := (xs.drop (HT.sIx xs.length 0 lo)).take (HT.sIx xs.length xs.length hi - HT.sIx xs.length 0 lo)
def gSl : D → Option Int → Option Int → Option D
  | .tup ds, lo, hi => some (.tup (cutD ds lo hi))
  | .lst ds, lo, hi => some (.lst (cutD ds lo hi))
  | .str z, lo, hi => if z.length ≤ 100000 then some (.str (cutS z lo hi)) else none
  | _, _, _ => none
def cSl (f : En → M D) (fl fh : En → M (Option Int)) : En → M D := fun δ s => (f δ s).bind fun d s1 => (fl δ s1).bind fun lo s2 => (fh δ s2).bind fun hi s3 => lift (gSl d lo hi) s3
theorem Reps.cut {B : Bs} {r : Addr} {H : Hp} {vs : List V} {ds : List D} {lo hi : Option Int} (h : Reps B r H vs ds) : Reps B r H (cutV vs lo hi) (cutD ds lo hi) := by
  unfold cutV cutD
  rw [h.length]
  exact (h.drop _).take _
def rSlU (K : PySem.W.Frag) : V → Option Int → Option Int → Hp → VK → Prop := fun x lo hi H Q => rSlL K x lo hi H Q ∨ (rSlA K x lo hi H Q ∨ rSlS x lo hi H Q)
theorem sl_U {X : Cx} : SlR X (rSlU X.K) := SlR.or sl_list (SlR.or sl_tupA sl_str)
section
variable {B : Bs} {W : List Nat} {E : Option XK} {te : TE} {fa : En → M D}
theorem ro_no : RdO B W E tNoPart cNo := by
  intro r sa H0 O0 O σ δ s H gd Q h
  exact h H (Stp.refl H) gd.row
theorem ro_part (ha : RdE B W E te fa) : RdO B W E (tPart te) (cPart fa) := by
  intro r sa H0 O0 O σ δ s H gd Q h
  refine ha gd _ (post_mono (post_bind h) (fun x s1 hx v H1 st ra rp => ?_) (fun _ _ z => z))
  obtain ⟨i, e, hd⟩ := post_lift (post_bind hx)
  have : x = .int i := by cases x <;> simp [asI] at e; subst e; rfl
  subst this; cases rp
  exact ⟨i, rfl, hd H1 st ra⟩
theorem rd_sl {tl th : TO} {fl fh : En → M (Option Int)} (ha : RdE B W E te fa) (hl : RdO B W E tl fl) (hh : RdO B W E th fh) : RdE B W E (tSl (rSlU B.K) te tl th) (cSl fa fl fh) := by
  intro r sa H0 O0 O σ δ s H gd Q h
  refine ha gd _ (post_mono (post_bind h) (fun x s1 hx v H1 st ra rp => ?_) (fun _ _ z => z))
  have gd1 := gd.step st ra
  refine hl gd1 _ (post_mono (post_bind hx) (fun lo s2 hx H2 st2 ra2 => ?_) (fun _ _ z => z.mono st))
  have gd2 := gd1.step st2 ra2
  refine hh gd2 _ (post_mono (post_bind hx) (fun hi s3 hx H3 st3 ra3 => ?_) (fun _ _ z => (z.mono st).mono st2))
  have gd3 := gd2.step st3 ra3
  obtain ⟨d, e, hd⟩ := post_lift hx
  have rp3 := rp.mono ((st2.trans st3).hid gd.rO)
  have hst := st.trans (st2.trans st3)
  unfold gSl at e
  split at e
  · cases e
    obtain ⟨a, vs, rfl, hA, hs⟩ := rp3.inv_tupA
    have ha := hA.sq
    refine .inr (.inl ⟨a, vs, rfl, sqT_le ha, fun ⟨z1, z2⟩ => ?_, fun _ p hp => ?_⟩)
    · refine hd _ H3 hst ra3 (.tup hA ?_)
      have e1 : cutV vs lo hi = vs := by
        unfold cutV; rw [z1, z2]; simp
      have := hs.cut (lo := lo) (hi := hi)
      rw [e1] at this
      exact this
    · exact hd _ _ (hst.trans (Stp.new hp)) (ra3.new hp) (new_tup hp gd3.dom hs.cut)
  · cases e
    obtain ⟨a, vs, rfl, ha, hs⟩ := rp3.inv_lst
    exact .inl ⟨a, vs, rfl, SqL.of (hid_le _ _ ha), fun p hp => hd _ _ (hst.trans (Stp.new hp)) (ra3.new hp) (new_lst hp gd3.dom hs.cut)⟩
  · split at e
    · rename_i hz
      cases e; cases rp3
      exact .inr (.inr ⟨_, rfl, Evl.sz_of hz, hd _ H3 hst ra3 (.str _)⟩)
    · cases e
  · cases e
end
end PV

namespace PV
open PySem L2

inductive Fl where
  | next (δ : En)
  | ret (d : D)
  | brk (δ : En)
  | cont (δ : En)
def FlP (B : Bs) (r sa : Addr) (H0 : Hp) (O0 : List Addr) (W : List Nat) (O : List Addr) (H : Hp) (D : Ends) : Fl → S → Prop := fun fl s' => match fl with
  | .next δ' => ∀ O' σ' H', Gd B r sa H0 O0 W O' σ' δ' s' H' → Same (hid H O) (hid H' O') → D.nx σ' H'
  | .ret d => ∀ v H', Stp r H0 H' → RowAt B r sa H' s' → Rep B r (hid H' O0) v d → D.rt v H'
  | .brk δ' => ∀ O' σ' H', Gd B r sa H0 O0 W O' σ' δ' s' H' → Same (hid H O) (hid H' O') → D.bk σ' H'
  | .cont δ' => ∀ O' σ' H', Gd B r sa H0 O0 W O' σ' δ' s' H' → Same (hid H O) (hid H' O') → D.ct σ' H'
def RdS (B : Bs) (W : List Nat) (E : Option XK) (t : TS) (F : En → M Fl) : Prop :=
  ∀ {r sa : Addr} {H0 : Hp} {O0 O : List Addr} {σ : St} {δ : En} {s : S} {H : Hp}, Gd B r sa H0 O0 W O σ δ s H → ∀ D : Ends, (F δ s).post (FlP B r sa H0 O0 W O H D) (EPost B E r sa H0 O0) → t D σ H
theorem FlP.mono {B : Bs} {r sa : Addr} {H0 : Hp} {O0 : List Addr} {W : List Nat} {O O' : List Addr} {H H' : Hp} {D : Ends} (sm : Same (hid H O) (hid H' O')) : ∀ (fl : Fl) (s : S), FlP B r sa H0 O0 W O H D fl s → FlP B r sa H0 O0 W O' H' D fl s
  | .next _, _, h => fun O2 σ2 H2 g q => h O2 σ2 H2 g (sm.trans q)
  | .ret _, _, h => h
  | .brk _, _, h => fun O2 σ2 H2 g q => h O2 σ2 H2 g (sm.trans q)
  | .cont _, _, h => fun O2 σ2 H2 g q => h O2 σ2 H2 g (sm.trans q)
theorem EPost.up {B : Bs} {E : Option XK} {r sa : Addr} {H0 : Hp} {O0 : List Addr} {W : List Nat} {O : List Addr} {σ : St} {δ : En} {s : S} {H : Hp} (gd : Gd B r sa H0 O0 W O σ δ s H) {e : Err} {s' : S} (h : EPost B E r sa H0 O0 e s') : EPost B E r sa H O e s' := by
  cases E with
  | none => exact h
  | some E => exact fun cl d H' a b c => h cl d H' (gd.stp.trans a) b (c.mono (hid_sub gd.sub))

def cNext : En → M Fl := fun δ s => .ok (.next δ) s
def cSeq (F G : En → M Fl) : En → M Fl := fun δ s => (F δ s).bind fun fl s1 => match fl with | .next δ' => G δ' s1 | fl => .ok fl s1
def cRet (f : En → M D) : En → M Fl := fun δ s => (f δ s).bind fun d s1 => .ok (.ret d) s1
def cDo (f : En → M D) : En → M Fl := fun δ s => (f δ s).bind fun _ s1 => .ok (.next δ) s1
def cIte (c : En → M Bool) (F G : En → M Fl) : En → M Fl := fun δ s => (c δ s).bind fun b s1 => if b then F δ s1 else G δ s1
def cSet (i : Nat) (f : En → M D) : En → M Fl := fun δ s => (f δ s).bind fun d s1 => .ok (.next (δ.set i (some d))) s1
def cAsg (f : En → M D) (tg : D → En → Option En) : En → M Fl := fun δ s => (f δ s).bind fun d s1 => (lift (tg d δ) s1).bind fun δ' s2 => .ok (.next δ') s2
def cAug (i : Nat) (g : Int → Int → Int) (f : En → M D) : En → M Fl := fun δ s => (lift (δ[i]?.join.bind asI) s).bind fun x s0 => (f δ s0).bind fun d s1 => (lift (asI d) s1).bind fun y s2 => .ok (.next (δ.set i (some (.int (g x y))))) s2
def cStuck : En → M Fl := fun _ _ => .stuck
def forL (tg : D → En → Option En) (F : En → M Fl) : List D → En → M Fl
  | [], δ, s => .ok (.next δ) s
  | d :: ds, δ, s => (lift (tg d δ) s).bind fun δ1 s1 => (F δ1 s1).bind fun fl s2 => match fl with
    | .next δ2 => forL tg F ds δ2 s2
    | .cont δ2 => forL tg F ds δ2 s2
    | .brk δ2 => .ok (.next δ2) s2
    | .ret d => .ok (.ret d) s2
def cFor (src : En → M (List D)) (tg : D → En → Option En) (F : En → M Fl) : En → M Fl := fun δ s => (src δ s).bind fun ds s1 => forL tg F ds δ s1
def whileN (c : En → M Bool) (F : En → M Fl) : Nat → En → M Fl
  | 0, _, _ => .stuck
  | n + 1, δ, s => (c δ s).bind fun b s1 => if b then (F δ s1).bind fun fl s2 => match fl with
    | .next δ2 => whileN c F n δ2 s2
    | .cont δ2 => whileN c F n δ2 s2
    | .brk δ2 => .ok (.next δ2) s2
    | .ret d => .ok (.ret d) s2 else .ok (.next δ) s1
def cWhile (fuel : En → Nat) (c : En → M Bool) (F : En → M Fl) : En → M Fl := fun δ s => whileN c F (fuel δ) δ s
def tgName (i : Nat) : D → En → Option En := fun d δ => some (δ.set i (some d))
def tgNil : List D → En → Option En | [], δ => some δ | _ :: _, _ => none
def tgCons (t : D → En → Option En) (u : List D → En → Option En) : List D → En → Option En | [], _ => none | d :: ds, δ => (t d δ).bind fun δ' => u ds δ'
def tgTup (n : Nat) (t : List D → En → Option En) : D → En → Option En := fun d δ => match d with | .tup ds => if ds.length = n then t ds δ else none | .lst ds => if ds.length = n then t ds δ else none | _ => none
/-- a tuple or a list of that length -/
def gTL (K : PySem.W.Frag) (n : Nat) (t : TGs) : TG := fun v σ H Q => gTup K n t v σ H Q ∨ gLst K n t v σ H Q
theorem pg_tl {X : Cx} {pos : Pos} {es : List Expr} {k : Nat} {t : TGs} {n : Nat} (hc : X.calm = true) (h : PGs X es t) (hn : (assignEach es X.env).length = n := by rfl) (hst : (assignEach es X.env).findIdx? (·.1) = none := by rfl) : PG X (.Tuple es k pos) (gTL X.K n t) :=
  ⟨fun pins s σ H v u Q I r hw => hw.elim (fun z => (pg_tup hc h hn hst).run pins s σ H v u Q I r z) (fun z => (pg_lst hc h hn hst).run pins s σ H v u Q I r z)⟩

/-- a target: the slots ts alone are written -/
def RdG (B : Bs) (W : List Nat) (ts : List Nat) (g : TG) (tg : D → En → Option En) : Prop :=
  ∀ {r sa : Addr} {H0 : Hp} {O0 O : List Addr} {σ : St} {δ δ' : En} {s : S} {H : Hp} {v : V} {d : D}, Gd B r sa H0 O0 W O σ δ s H → Rep B r (hid H O) v d → tg d δ = some δ' →
    ∀ Q : St → Hp → Prop, (∀ σ', Gd B r sa H0 O0 W O σ' δ' s H → (∀ i, i ∉ ts → σ'[i]? = σ[i]?) → σ'.length = σ.length → Q σ' H) → g v σ H Q
def RdGs (B : Bs) (W : List Nat) (ts : List Nat) (g : TGs) (tg : List D → En → Option En) : Prop :=
  ∀ {r sa : Addr} {H0 : Hp} {O0 O : List Addr} {σ : St} {δ δ' : En} {s : S} {H : Hp} {v : List V} {d : List D}, Gd B r sa H0 O0 W O σ δ s H → Reps B r (hid H O) v d → tg d δ = some δ' →
    ∀ Q : St → Hp → Prop, (∀ σ', Gd B r sa H0 O0 W O σ' δ' s H → (∀ i, i ∉ ts → σ'[i]? = σ[i]?) → σ'.length = σ.length → Q σ' H) → g v σ H Q
section
variable {B : Bs} {W : List Nat} {E : Option XK}
theorem rg_name {i : Nat} (hi : decide (i ∉ W) = true := by rfl) : RdG B W [i] (gName i) (tgName i) := by
  intro r sa H0 O0 O σ δ δ' s H v d gd rp e Q q
  cases e
  exact q _ (gd.set (of_decide_eq_true hi) rp) (fun j hj => List.getElem?_set_ne (fun z => hj (by simp [z]))) (List.length_set ..)
theorem rg_nil : RdGs B W [] gNil tgNil := by
  intro r sa H0 O0 O σ δ δ' s H v d gd rp e Q q
  cases rp with
  | nil => cases e; exact ⟨rfl, q σ gd (fun _ _ => rfl) rfl⟩
  | cons _ _ => cases e
theorem rg_cons {ts us : List Nat} {g : TG} {gs : TGs} {tg : D → En → Option En} {tgs : List D → En → Option En} (h : RdG B W ts g tg) (hs : RdGs B W us gs tgs) : RdGs B W (ts ++ us) (gCons g gs) (tgCons tg tgs) := by
  intro r sa H0 O0 O σ δ δ' s H v d gd rp e Q q
  cases rp with
  | nil => cases e
  | cons rp rps =>
    obtain ⟨δ1, e1, e2⟩ := Option.bind_eq_some_iff.mp e
    refine ⟨_, _, rfl, h gd rp e1 _ fun σ1 gd1 h1 l1 => hs gd1 rps e2 _ fun σ2 gd2 h2 l2 => q σ2 gd2 (fun j hj => ?_) (l2.trans l1)⟩
    rw [h2 j fun z => hj (List.mem_append_right _ z), h1 j fun z => hj (List.mem_append_left _ z)]
theorem rg_tup {n : Nat} {ts : List Nat} {gs : TGs} {tgs : List D → En → Option En} (hs : RdGs B W ts gs tgs) : RdG B W ts (gTL B.K n gs) (tgTup n tgs) := by
  intro r sa H0 O0 O σ δ δ' s H v d gd rp e Q q
  unfold tgTup at e
  split at e
  · split at e
    · rename_i hl
      obtain ⟨a, vs, rfl, ha, hr⟩ := rp.inv_tup
      exact .inl ⟨a, vs, rfl, sqT_le ha, by rw [hr.length]; exact hl, hs gd hr e Q q⟩
    · cases e
  · split at e
    · rename_i hl
      obtain ⟨a, vs, rfl, ha, hr⟩ := rp.inv_lst
      exact .inr ⟨a, vs, rfl, SqL.of (hid_le _ _ ha), by rw [hr.length]; exact hl, hs gd hr e Q q⟩
    · cases e
  · cases e

variable {t u : TS} {F G : En → M Fl} {te : TE} {fa : En → M D} {tc : TT} {fc : En → M Bool}
theorem rs_next : RdS B W E tNext cNext := by
  intro r sa H0 O0 O σ δ s H gd D h
  exact h O σ H gd (Same.refl _)
theorem rs_stuck {t : TS} : RdS B W E t cStuck := by
  intro r sa H0 O0 O σ δ s H gd D h
  exact h.elim
theorem rs_seq (h1 : RdS B W E t F) (h2 : RdS B W E u G) : RdS B W E (tSeq t u) (cSeq F G) := by
  intro r sa H0 O0 O σ δ s H gd D h
  refine h1 gd _ (post_mono (post_bind h) (fun fl s1 hx => ?_) (fun _ _ z => z))
  cases fl with
  | next δ' => exact fun O' σ' H' gd' sm => h2 gd' D (post_mono hx (fun fl s2 q => q.mono sm) (fun _ _ z => z))
  | ret d => exact hx
  | brk δ' => exact hx
  | cont δ' => exact hx
theorem rs_if (hc : RdT B W E tc fc) (h1 : RdS B W E t F) (h2 : RdS B W E u G) : RdS B W E (tIfS tc t u) (cIte fc F G) := by
  intro r sa H0 O0 O σ δ s H gd D h
  refine hc gd _ (post_mono (post_bind h) (fun b s1 hx H1 st ra => ?_) (fun _ _ z => z.up gd))
  have sm := st.hid gd.rO
  cases b with
  | true => exact h1 (gd.step st ra) D (post_mono hx (fun fl s2 q => q.mono sm) (fun _ _ z => z))
  | false => exact h2 (gd.step st ra) D (post_mono hx (fun fl s2 q => q.mono sm) (fun _ _ z => z))
/-- at a return all that is owned is let go -/
theorem Gd.free {r sa : Addr} {H0 : Hp} {O0 O : List Addr} {σ : St} {δ : En} {s : S} {H : Hp} (gd : Gd B r sa H0 O0 W O σ δ s H) : Gd B r sa H0 O0 [] O0 σ δ s H := by
  have sm : Same (hid H O) (hid H O0) := hid_sub gd.sub
  refine ⟨gd.len, gd.row, gd.r0, fun p hp => gd.dom p (gd.sub p hp), gd.dom0, fun _ h => h, fun _ h => .inl h, gd.stp, fun i d _ q => ?_, fun i d hi => (by cases hi), fun i _ _ _ _ hi => (by cases hi)⟩
  by_cases hi : i ∈ W
  · obtain ⟨p, vs, ds, rfl, h2, h3, h4, h5, h6⟩ := gd.own i d hi q
    exact ⟨_, h2, .lst (by rw [hid_out h4]; exact h5) (h6.mono sm)⟩
  · obtain ⟨v, h1, h2⟩ := gd.val i d hi q
    exact ⟨v, h1, h2.mono sm⟩
theorem rs_ret (ha : RdE B [] E te fa) : RdS B W E (tRet te) (cRet fa) := by
  intro r sa H0 O0 O σ δ s H gd D h
  have g0 := gd.free
  exact ha g0 _ (post_mono (post_bind h) (fun x s1 hx v H1 st ra rp => hx v H1 (gd.stp.trans st) ra rp) (fun _ _ z => z.up g0))
theorem rs_retN : RdS B W E tRetN (cRet (cC .non)) := by
  intro r sa H0 O0 O σ δ s H gd D h
  exact h .non H gd.stp gd.row .non
theorem rs_do (ha : RdE B W E te fa) : RdS B W E (tDrop te) (cDo fa) := by
  intro r sa H0 O0 O σ δ s H gd D h
  exact ha gd _ (post_mono (post_bind h) (fun x s1 hx v H1 st ra rp => hx O σ H1 (gd.step st ra) (st.hid gd.rO)) (fun _ _ z => z.up gd))
theorem rs_set {i : Nat} (ha : RdE B W E te fa) (hi : decide (i ∉ W) = true := by rfl) : RdS B W E (tAsg te (gName i)) (cSet i fa) := by
  intro r sa H0 O0 O σ δ s H gd D h
  exact ha gd _ (post_mono (post_bind h) (fun x s1 hx v H1 st ra rp => hx O _ H1 ((gd.step st ra).set (of_decide_eq_true hi) rp) (st.hid gd.rO)) (fun _ _ z => z.up gd))
theorem rs_asg {ts : List Nat} {g : TG} {tg : D → En → Option En} (ha : RdE B W E te fa) (hg : RdG B W ts g tg) : RdS B W E (tAsg te g) (cAsg fa tg) := by
  intro r sa H0 O0 O σ δ s H gd D h
  refine ha gd _ (post_mono (post_bind h) (fun x s1 hx v H1 st ra rp => ?_) (fun _ _ z => z.up gd))
  obtain ⟨δ', e, hd⟩ := post_lift (post_bind hx)
  exact hg (gd.step st ra) rp e _ fun σ' gd' _ _ => hd O σ' H1 gd' (st.hid gd.rO)
theorem join_some {δ : En} {i : Nat} {d : D} (e : δ[i]?.join = some d) : δ[i]? = some (some d) := by
  cases q : δ[i]? with
  | none => rw [q] at e; cases e
  | some o => rw [q] at e; cases o with
    | none => cases e
    | some d' => cases (Option.some.inj e : d' = d); rfl
theorem asI_some {d : D} {i : Int} (e : asI d = some i) : d = .int i := by cases d <;> simp [asI] at e; subst e; rfl
theorem rs_aug {i : Nat} {g : Int → Int → Int} (ha : RdE B W E te fa) (hi : decide (i ∉ W) = true := by rfl) : RdS B W E (tAug i te (ipI g)) (cAug i g fa) := by
  intro r sa H0 O0 O σ δ s H gd D h
  obtain ⟨x, e, h⟩ := post_lift (post_bind h)
  obtain ⟨dx, e1, e2⟩ := Option.bind_eq_some_iff.mp e
  cases asI_some e2
  obtain ⟨v, h1, h2⟩ := gd.val i _ (of_decide_eq_true hi) (join_some e1)
  cases h2
  refine ⟨_, h1, ha gd _ (post_mono (post_bind h) (fun y s1 hx v H1 st ra rp => ?_) (fun _ _ z => z.up gd))⟩
  obtain ⟨y', e3, hd⟩ := post_lift (post_bind hx)
  cases asI_some e3
  cases rp
  exact ⟨_, _, rfl, rfl, hd O _ H1 ((gd.step st ra).set (of_decide_eq_true hi) (.int _)) (st.hid gd.rO)⟩

/-! ### what is walked -/
def Wk (B : Bs) (r : Addr) (O : List Addr) (H1 : Hp) (J : It) (ds : List D) : Prop := ∀ O' H2, Same (hid H1 O) (hid H2 O') → (∀ p ∈ O', H2 p ≠ none) →
  (∀ i, i < ds.length → J.go i H2) ∧ J.stop ds.length H2 ∧ ∀ i x H3 d, ds[i]? = some d → J.yld i H2 x H3 → Same H2 H3 ∧ Rep B r (hid H3 O') x d
def RdI (B : Bs) (W : List Nat) (E : Option XK) (wi : TI) (f : En → M (List D)) : Prop :=
  ∀ {r sa : Addr} {H0 : Hp} {O0 O : List Addr} {σ : St} {δ : En} {s : S} {H : Hp}, Gd B r sa H0 O0 W O σ δ s H → ∀ R : It → Hp → Prop,
    (f δ s).post (fun ds s' => ∀ J H', Stp r H H' → RowAt B r sa H' s' → Wk B r O H' J ds → R J H') (EPost B E r sa H O) → wi σ H R
def asLst : D → Option (List D) | .lst ds => some ds | _ => none
def asTup : D → Option (List D) | .tup ds => some ds | _ => none
def cItL (f : En → M D) : En → M (List D) := fun δ s => (f δ s).bind fun d s1 => lift (asLst d) s1
def cItT (f : En → M D) : En → M (List D) := fun δ s => (f δ s).bind fun d s1 => lift (asTup d) s1
def cItU (f : En → M D) : En → M (List D) := fun δ s => (f δ s).bind fun d s1 => lift (seqD d) s1
def upto (lo : Int) (n : Nat) : List D := (List.range n).map fun (i : Nat) => D.int (lo + (i : Int))
def gR1 : List D → Option (List D) | [.int j] => if -(2 ^ 62) ≤ j ∧ j < 2 ^ 62 then some (upto 0 j.toNat) else none | _ => none
def gR2 : List D → Option (List D) | [.int i, .int j] => if -(2 ^ 62) ≤ i ∧ i < 2 ^ 62 ∧ -(2 ^ 62) ≤ j ∧ j < 2 ^ 62 then some (upto i (j - i).toNat) else none | _ => none
def cItA (g : List D → Option (List D)) (f : En → M (List D)) : En → M (List D) := fun δ s => (f δ s).bind fun ds s1 => lift (g ds) s1
theorem asLst_some {d : D} {ds : List D} (e : asLst d = some ds) : d = .lst ds := by cases d <;> simp [asLst] at e; subst e; rfl
theorem asTup_some {d : D} {ds : List D} (e : asTup d = some ds) : d = .tup ds := by cases d <;> simp [asTup] at e; subst e; rfl
theorem wk_list {r a : Addr} {O : List Addr} {H1 : Hp} {vs : List V} {ds : List D} (h : hid H1 O a = some (.lst vs)) (hr : Reps B r (hid H1 O) vs ds) : Wk B r O H1 (Itl B.K a) ds := by
  intro O' H2 sm hd
  have e : H2 a = some (.lst vs) := hid_le _ _ (sm _ _ h)
  have hl := hr.length
  refine ⟨fun i hi => ⟨vs, vs[i]'(by omega), SqL.of e, by simp [show i < vs.length by omega]⟩, ⟨vs, SqL.of e, by omega⟩, fun i x H3 d hi hy => ?_⟩
  obtain ⟨rfl, q⟩ := hy
  obtain ⟨v, h1, h2⟩ := hr.get i d hi
  have := (q vs (SqL.of e)).symm.trans h1
  cases this
  exact ⟨Same.refl _, h2.mono sm⟩
theorem wk_tup {r a : Addr} {O : List Addr} {H1 : Hp} {vs : List V} {ds : List D} (h : SqT B.K (hid H1 O) a vs) (hr : Reps B r (hid H1 O) vs ds) : Wk B r O H1 (Itt B.K a) ds := by
  intro O' H2 sm hd
  have e : SqT B.K H2 a vs := sqT_le (same_t sm h)
  have hl := hr.length
  refine ⟨fun i hi => ⟨vs, vs[i]'(by omega), e, by simp [show i < vs.length by omega]⟩, ⟨vs, e, by omega⟩, fun i x H3 d hi hy => ?_⟩
  obtain ⟨rfl, q⟩ := hy
  obtain ⟨v, h1, h2⟩ := hr.get i d hi
  have := (q vs e).symm.trans h1
  cases this
  exact ⟨Same.refl _, h2.mono sm⟩
theorem upto_get {lo : Int} {n i : Nat} {d : D} (h : (upto lo n)[i]? = some d) : i < n ∧ d = .int (lo + (i : Int)) := by
  unfold upto at h
  rw [List.getElem?_map] at h
  obtain ⟨j, h1, h2⟩ := Option.map_eq_some_iff.mp h
  obtain ⟨h3, h4⟩ := List.getElem?_eq_some_iff.mp h1
  rw [List.length_range] at h3
  rw [List.getElem_range] at h4
  subst h4
  exact ⟨h3, h2.symm⟩
@[simp] theorem upto_len {lo : Int} {n : Nat} : (upto lo n).length = n := by unfold upto; simp
theorem wk_range {r : Addr} {O : List Addr} {H1 : Hp} {lo : Int} {n : Nat} : Wk B r O H1 (Itr lo n) (upto lo n) := by
  intro O' H2 sm hd
  refine ⟨fun i hi => by rw [upto_len] at hi; exact hi, by rw [upto_len]; exact Nat.le_refl n, fun i x H3 d hi hy => ?_⟩
  obtain ⟨rfl, rfl⟩ := hy
  obtain ⟨_, rfl⟩ := upto_get hi
  exact ⟨Same.refl _, .int _⟩
theorem ri_list {tl : TE} {f : En → M D} (ha : RdE B W E tl f) : RdI B W E (iList B.K tl) (cItL f) := by
  intro r sa H0 O0 O σ δ s H gd R h
  refine ha gd _ (post_mono (post_bind h) (fun x s1 hx v H1 st ra rp => ?_) (fun _ _ z => z))
  obtain ⟨ds, e, hd⟩ := post_lift hx
  cases asLst_some e
  obtain ⟨a, vs, rfl, h1, h2⟩ := rp.inv_lst
  exact ⟨a, rfl, ⟨vs, SqL.of (hid_le _ _ h1)⟩, hd _ H1 st ra (wk_list h1 h2)⟩
theorem ri_tup {tl : TE} {f : En → M D} (ha : RdE B W E tl f) : RdI B W E (iTup B.K tl) (cItT f) := by
  intro r sa H0 O0 O σ δ s H gd R h
  refine ha gd _ (post_mono (post_bind h) (fun x s1 hx v H1 st ra rp => ?_) (fun _ _ z => z))
  obtain ⟨ds, e, hd⟩ := post_lift hx
  cases asTup_some e
  obtain ⟨a, vs, rfl, h1, h2⟩ := rp.inv_tup
  exact ⟨a, rfl, ⟨vs, sqT_le h1⟩, hd _ H1 st ra (wk_tup h1 h2)⟩
theorem ri_r1 {ta : TA} {f : En → M (List D)} (ha : RdA B W E ta f) : RdI B W E (iRng1 ta) (cItA gR1 f) := by
  intro r sa H0 O0 O σ δ s H gd R h
  refine ha gd _ (post_mono (post_bind h) (fun x s1 hx v H1 st ra rp => ?_) (fun _ _ z => z))
  obtain ⟨ds, e, hd⟩ := post_lift hx
  unfold gR1 at e
  split at e
  · split at e
    · rename_i hj
      cases e
      cases rp with | cons r1 r2 => cases r1; cases r2; exact ⟨_, rfl, hj.1, hj.2, hd _ H1 st ra wk_range⟩
    · cases e
  · cases e
theorem ri_r2 {ta : TA} {f : En → M (List D)} (ha : RdA B W E ta f) : RdI B W E (iRng2 ta) (cItA gR2 f) := by
  intro r sa H0 O0 O σ δ s H gd R h
  refine ha gd _ (post_mono (post_bind h) (fun x s1 hx v H1 st ra rp => ?_) (fun _ _ z => z))
  obtain ⟨ds, e, hd⟩ := post_lift hx
  unfold gR2 at e
  split at e
  · split at e
    · rename_i hj
      cases e
      cases rp with | cons r1 r2 => cases r1; cases r2 with | cons r1 r2 => cases r1; cases r2; exact ⟨_, _, rfl, hj, hd _ H1 st ra wk_range⟩
    · cases e
  · cases e

/-! ### loops -/
theorem rs_for {wi : TI} {src : En → M (List D)} {ts : List Nat} {g : TG} {tg : D → En → Option En} (hi : RdI B W E wi src) (hg : RdG B W ts g tg) (hb : RdS B W E t F) : RdS B W E (tFor wi g t) (cFor src tg F) := by
  intro r sa H0 O0 O σ δ s H gd D h
  refine hi gd _ (post_mono (post_bind h) (fun ds s1 hx J H1 st ra wk => ?_) (fun _ _ z => z.up gd))
  have gd1 := gd.step st ra
  refine ⟨fun i m σ2 H2 => m = ds.length - i ∧ i ≤ ds.length ∧ ∃ O2 δ2 s2, Gd B r sa H0 O0 W O2 σ2 δ2 s2 H2 ∧ Same (hid H1 O) (hid H2 O2) ∧ (forL tg F (ds.drop i) δ2 s2).post (FlP B r sa H0 O0 W O H D) (EPost B E r sa H0 O0),
    ⟨ds.length, by omega, by omega, O, δ, s1, gd1, Same.refl _, by rw [List.drop_zero]; exact hx⟩, ?_⟩
  rintro i m σ2 H2 ⟨rfl, hle, O2, δ2, s2, gd2, sm, hp⟩
  obtain ⟨w1, w2, w3⟩ := wk O2 H2 sm gd2.dom
  by_cases hlt : i < ds.length
  · refine .inr ⟨w1 i hlt, fun σ' H' => ∃ O3 δ3 s3, Gd B r sa H0 O0 W O3 σ' δ3 s3 H' ∧ Same (hid H1 O) (hid H' O3) ∧ (forL tg F (ds.drop (i + 1)) δ3 s3).post (FlP B r sa H0 O0 W O H D) (EPost B E r sa H0 O0),
      fun σ' H' ⟨O3, δ3, s3, a, b, c⟩ => ⟨ds.length - (i + 1), by omega, rfl, by omega, O3, δ3, s3, a, b, c⟩, fun x H' hy => ?_⟩
    obtain ⟨sm3, rp⟩ := w3 i x H' ds[i] (by simp [hlt]) hy
    have gd3 := gd2.step (Stp.of sm3) (gd2.row.same sm3)
    have smh := hid_same (O := O2) sm3
    rw [List.drop_eq_getElem_cons hlt] at hp
    obtain ⟨δ3, e, hp⟩ := post_lift (post_bind hp)
    refine hg gd3 rp e _ fun σ3 gd4 _ _ => hb gd4 _ (post_mono (post_bind hp) (fun fl s4 hq => ?_) (fun _ _ z => z))
    cases fl with
    | next δ4 => exact fun O' σ' H' g' sm' => ⟨O', δ4, s4, g', sm.trans (smh.trans sm'), hq⟩
    | cont δ4 => exact fun O' σ' H' g' sm' => ⟨O', δ4, s4, g', sm.trans (smh.trans sm'), hq⟩
    | brk δ4 => exact fun O' σ' H' g' sm' => hq O' σ' H' g' ((st.hid gd.rO).trans (sm.trans (smh.trans sm')))
    | ret d => exact hq
  · have e : i = ds.length := by omega
    subst e
    rw [List.drop_length] at hp
    exact .inl ⟨w2, hp O2 σ2 H2 gd2 ((st.hid gd.rO).trans sm)⟩
theorem rs_while {fuel : En → Nat} (hc : RdT B W E tc fc) (hb : RdS B W E t F) : RdS B W E (tWhile tc t) (cWhile fuel fc F) := by
  intro r sa H0 O0 O σ δ s H gd D h
  refine ⟨fun m σ2 H2 => ∃ O2 δ2 s2, Gd B r sa H0 O0 W O2 σ2 δ2 s2 H2 ∧ Same (hid H O) (hid H2 O2) ∧ (whileN fc F m δ2 s2).post (FlP B r sa H0 O0 W O H D) (EPost B E r sa H0 O0),
    ⟨fuel δ, O, δ, s, gd, Same.refl _, h⟩, ?_⟩
  rintro m σ2 H2 ⟨O2, δ2, s2, gd2, sm, hp⟩
  cases m with
  | zero => exact hp.elim
  | succ m =>
    refine hc gd2 _ (post_mono (post_bind hp) (fun b s3 hx H3 st ra => ?_) (fun _ _ z => z.up gd2))
    have gd3 := gd2.step st ra
    have sm3 := sm.trans (st.hid gd2.rO)
    cases b with
    | false => exact hx O2 σ2 H3 gd3 sm3
    | true =>
      refine ⟨fun σ' H' => ∃ O3 δ3 s3, Gd B r sa H0 O0 W O3 σ' δ3 s3 H' ∧ Same (hid H O) (hid H' O3) ∧ (whileN fc F m δ3 s3).post (FlP B r sa H0 O0 W O H D) (EPost B E r sa H0 O0),
        fun σ' H' q => ⟨m, Nat.lt_succ_self m, q⟩, hb gd3 _ (post_mono (post_bind hx) (fun fl s4 hq => ?_) (fun _ _ z => z))⟩
      cases fl with
      | next δ4 => exact fun O' σ' H' g' sm' => ⟨O', δ4, s4, g', sm3.trans sm', hq⟩
      | cont δ4 => exact fun O' σ' H' g' sm' => ⟨O', δ4, s4, g', sm3.trans sm', hq⟩
      | brk δ4 => exact fun O' σ' H' g' sm' => hq O' σ' H' g' (sm3.trans sm')
      | ret d => exact hq
end
end PV

namespace PV
open PySem L2
/-! ### owned lists -/
section
variable {B : Bs} {W : List Nat} {E : Option XK}
theorem Gd.setOwn {r sa : Addr} {H0 : Hp} {O0 O : List Addr} {σ : St} {δ : En} {s : S} {H : Hp} {i : Nat} {p : Addr} {vs : List V} {ds : List D} (g : Gd B r sa H0 O0 W O σ δ s H) (hi : i ∈ W) (hp : p ∈ O) (hp0 : p ∉ O0) (h : H p = some (.lst vs)) (hr : Reps B r (hid H O) vs ds)
    (hn : ∀ j d, j ∈ W → j ≠ i → δ[j]? = some (some d) → σ[j]? ≠ some (some (.ref p))) : Gd B r sa H0 O0 W O (σ.set i (some (.ref p))) (δ.set i (some (.lst ds))) s H := by
  refine ⟨by rw [List.length_set, List.length_set, g.len], g.row, g.r0, g.dom, g.dom0, g.sub, g.frsh, g.stp, fun j e hj q => ?_, fun j e hj q => ?_, fun j k p' e e' hj hk ne q1 q2 q3 q4 => ?_⟩
  · have z : i ≠ j := fun z => hj (z ▸ hi)
    rw [List.getElem?_set_ne z] at q ⊢
    exact g.val j e hj q
  · by_cases z : i = j
    · subst z
      have hl : i < δ.length := by
        rcases Nat.lt_or_ge i δ.length with h | h
        · exact h
        · rw [List.getElem?_eq_none (by rw [List.length_set]; exact h)] at q; cases q
      rw [List.getElem?_set_self hl] at q
      cases q
      exact ⟨p, vs, ds, rfl, by rw [List.getElem?_set_self (by rw [g.len]; exact hl)], hp, hp0, h, hr⟩
    · rw [List.getElem?_set_ne z] at q ⊢
      exact g.own j e hj q
  · by_cases z : i = j
    · have z' : i ≠ k := fun w => ne (z ▸ w ▸ rfl)
      subst z
      have hl : i < σ.length := by
        rcases Nat.lt_or_ge i σ.length with h | h
        · exact h
        · rw [List.getElem?_eq_none (by rw [List.length_set]; exact h)] at q3; cases q3
      rw [List.getElem?_set_self hl] at q3
      cases q3
      rw [List.getElem?_set_ne z'] at q2 q4
      exact hn k e' hk (Ne.symm z') q2 q4
    · by_cases z' : i = k
      · subst z'
        have hl : i < σ.length := by
          rcases Nat.lt_or_ge i σ.length with h | h
          · exact h
          · rw [List.getElem?_eq_none (by rw [List.length_set]; exact h)] at q4; cases q4
        rw [List.getElem?_set_self hl] at q4
        cases q4
        rw [List.getElem?_set_ne z] at q1 q3
        exact hn j e hj (Ne.symm z) q1 q3
      · rw [List.getElem?_set_ne z] at q1 q3
        rw [List.getElem?_set_ne z'] at q2 q4
        exact g.inj j k p' e e' hj hk ne q1 q2 q3 q4
/-- what is owned is written -/
theorem Gd.write {r sa : Addr} {H0 : Hp} {O0 O : List Addr} {σ : St} {δ : En} {s : S} {H : Hp} {i : Nat} {p : Addr} {d : D} {vs : List V} {ds : List D} (g : Gd B r sa H0 O0 W O σ δ s H) (hi : i ∈ W) (hd : δ[i]? = some (some d)) (hσ : σ[i]? = some (some (.ref p)))
    (hr : Reps B r (hid H O) vs ds) : Gd B r sa H0 O0 W O σ (δ.set i (some (.lst ds))) s (upd H p (.lst vs)) ∧ hid (upd H p (.lst vs)) O = hid H O := by
  obtain ⟨p', vs', ds', h1, h2, hp, hp0, h, hr'⟩ := g.own i d hi hd
  have e : p' = p := by rw [h2] at hσ; injection (Option.some.inj hσ) with z; injection z
  subst e
  have eh : hid (upd H p' (.lst vs)) O = hid H O := hid_upd hp
  have npr : p' ≠ r := fun z => hp0 (z ▸ g.r0)
  refine ⟨⟨by rw [List.length_set]; exact g.len, ⟨by rw [upd_ne (Ne.symm npr)]; exact g.row.1, g.row.2.elim (fun ⟨o, q⟩ => .inl ⟨o, by rw [upd_ne (ne_of q h (fun z => nomatch z))]; exact q⟩) .inr⟩, g.r0, fun q hq => ?_, g.dom0, g.sub, g.frsh, ?_, fun j e hj q => ?_, fun j e hj q => ?_, fun j k p2 e e' hj hk ne q1 q2 q3 q4 => ?_⟩, eh⟩
  · by_cases z : q = p'
    · rw [z, upd_same]; exact fun z => nomatch z
    · rw [upd_ne z]; exact g.dom q hq
  · intro a o na ha
    have : a ≠ p' := fun z => by
      subst z
      rcases g.frsh a hp with q | q
      · exact hp0 q
      · rw [q] at ha; cases ha
    rw [upd_ne this]; exact g.stp a o na ha
  · rw [eh]
    have z : i ≠ j := fun z => hj (z ▸ hi)
    rw [List.getElem?_set_ne z] at q
    exact g.val j e hj q
  · rw [eh]
    by_cases z : i = j
    · subst z
      have hl : i < δ.length := (List.getElem?_eq_some_iff.mp hd).1
      rw [List.getElem?_set_self hl] at q
      cases q
      exact ⟨p', vs, ds, rfl, hσ, hp, hp0, upd_same, hr⟩
    · rw [List.getElem?_set_ne z] at q
      obtain ⟨p2, vs2, ds2, q1, q2, q3, q4, q5, q6⟩ := g.own j e hj q
      have : p2 ≠ p' := fun w => by
        subst w
        exact g.inj i j p2 d e hi hj z hd q hσ q2
      exact ⟨p2, vs2, ds2, q1, q2, q3, q4, by rw [upd_ne this]; exact q5, q6⟩
  · have q1' : ∃ d1, δ[j]? = some (some d1) := by
      by_cases z : i = j
      · subst z; exact ⟨d, hd⟩
      · rw [List.getElem?_set_ne z] at q1; exact ⟨e, q1⟩
    have q2' : ∃ d1, δ[k]? = some (some d1) := by
      by_cases z : i = k
      · subst z; exact ⟨d, hd⟩
      · rw [List.getElem?_set_ne z] at q2; exact ⟨e', q2⟩
    obtain ⟨d1, z1⟩ := q1'
    obtain ⟨d2, z2⟩ := q2'
    exact g.inj j k p2 d1 d2 hj hk ne z1 z2 q3 q4
/-- a new list is owned -/
theorem Gd.grow {r sa : Addr} {H0 : Hp} {O0 O : List Addr} {σ : St} {δ : En} {s s' : S} {H H' : Hp} {p : Addr} {o : HO} (g : Gd B r sa H0 O0 W O σ δ s H) (st : Stp r H H') (ra : RowAt B r sa H' s') (hn : H p = none) (hp : H' p = some o) :
    Gd B r sa H0 O0 W (p :: O) σ δ s' H' ∧ Same (hid H O) (hid H' (p :: O)) := by
  have g1 := g.step st ra
  have sm : Same (hid H O) (hid H' (p :: O)) := fun a u e => by
    have ⟨h1, h2⟩ := hid_some e
    have na : a ≠ p := ne_of_none h2 hn
    rw [hid_out (by simp [na, h1])]
    exact st a u (fun z => h1 (z ▸ g.rO)) h2
  have n0 : H0 p = none := by
    cases q : H0 p with
    | none => rfl
    | some u =>
      by_cases z : p = r
      · subst z; rw [g.row.1] at hn; cases hn
      · rw [g.stp p u z q] at hn; cases hn
  refine ⟨⟨g.len, ra, g.r0, fun q hq => ?_, g.dom0, fun q hq => List.mem_cons_of_mem _ (g.sub q hq), fun q hq => ?_, g1.stp, fun i d hi q => ?_, fun i d hi q => ?_, g.inj⟩, sm⟩
  · rcases List.mem_cons.mp hq with z | z
    · rw [z, hp]; exact fun z => nomatch z
    · exact g1.dom q z
  · rcases List.mem_cons.mp hq with z | z
    · subst z; exact .inr n0
    · exact g.frsh q z
  · obtain ⟨v, h1, h2⟩ := g.val i d hi q
    exact ⟨v, h1, h2.mono sm⟩
  · obtain ⟨p', vs, ds, h1, h2, h3, h4, h5, h6⟩ := g.own i d hi q
    exact ⟨p', vs, ds, h1, h2, List.mem_cons_of_mem _ h3, h4, st p' _ (fun z => h4 (z ▸ g.r0)) h5, h6.mono sm⟩
theorem Gd.fresh0 {r sa : Addr} {H0 : Hp} {O0 O : List Addr} {σ : St} {δ : En} {s : S} {H : Hp} {p : Addr} (g : Gd B r sa H0 O0 W O σ δ s H) (hn : H p = none) : p ∉ O ∧ p ∉ O0 := ⟨fun z => g.dom p z hn, fun z => g.dom p (g.sub p z) hn⟩
/-- an expression that makes a new list -/
def RdL (B : Bs) (W : List Nat) (E : Option XK) (t : TE) (f : En → M (List D)) : Prop :=
  ∀ {r sa : Addr} {H0 : Hp} {O0 O : List Addr} {σ : St} {δ : En} {s : S} {H : Hp}, Gd B r sa H0 O0 W O σ δ s H → ∀ Q : VK,
    (f δ s).post (fun ds s' => ∀ p vs H', Stp r H H' → RowAt B r sa H' s' → H p = none → H' p = some (.lst vs) → Reps B r (hid H' (p :: O)) vs ds → Q (.ref p) H') (EPost B E r sa H O) → t σ H Q
def cOfL (f : En → M (List D)) : En → M D := fun δ s => (f δ s).bind fun ds s1 => .ok (.lst ds) s1
theorem rd_ofL {te : TE} {f : En → M (List D)} (h : RdL B W E te f) : RdE B W E te (cOfL f) := by
  intro r sa H0 O0 O σ δ s H gd Q hp
  refine h gd _ (post_mono (post_bind hp) (fun ds s1 hx p vs H' st ra hn hv hr => ?_) (fun _ _ z => z))
  have hpO := (gd.fresh0 hn).1
  exact hx _ _ st ra (.lst (by rw [hid_out hpO]; exact hv) (hr.mono (hid_sub fun a z => List.mem_cons_of_mem _ z)))
def cLstL (fa : En → M (List D)) : En → M (List D) := fun δ s => (fa δ s).bind fun ds s1 => if ds.length ≤ 100000 then .ok ds s1 else .stuck
theorem rl_lst {ta : TA} {fa : En → M (List D)} (ha : RdA B W E ta fa) : RdL B W E (tLst ta) (cLstL fa) := by
  intro r sa H0 O0 O σ δ s H gd Q h
  refine ha gd _ (post_mono (post_bind h) (fun x s1 hx v H1 st ra rp => ?_) (fun _ _ z => z))
  split at hx
  · rename_i hl
    refine ⟨Evl.sz_of (by rw [rp.length]; exact hl), fun p hp => ?_⟩
    have n0 : H p = none := by
      cases q : H p with
      | none => rfl
      | some u =>
        by_cases z : p = r
        · subst z; rw [ra.1] at hp; cases hp
        · rw [st p u z q] at hp; cases hp
    refine hx p v _ (st.trans (Stp.new hp)) (ra.new hp) n0 upd_same (rp.mono fun a u e => ?_)
    have ⟨h1, h2⟩ := hid_some e
    have na : a ≠ p := ne_of_none h2 hp
    rw [hid_out (by simp [na, h1]), upd_ne na]; exact h2
  · exact hx.elim
def cSetL (i : Nat) (f : En → M (List D)) : En → M Fl := fun δ s => (f δ s).bind fun ds s1 => .ok (.next (δ.set i (some (.lst ds)))) s1
theorem rs_own {i : Nat} {te : TE} {f : En → M (List D)} (h : RdL B W E te f) (hi : decide (i ∈ W) = true := by rfl) : RdS B W E (tAsg te (gName i)) (cSetL i f) := by
  intro r sa H0 O0 O σ δ s H gd D hp
  refine h gd _ (post_mono (post_bind hp) (fun ds s1 hx p vs H' st ra hn hv hr => ?_) (fun _ _ z => z.up gd))
  obtain ⟨g1, sm⟩ := gd.grow st ra hn hv
  have ⟨n1, n2⟩ := gd.fresh0 hn
  refine hx _ _ _ (g1.setOwn (of_decide_eq_true hi) List.mem_cons_self n2 hv hr fun j d hj _ q z => ?_) sm
  obtain ⟨p', _, _, _, h2, h3, _⟩ := gd.own j d hj q
  rw [z] at h2; injection (Option.some.inj h2) with w; injection w with w
  exact n1 (w ▸ h3)
/-- x.append(e) -/
def ownL (δ : En) (i : Nat) : Option (List D) := δ[i]?.join.bind asLst
def cApp (i : Nat) (f : En → M D) : En → M Fl := fun δ s => (lift (ownL δ i) s).bind fun ds s0 => (f δ s0).bind fun d s1 => if ds.length < 100000 then .ok (.next (δ.set i (some (.lst (ds ++ [d]))))) s1 else .stuck
theorem ownL_some {δ : En} {i : Nat} {ds : List D} (h : ownL δ i = some ds) : δ[i]? = some (some (.lst ds)) := by
  obtain ⟨d, e1, e2⟩ := Option.bind_eq_some_iff.mp h
  cases asLst_some e2
  exact join_some e1
theorem rs_app {i : Nat} {te : TE} {f : En → M D} (h : RdE B W E te f) (hi : decide (i ∈ W) = true := by rfl) : RdS B W E (tDrop (tBM B.K "list" rAppend (tVar i) (tCons te tNil))) (cApp i f) := by
  intro r sa H0 O0 O σ δ s H gd D hp
  obtain ⟨ds, e0, hp⟩ := post_lift (post_bind hp)
  have e1 := ownL_some e0
  obtain ⟨p, vs, ds', h1, h2, h3, h4, h5, h6⟩ := gd.own i _ (of_decide_eq_true hi) e1
  cases h1
  refine ⟨_, h2, .inl ⟨rfl, _, SqL.of h5⟩, h gd _ (post_mono (post_bind hp) (fun d s1 hx v H1 st ra rp => ?_) (fun _ _ z => z.up gd))⟩
  split at hx
  · rename_i hl
    have g1 := gd.step st ra
    have h5' := st p _ (fun z => h4 (z ▸ gd.r0)) h5
    have sm := st.hid gd.rO
    refine ⟨p, vs, v, rfl, rfl, h5', Evl.sz_lt (by rw [h6.length]; exact hl), ?_⟩
    obtain ⟨g2, eh⟩ := g1.write (of_decide_eq_true hi) e1 h2 ((h6.mono sm).append (.cons rp .nil))
    exact hx O σ _ g2 (by rw [eh]; exact sm)
  · exact hx.elim
/-- x.extend(e) of a list -/
def cExt (i : Nat) (f : En → M D) : En → M Fl := fun δ s => (lift (ownL δ i) s).bind fun ds s0 => (f δ s0).bind fun d s1 => (lift (asLst d) s1).bind fun es s2 => if ds.length + es.length ≤ 100000 then .ok (.next (δ.set i (some (.lst (ds ++ es))))) s2 else .stuck
theorem rs_ext {i : Nat} {te : TE} {f : En → M D} (h : RdE B W E te f) (hi : decide (i ∈ W) = true := by rfl) : RdS B W E (tDrop (tBM B.K "list" rExtend (tVar i) (tCons te tNil))) (cExt i f) := by
  intro r sa H0 O0 O σ δ s H gd D hp
  obtain ⟨ds, e0, hp⟩ := post_lift (post_bind hp)
  have e1 := ownL_some e0
  obtain ⟨p, vs, ds', h1, h2, h3, h4, h5, h6⟩ := gd.own i _ (of_decide_eq_true hi) e1
  cases h1
  refine ⟨_, h2, .inl ⟨rfl, _, SqL.of h5⟩, h gd _ (post_mono (post_bind hp) (fun d s1 hx v H1 st ra rp => ?_) (fun _ _ z => z.up gd))⟩
  obtain ⟨es, e2, hy⟩ := post_lift (post_bind hx)
  cases asLst_some e2
  obtain ⟨b, ws, rfl, hb, hw⟩ := rp.inv_lst
  split at hy
  · rename_i hl
    have g1 := gd.step st ra
    have h5' := st p _ (fun z => h4 (z ▸ gd.r0)) h5
    have sm := st.hid gd.rO
    refine ⟨p, b, vs, ws, rfl, rfl, h5', hid_le _ _ hb, Evl.sz_of (by rw [h6.length, hw.length]; exact hl), ?_⟩
    obtain ⟨g2, eh⟩ := g1.write (of_decide_eq_true hi) e1 h2 ((h6.mono sm).append hw)
    exact hy O σ _ g2 (by rw [eh]; exact sm)
  · exact hy.elim
/-- x.pop(), its value dropped -/
def cPop (i : Nat) : En → M Fl := fun δ s => (lift (ownL δ i) s).bind fun ds s0 => if ds ≠ [] then .ok (.next (δ.set i (some (.lst ds.dropLast)))) s0 else .stuck
theorem Reps.dropLast {r : Addr} {H : Hp} {vs : List V} {ds : List D} (h : Reps B r H vs ds) : Reps B r H vs.dropLast ds.dropLast := by
  rw [List.dropLast_eq_take, List.dropLast_eq_take, h.length]; exact h.take _
theorem rs_pop {i : Nat} (hi : decide (i ∈ W) = true := by rfl) : RdS B W E (tDrop (tBM0 B.K "list" rPop (tVar i))) (cPop i) := by
  intro r sa H0 O0 O σ δ s H gd D hp
  obtain ⟨ds, e0, hp⟩ := post_lift (post_bind hp)
  have e1 := ownL_some e0
  obtain ⟨p, vs, ds', h1, h2, h3, h4, h5, h6⟩ := gd.own i _ (of_decide_eq_true hi) e1
  cases h1
  split at hp
  · rename_i hl
    have hv : 0 < vs.length := by rw [h6.length]; cases ds with | nil => exact absurd rfl hl | cons _ _ => simp
    refine ⟨_, h2, .inl ⟨rfl, _, SqL.of h5⟩, p, vs, vs[vs.length - 1]'(by omega), rfl, rfl, h5, by simp [show vs.length - 1 < vs.length by omega], ?_⟩
    obtain ⟨g2, eh⟩ := gd.write (of_decide_eq_true hi) e1 h2 h6.dropLast
    exact hp O σ _ g2 (by rw [eh]; exact Same.refl _)
  · exact hp.elim
/-- x[i] = e -/
def cPut (i : Nat) (fi f : En → M D) : En → M Fl := fun δ s => (lift (ownL δ i) s).bind fun ds s0 => (f δ s0).bind fun d s1 => (fi δ s1).bind fun k s2 => (lift (asI k) s2).bind fun j s3 => (lift (ixN ds.length j) s3).bind fun m s4 => .ok (.next (δ.set i (some (.lst (ds.set m d))))) s4
theorem rs_put {i : Nat} {te ti : TE} {f fi : En → M D} (h : RdE B W E te f) (h' : RdE B W E ti fi) (hi : decide (i ∈ W) = true := by rfl) : RdS B W E (tAsg te (gSub (tVar i) ti rSetL)) (cPut i fi f) := by
  intro r sa H0 O0 O σ δ s H gd D hp
  obtain ⟨ds, e0, hp⟩ := post_lift (post_bind hp)
  have e1 := ownL_some e0
  obtain ⟨p, vs, ds', h1, h2, h3, h4, h5, h6⟩ := gd.own i _ (of_decide_eq_true hi) e1
  cases h1
  refine h gd _ (post_mono (post_bind hp) (fun d s1 hx v H1 st ra rp => ?_) (fun _ _ z => z.up gd))
  have g1 := gd.step st ra
  refine ⟨_, h2, h' g1 _ (post_mono (post_bind hx) (fun k s2 hx w H2 st2 ra2 rp2 => ?_) (fun _ _ z => z.up g1))⟩
  obtain ⟨j, e2, hy⟩ := post_lift (post_bind hx)
  cases asI_some e2
  cases rp2
  obtain ⟨m, e3, hz⟩ := post_lift (post_bind hy)
  have g2 := g1.step st2 ra2
  have h5' := (st.trans st2) p _ (fun z => h4 (z ▸ gd.r0)) h5
  have sm := (st.trans st2).hid gd.rO
  refine ⟨p, vs, _, m, rfl, rfl, h5', by rw [h6.length]; exact e3, ?_⟩
  obtain ⟨g3, eh⟩ := g2.write (of_decide_eq_true hi) e1 h2 ((h6.mono sm).set m (rp.mono (st2.hid gd.rO)))
  exact hz O σ _ g3 (by rw [eh]; exact sm)

/-! ### a, b = e, f -/
inductive Cell where
  | v (d : D)
  | n (ds : List D)
def CellR (B : Bs) (r : Addr) (H0 : Hp) (O0 O O' : List Addr) (H' : Hp) : V → Cell → Prop
  | v, .v d => Rep B r (hid H' O') v d
  | v, .n ds => ∃ p vs, v = .ref p ∧ p ∈ O' ∧ p ∉ O ∧ p ∉ O0 ∧ H' p = some (.lst vs) ∧ Reps B r (hid H' O') vs ds
/-- values, from the left: each a value or a new list -/
def RdP (B : Bs) (W : List Nat) (E : Option XK) (t : TE) (f : En → M Cell) : Prop :=
  ∀ {r sa : Addr} {H0 : Hp} {O0 O : List Addr} {σ : St} {δ : En} {s : S} {H : Hp}, Gd B r sa H0 O0 W O σ δ s H → ∀ Q : VK,
    (f δ s).post (fun c s' => ∀ v O' H', Gd B r sa H0 O0 W O' σ δ s' H' → Same (hid H O) (hid H' O') → (∀ a ∈ O, a ∈ O') → CellR B r H0 O0 O O' H' v c → (∀ a vs, a ∈ O → a ≠ r → H a = some (.lst vs) → H' a = some (.lst vs)) → Q v H') (EPost B E r sa H0 O0) → t σ H Q
def cV (f : En → M D) : En → M Cell := fun δ s => (f δ s).bind fun d s1 => .ok (.v d) s1
def cN (f : En → M (List D)) : En → M Cell := fun δ s => (f δ s).bind fun d s1 => .ok (.n d) s1
theorem rp_v {te : TE} {f : En → M D} (h : RdE B W E te f) : RdP B W E te (cV f) := by
  intro r sa H0 O0 O σ δ s H gd Q hp
  exact h gd _ (post_mono (post_bind hp) (fun x s1 hx v H1 st ra rp => hx v O H1 (gd.step st ra) (st.hid gd.rO) (fun _ z => z) rp fun a vs _ na ha => st a _ na ha) (fun _ _ z => z.up gd))
theorem rp_n {te : TE} {f : En → M (List D)} (h : RdL B W E te f) : RdP B W E te (cN f) := by
  intro r sa H0 O0 O σ δ s H gd Q hp
  refine h gd _ (post_mono (post_bind hp) (fun x s1 hx p vs H1 st ra hn hv hr => ?_) (fun _ _ z => z.up gd))
  obtain ⟨g1, sm⟩ := gd.grow st ra hn hv
  have ⟨n1, n2⟩ := gd.fresh0 hn
  exact hx _ _ _ g1 sm (fun a z => List.mem_cons_of_mem _ z) ⟨p, vs, rfl, List.mem_cons_self, n1, n2, hv, hr⟩ fun a vs _ na ha => st a _ na ha
def putC (W : List Nat) (i : Nat) (c : Cell) (δ : En) : Option En := match c with
  | .v d => if i ∈ W then none else some (δ.set i (some d))
  | .n ds => if i ∈ W then some (δ.set i (some (.lst ds))) else none
theorem putC_v {W : List Nat} {i : Nat} {d : D} {δ : En} : putC W i (.v d) δ = if i ∈ W then none else some (δ.set i (some d)) := rfl
theorem putC_n {W : List Nat} {i : Nat} {ds : List D} {δ : En} : putC W i (.n ds) δ = if i ∈ W then some (δ.set i (some (.lst ds))) else none := rfl
theorem Gd.putC {r sa : Addr} {H0 : Hp} {O0 O O' : List Addr} {σ : St} {δ δ' : En} {s : S} {H : Hp} {i : Nat} {v : V} {c : Cell} (g : Gd B r sa H0 O0 W O' σ δ s H) (hc : CellR B r H0 O0 O O' H v c)
    (hn : ∀ p, v = .ref p → p ∉ O → ∀ j d, j ∈ W → j ≠ i → δ[j]? = some (some d) → σ[j]? ≠ some (some (.ref p))) (e : putC W i c δ = some δ') : Gd B r sa H0 O0 W O' (σ.set i (some v)) δ' s H := by
  cases c with
  | v d =>
    rw [putC_v] at e
    split at e
    · cases e
    · rename_i h; cases e; exact g.set h hc
  | n ds =>
    rw [putC_n] at e
    split at e
    · rename_i h; cases e
      obtain ⟨p, vs, rfl, h1, h2, h3, h4, h5⟩ := hc
      exact g.setOwn h h1 h3 h4 h5 (hn p rfl h2)
    · cases e
def setAll : St → List Nat → List V → St
  | σ, i :: is, v :: vs => setAll (σ.set i (some v)) is vs
  | σ, _, _ => σ
/-- values from the left, then all the slots -/
def RdPs (B : Bs) (W : List Nat) (E : Option XK) (ta : TA) (is : List Nat) (F : En → En → M En) : Prop :=
  ∀ {r sa : Addr} {H0 : Hp} {O0 O : List Addr} {σ σa : St} {δ δa : En} {s : S} {H : Hp}, Gd B r sa H0 O0 W O σ δ s H → Gd B r sa H0 O0 W O σa δa s H → ∀ Q : List V → Hp → Prop,
    (F δ δa s).post (fun δ' s' => ∀ vs O' H', Gd B r sa H0 O0 W O' (setAll σa is vs) δ' s' H' → Same (hid H O) (hid H' O') → vs.length = is.length → Q vs H') (EPost B E r sa H0 O0) → ta σ H Q
def pNil : En → En → M En := fun _ δa s => .ok δa s
def pCons (W : List Nat) (i : Nat) (f : En → M Cell) (F : En → En → M En) : En → En → M En := fun δ δa s => (f δ s).bind fun c s1 => (lift (putC W i c δa) s1).bind fun δb s2 => F δ δb s2
theorem rps_nil : RdPs B W E tNil [] pNil := by
  intro r sa H0 O0 O σ σa δ δa s H gd ga Q h
  exact h [] O H ga (Same.refl _) rfl
/-- behind a cell: the other slots stand too -/
theorem Gd.cell {r sa : Addr} {H0 : Hp} {O0 O O' : List Addr} {σ σa : St} {δ δa : En} {s s' : S} {H H' : Hp} (g : Gd B r sa H0 O0 W O σa δa s H) (g' : Gd B r sa H0 O0 W O' σ δ s' H') (sm : Same (hid H O) (hid H' O')) (sb : ∀ a ∈ O, a ∈ O') (kp : ∀ a vs, a ∈ O → a ≠ r → H a = some (.lst vs) → H' a = some (.lst vs)) :
    Gd B r sa H0 O0 W O' σa δa s' H' := by
  refine ⟨g.len, g'.row, g.r0, g'.dom, g.dom0, g'.sub, g'.frsh, g'.stp, fun j e hj q => ?_, fun j e hj q => ?_, g.inj⟩
  · obtain ⟨v, h1, h2⟩ := g.val j e hj q
    exact ⟨v, h1, h2.mono sm⟩
  · obtain ⟨p, vs, ds, h1, h2, h3, h4, h5, h6⟩ := g.own j e hj q
    exact ⟨p, vs, ds, h1, h2, sb p h3, h4, kp p vs h3 (fun z => h4 (z ▸ g.r0)) h5, h6.mono sm⟩
theorem rps_cons {te : TE} {tr : TA} {i : Nat} {is : List Nat} {f : En → M Cell} {F : En → En → M En} (h1 : RdP B W E te f) (h2 : RdPs B W E tr is F) : RdPs B W E (tCons te tr) (i :: is) (pCons W i f F) := by
  intro r sa H0 O0 O σ σa δ δa s H gd ga Q hp
  refine h1 gd _ (post_mono (post_bind hp) (fun c s1 hx v O1 H1 g1 sm1 sb1 c1 k1 => ?_) (fun _ _ z => z))
  obtain ⟨δb, e, hy⟩ := post_lift (post_bind hx)
  have ga1 := ga.cell g1 sm1 sb1 k1
  have ga2 := ga1.putC (i := i) c1 (fun p _ hnp k d hk _ q z => by
    obtain ⟨p', _, _, _, q2, q3, _⟩ := ga.own k d hk q
    rw [z] at q2; injection (Option.some.inj q2) with w; injection w with w
    exact hnp (w ▸ q3)) e
  refine h2 g1 ga2 _ (post_mono hy (fun δ' s2 hz vs O' H' g' sm' hl => ?_) (fun _ _ z => z))
  exact hz (v :: vs) O' H' g' (sm1.trans sm') (by rw [List.length_cons, List.length_cons, hl])
def cPar (F : En → En → M En) : En → M Fl := fun δ s => (F δ δ s).bind fun δ' s1 => .ok (.next δ') s1
theorem rs_par {i j : Nat} {ta : TA} {F : En → En → M En} (h : RdPs B W E ta [i, j] F) : RdS B W E (tPar i j ta) (cPar F) := by
  intro r sa H0 O0 O σ δ s H gd D hp
  refine h gd gd _ (post_mono (post_bind hp) (fun δ' s1 hx vs O' H' g' sm' hl => ?_) (fun _ _ z => z))
  match vs, hl with
  | [v, w], _ => exact ⟨v, w, rfl, hx O' _ H' g' sm'⟩
theorem rs_par3 {i j l : Nat} {ta : TA} {F : En → En → M En} (h : RdPs B W E ta [i, j, l] F) : RdS B W E (tPar3 i j l ta) (cPar F) := by
  intro r sa H0 O0 O σ δ s H gd D hp
  refine h gd gd _ (post_mono (post_bind hp) (fun δ' s1 hx vs O' H' g' sm' hl => ?_) (fun _ _ z => z))
  match vs, hl with
  | [u, v, w], _ => exact ⟨u, v, w, rfl, hx O' _ H' g' sm'⟩
def gNames : List Nat → TGs
  | [] => gNil
  | i :: is => gCons (gName i) (gNames is)
theorem gNames_all : ∀ (is : List Nat) (vs : List V) (σ : St) (H : Hp) (Q : St → Hp → Prop), vs.length = is.length → Q (setAll σ is vs) H → gNames is vs σ H Q
  | [], [], σ, H, Q, _, q => ⟨rfl, q⟩
  | i :: is, v :: vs, σ, H, Q, hl, q => ⟨v, vs, rfl, gNames_all is vs (σ.set i (some v)) H Q (by simpa using hl) q⟩
theorem rs_parT {is : List Nat} {ta : TA} {F : En → En → M En} (h : RdPs B W E ta is F) (hz : is.length ≤ 100000 := by decide) : RdS B W E (tAsg (tTup ta) (gTup B.K is.length (gNames is))) (cPar F) := by
  intro r sa H0 O0 O σ δ s H gd D hp
  refine h gd gd _ (post_mono (post_bind hp) (fun δ' s1 hx vs O' H' g' sm' hl => ⟨Evl.sz_of (by omega), fun p hn => ?_⟩) (fun _ _ z => z))
  refine ⟨p, vs, rfl, SqT.of upd_same, hl, gNames_all is vs σ _ _ hl (hx O' _ _ (g'.step (Stp.new hn) (g'.row.new hn)) (sm'.trans (hid_new hn g'.dom).1))⟩
end
end PV

namespace PV
open PySem L2
/-! ### comprehensions -/
def wipeD (δ : En) : List Nat → En
  | [] => δ
  | v :: vs => (wipeD δ vs).set v none
theorem wipeD_len (δ : En) : ∀ vs, (wipeD δ vs).length = δ.length
  | [] => rfl
  | v :: vs => by unfold wipeD; rw [List.length_set, wipeD_len δ vs]
theorem wipeD_some {δ : En} {i : Nat} {d : D} : ∀ {vs : List Nat}, (wipeD δ vs)[i]? = some (some d) → δ[i]? = some (some d) ∧ i ∉ vs
  | [], h => ⟨h, by simp⟩
  | v :: vs, h => by
    unfold wipeD at h
    by_cases e : v = i
    · subst e
      rw [List.getElem?_set] at h
      split at h
      · split at h <;> cases h
      · rename_i z; exact absurd rfl z
    · rw [List.getElem?_set_ne e] at h
      have ⟨h1, h2⟩ := wipeD_some h
      exact ⟨h1, by simp [h2, Ne.symm e]⟩
theorem wipe_get {σ : St} {i : Nat} : ∀ {vs : List Nat}, i ∉ vs → (wipe σ vs)[i]? = σ[i]?
  | [], _ => rfl
  | v :: vs, h => by
    unfold wipe
    have ⟨h1, h2⟩ : i ≠ v ∧ i ∉ vs := by simpa using h
    rw [List.getElem?_set_ne (Ne.symm h1), wipe_get h2]
theorem wipe_at {σ : St} {i : Nat} : ∀ {vs : List Nat}, i ∈ vs → i < σ.length → (wipe σ vs)[i]? = some none
  | [], h, _ => by cases h
  | v :: vs, h, hl => by
    unfold wipe
    by_cases e : v = i
    · subst e; rw [List.getElem?_set_self (by rw [wipe_length]; exact hl)]
    · rw [List.getElem?_set_ne e]
      exact wipe_at (by simpa [Ne.symm e] using h) hl
theorem wipe_ext {σ σ' : St} {vs : List Nat} (hl : σ'.length = σ.length) (h : ∀ i, i ∉ vs → σ'[i]? = σ[i]?) : wipe σ' vs = wipe σ vs := by
  refine List.ext_getElem? fun i => ?_
  by_cases hi : i ∈ vs
  · rcases Nat.lt_or_ge i σ.length with q | q
    · rw [wipe_at hi q, wipe_at hi (by omega)]
    · rw [List.getElem?_eq_none (by rw [wipe_length]; omega), List.getElem?_eq_none (by rw [wipe_length]; omega)]
  · rw [wipe_get hi, wipe_get hi, h i hi]
section
variable {B : Bs} {W : List Nat} {E : Option XK}
theorem Gd.wipe {r sa : Addr} {H0 : Hp} {O0 O : List Addr} {σ : St} {δ : En} {s : S} {H : Hp} (g : Gd B r sa H0 O0 W O σ δ s H) (vs : List Nat) : Gd B r sa H0 O0 W O (L2.wipe σ vs) (wipeD δ vs) s H := by
  refine ⟨by rw [wipe_length, wipeD_len, g.len], g.row, g.r0, g.dom, g.dom0, g.sub, g.frsh, g.stp, fun j e hj q => ?_, fun j e hj q => ?_, fun j k p e e' hj hk ne q1 q2 q3 q4 => ?_⟩
  · have ⟨h1, h2⟩ := wipeD_some q
    rw [wipe_get h2]; exact g.val j e hj h1
  · have ⟨h1, h2⟩ := wipeD_some q
    rw [wipe_get h2]; exact g.own j e hj h1
  · have ⟨h1, h2⟩ := wipeD_some q1
    have ⟨h3, h4⟩ := wipeD_some q2
    rw [wipe_get h2] at q3
    rw [wipe_get h4] at q4
    exact g.inj j k p e e' hj hk ne h1 h3 q3 q4
def compL (tg : D → En → Option En) (c : En → M Bool) (f : En → M D) (δ : En) : List D → M (List D)
  | [], s => .ok [] s
  | d :: ds, s => (lift (tg d δ) s).bind fun δ1 s1 => (c δ1 s1).bind fun b s2 => if b then (f δ1 s2).bind fun y s3 => (compL tg c f δ ds s3).bind fun ys s4 => .ok (y :: ys) s4 else compL tg c f δ ds s2
def cComp (vs : List Nat) (src : En → M (List D)) (tg : D → En → Option En) (c : En → M Bool) (f : En → M D) : En → M (List D) := fun δ s => (src δ s).bind fun ds s1 => if ds.length ≤ 100000 then compL tg c f (wipeD δ vs) ds s1 else .stuck
def cYes : En → M Bool := fun _ s => .ok true s
theorem rt_yes : RdT B W E tYes cYes := by
  intro r sa H0 O0 O σ δ s H gd Q h
  exact h H (Stp.refl H) gd.row
theorem post_bind' {α β : Type} {o : Out α} {k : α → S → Out β} {P : β → S → Prop} {R : Err → S → Prop} (h : o.post (fun a s => (k a s).post P R) R) : (o.bind k).post P R := by
  cases o <;> exact h
theorem rl_comp {wi : TI} {src : En → M (List D)} {ts vs : List Nat} {g : TG} {tg : D → En → Option En} {tt : TT} {c : En → M Bool} {te : TE} {f : En → M D} (hi : RdI B W none wi src) (hg : RdG B W ts g tg) (ht : RdT B W none tt c) (he : RdE B W none te f) (hs : (ts.all fun i => decide (i ∈ vs)) = true := by rfl) :
    RdL B W none (tLc wi g tt te vs) (cComp vs src tg c f) := by
  intro r sa H0 O0 O σ δ s H gd Q h
  refine hi gd _ (post_mono (post_bind h) (fun ds s1 hx J H1 st ra wk Dl hD => ?_) (fun _ _ z => z))
  have gd1 := gd.step st ra
  have nD : H Dl = none := by
    cases q : H Dl with
    | none => rfl
    | some u =>
      by_cases z : Dl = r
      · subst z; rw [ra.1] at hD; cases hD
      · rw [st Dl u z q] at hD; cases hD
  have ⟨nO, n0⟩ := gd1.fresh0 hD
  have nr : Dl ≠ r := fun z => nO (z ▸ gd.rO)
  obtain ⟨gd2, sm2⟩ := gd1.grow (p := Dl) (o := .lst []) (Stp.new hD) (ra.new hD) hD upd_same
  split at hx
  · rename_i hlen
    refine ⟨fun i m H2 => m = ds.length - i ∧ i ≤ ds.length ∧ ∃ acc ws s2, acc.length ≤ i ∧ Gd B r sa H0 O0 W (Dl :: O) σ δ s2 H2 ∧ H2 Dl = some (.lst ws) ∧ Reps B r (hid H2 (Dl :: O)) ws acc ∧ Stp r H1 H2 ∧ Same (hid H1 O) (hid H2 (Dl :: O)) ∧
        (compL tg c f (wipeD δ vs) (ds.drop i) s2).post (fun ys s' => ∀ p vs H', Stp r H H' → RowAt B r sa H' s' → H p = none → H' p = some (.lst vs) → Reps B r (hid H' (p :: O)) vs (acc ++ ys) → Q (.ref p) H') (fun _ _ => False),
      ⟨ds.length, by omega, by omega, [], [], s1, Nat.le_refl _, gd2, upd_same, .nil, Stp.new hD, sm2, by rw [List.drop_zero]; exact hx⟩, ?_⟩
    rintro i m H2 ⟨rfl, hle, acc, ws, s2, hal, g2, hD2, rws, st2, sm, hp⟩
    obtain ⟨w1, w2, w3⟩ := wk (Dl :: O) H2 sm g2.dom
    by_cases hlt : i < ds.length
    · refine .inr ⟨w1 i hlt, fun H' => ∃ acc ws s2, acc.length ≤ i + 1 ∧ Gd B r sa H0 O0 W (Dl :: O) σ δ s2 H' ∧ H' Dl = some (.lst ws) ∧ Reps B r (hid H' (Dl :: O)) ws acc ∧ Stp r H1 H' ∧ Same (hid H1 O) (hid H' (Dl :: O)) ∧
        (compL tg c f (wipeD δ vs) (ds.drop (i + 1)) s2).post (fun ys s' => ∀ p vs H', Stp r H H' → RowAt B r sa H' s' → H p = none → H' p = some (.lst vs) → Reps B r (hid H' (p :: O)) vs (acc ++ ys) → Q (.ref p) H') (fun _ _ => False),
        fun H' ⟨acc, ws, s2, a, b⟩ => ⟨ds.length - (i + 1), by omega, rfl, by omega, acc, ws, s2, a, b⟩, fun x H' hy => ?_⟩
      obtain ⟨sm3, rp⟩ := w3 i x H' ds[i] (by simp [hlt]) hy
      have g3 := g2.step (Stp.of sm3) (g2.row.same sm3)
      have smh := hid_same (O := Dl :: O) sm3
      rw [List.drop_eq_getElem_cons hlt] at hp
      obtain ⟨δ3, e, hp⟩ := post_lift (post_bind hp)
      refine hg (g3.wipe vs) rp e _ fun σ3 g4 ag lg => ?_
      refine ⟨by rw [wipe_ext lg fun j hj => ag j fun z => hj (of_decide_eq_true (List.all_eq_true.mp hs j z)), wipe_ext (wipe_length σ vs) fun j hj => wipe_get hj], ?_⟩
      refine ht g4 _ (post_mono (post_bind hp) (fun b s3 hq H3 st3 ra3 => ?_) (fun _ _ z => z))
      have g5 := g4.step st3 ra3
      have st13 : Stp r H2 H3 := (Stp.of sm3).trans st3
      have smf := smh.trans (st3.hid g2.rO)
      cases b with
      | false =>
        show ∃ acc ws s2, _
        exact ⟨acc, ws, s3, by omega, g2.step st13 ra3, st13 Dl _ nr hD2, rws.mono smf, st2.trans st13, sm.trans smf, hq⟩
      | true =>
        show te σ3 H3 _
        refine he g5 _ (post_mono (post_bind hq) (fun y s4 hq y' H4 st4 ra4 rp4 => ?_) (fun _ _ z => z))
        have st14 : Stp r H2 H4 := st13.trans st4
        have sm4 := smf.trans (st4.hid g2.rO)
        have g6 := g2.step st14 ra4
        have hD4 := st14 Dl _ nr hD2
        refine ⟨ws, hD4, Evl.sz_lt (by rw [rws.length]; omega), acc ++ [y], ws ++ [y'], s4, by simp; omega, ?_, upd_same, ?_, ?_, ?_, ?_⟩
        · have eh : hid (upd H4 Dl (.lst (ws ++ [y']))) (Dl :: O) = hid H4 (Dl :: O) := hid_upd List.mem_cons_self
          refine ⟨g6.len, ⟨by rw [upd_ne (Ne.symm nr)]; exact g6.row.1, g6.row.2.elim (fun ⟨o, q⟩ => .inl ⟨o, by rw [upd_ne (ne_of q hD4 (fun z => nomatch z))]; exact q⟩) .inr⟩, g6.r0, fun q hq => ?_, g6.dom0, g6.sub, g6.frsh, fun a o na ha => ?_, fun j d hj q => ?_, fun j d hj q => ?_, g6.inj⟩
          · by_cases z : q = Dl
            · rw [z, upd_same]; exact fun z => nomatch z
            · rw [upd_ne z]; exact g6.dom q hq
          · have : a ≠ Dl := fun z => by
              subst z
              have := gd.stp a o na ha
              rw [nD] at this; cases this
            rw [upd_ne this]; exact g6.stp a o na ha
          · rw [eh]; exact g6.val j d hj q
          · rw [eh]
            obtain ⟨p', vs', ds', q1, q2, q3, q4, q5, q6⟩ := g6.own j d hj q
            obtain ⟨p2, _, _, _, q2', q3', _⟩ := gd.own j d hj q
            have ep : p2 = p' := by rw [q2] at q2'; injection (Option.some.inj q2') with w; injection w with w; exact w.symm
            have : p' ≠ Dl := fun z => nO (z ▸ ep ▸ q3')
            exact ⟨p', vs', ds', q1, q2, q3, q4, by rw [upd_ne this]; exact q5, q6⟩
        · rw [hid_upd List.mem_cons_self]
          exact (rws.mono sm4).append (.cons rp4 .nil)
        · intro a o na ha
          have : a ≠ Dl := ne_of_none ha hD
          rw [upd_ne this]; exact (st2.trans st14) a o na ha
        · rw [hid_upd List.mem_cons_self]; exact sm.trans sm4
        · refine post_mono (post_bind hq) (fun ys s5 hz p vs H' a b c d e => hz p vs H' a b c d ?_) (fun _ _ z => z)
          rw [List.append_assoc] at e; exact e
    · have e : i = ds.length := by omega
      subst e
      rw [List.drop_length] at hp
      refine .inl ⟨w2, hp Dl ws H2 (st.trans st2) g2.row nD hD2 (by rw [List.append_nil]; exact rws)⟩
  · exact hx.elim
def cLc (vs : List Nat) (src : En → M (List D)) (tg : D → En → Option En) (c : En → M Bool) (f : En → M D) : En → M D := cOfL (cComp vs src tg c f)
theorem rd_comp {wi : TI} {src : En → M (List D)} {ts vs : List Nat} {g : TG} {tg : D → En → Option En} {tt : TT} {c : En → M Bool} {te : TE} {f : En → M D} (hi : RdI B W none wi src) (hg : RdG B W ts g tg) (ht : RdT B W none tt c) (he : RdE B W none te f) (hs : (ts.all fun i => decide (i ∈ vs)) = true := by rfl) :
    RdE B W none (tLc wi g tt te vs) (cLc vs src tg c f) := rd_ofL (rl_comp hi hg ht he hs)

/-! ### defs -/
def startD (n : Nat) (ds : List D) : En := ds.map some ++ List.replicate (n - ds.length) none
def endD : Fl → S → Out D
  | .ret d, s => .ok d s
  | .next _, s => .ok .non s
  | _, _ => .stuck
def runD (np n : Nat) (body : En → M Fl) : List D → M D := fun ds s => if ds.length = np then (body (startD n ds) s).bind endD else .stuck
def spD (B : Bs) (np : Nat) (F : List D → M D) : Sp := fun vs H Q _ => vs.length = np ∧ ∃ (r sa : Addr) (O : List Addr) (ds : List D) (s : S), RowAt B r sa H s ∧ r ∈ O ∧ (∀ p ∈ O, H p ≠ none) ∧ Reps B r (hid H O) vs ds ∧ (F ds s).post (OkV B r sa H O Q) (fun _ _ => False)
def cCall (np : Nat) (F : List D → M D) (fr : En → M (List D)) : En → M D := fun δ s => (fr δ s).bind fun ds s1 => if ds.length = np then F ds s1 else .stuck
theorem rd_call {np : Nat} {F : List D → M D} {tr : TA} {fr : En → M (List D)} (ha : RdA B W none tr fr) : RdE B W none (tCall (spD B np F) [] E0 tr) (cCall np F fr) := by
  intro r sa H0 O0 O σ δ s H gd Q h
  refine ha gd _ (post_mono (post_bind h) (fun x s1 hx v H1 st ra rp => ?_) (fun _ _ z => z))
  split at hx
  · rename_i hl
    rw [List.append_nil]
    exact ⟨by rw [rp.length]; exact hl, r, sa, O, x, s1, ra, gd.rO, (gd.step st ra).dom, rp, post_mono hx (fun d s2 q w H2 st2 ra2 rp2 => q w H2 (st.trans st2) ra2 rp2) (fun _ _ z => z)⟩
  · exact hx.elim
theorem start_get {N : List Str} {vs : List V} {i : Nat} : (L2.start N vs)[i]? = if i < vs.length then vs[i]?.map some else if i < vs.length + (N.length - vs.length) then some none else none := by
  unfold L2.start
  split
  · rename_i h
    rw [List.getElem?_append_left (by rw [List.length_map]; exact h), List.getElem?_map]
  · rename_i h
    rw [List.getElem?_append_right (by rw [List.length_map]; omega), List.length_map, List.getElem?_replicate]
    split
    · rw [if_pos (by omega)]
    · rw [if_neg (by omega)]
theorem startD_some {n : Nat} {ds : List D} {i : Nat} {d : D} (h : (startD n ds)[i]? = some (some d)) : ds[i]? = some d := by
  unfold startD at h
  rcases Nat.lt_or_ge i ds.length with q | q
  · rw [List.getElem?_append_left (by rw [List.length_map]; exact q), List.getElem?_map] at h
    obtain ⟨d', h1, h2⟩ := Option.map_eq_some_iff.mp h
    cases h2; exact h1
  · rw [List.getElem?_append_right (by rw [List.length_map]; exact q), List.getElem?_replicate] at h
    split at h <;> cases h
theorem fn_ok {P : Program} {w : World} {mg : Str → Option Value} {base : Heap} {x qual : Str} {st : Stmt} {f : Addr} {fd : FuncData} {N ps : List Str} {k : Nat} {body : En → M Fl} (F : Fun B.K x qual st f fd) (Sc : FnScope N ps (defScope st)) (hW : (W.all fun i => decide (ps.length ≤ i)) = true)
    (hb : ∀ (cdv : Value) (A : Around) (outer : List Env) (s : Shared) (H : Hp) (E : XK), Room k (A.deeper (PyProof.Rows.envOfC qual (defScope st) s.heap.objs.size f cdv)) →
      ∃ t, PSs (cxOf CX0 P w B.K mg base N qual (defScope st) f cdv A outer s H E).nox (defBody st) t ∧ RdS B W none t body) : FnOk P w B.K mg base CX0 (k + 1) f fd ps (spD B ps.length (runD ps.length N.length body)) := by
  refine F.ok Sc (fun vs H Q E h => h.1) (fun cdv A outer s H vs Q E hr h => ?_)
  obtain ⟨t, hP, hR⟩ := hb cdv A outer s H E hr
  obtain ⟨hl, r, sa, O, ds, s0, ra, hrO, hdom, rp, hp⟩ := h
  refine ⟨t, hP, ?_⟩
  have hds : ds.length = ps.length := by rw [← rp.length]; exact hl
  have hp : ((body (startD N.length ds) s0).bind endD).post (OkV B r sa H O Q) (fun _ _ => False) := by
    have e : runD ps.length N.length body ds s0 = (body (startD N.length ds) s0).bind endD := by unfold runD; rw [if_pos hds]
    rw [← e]; exact hp
  have gd : Gd B r sa H O W O (L2.start N vs) (startD N.length ds) s0 H := by
    refine ⟨?_, ra, hrO, hdom, hdom, fun _ h => h, fun _ h => .inl h, Stp.refl H, fun i d hi q => ?_, fun i d hi q => ?_, fun i j p d e hi hj ne q => ?_⟩
    · unfold L2.start startD; simp [rp.length]
    · obtain ⟨v, h1, h2⟩ := rp.get i d (startD_some q)
      refine ⟨v, ?_, h2⟩
      rw [start_get, if_pos (List.getElem?_eq_some_iff.mp h1).1, h1]; rfl
    · have h1 := startD_some q
      have h2 := (List.getElem?_eq_some_iff.mp h1).1
      have h3 := of_decide_eq_true (List.all_eq_true.mp hW i hi)
      omega
    · have h1 := startD_some q
      have h2 := (List.getElem?_eq_some_iff.mp h1).1
      have h3 := of_decide_eq_true (List.all_eq_true.mp hW i hi)
      omega
  refine hR gd _ (post_mono (post_bind hp) (fun fl s1 hx => ?_) (fun _ _ z => z))
  cases fl with
  | next δ' => exact fun O' σ' H' g' _ => hx .non H' g'.stp g'.row .non
  | ret d => exact fun v H' st' ra' rp' => hx v H' st' ra' rp'
  | brk δ' => exact hx.elim
  | cont δ' => exact hx.elim
end
end PV

namespace PV
open PySem L2
/-! ### built-ins -/
section
variable {B : Bs}
def gLen : List D → Option D
  | [.lst ds] => some (.int ds.length)
  | [.tup ds] => some (.int ds.length)
  | [.str z] => if z.length ≤ 100000 then some (.int z.length) else none
  | _ => none
theorem Reps.one {r : Addr} {H : Hp} {xs : List V} {d : D} (h : Reps B r H xs [d]) : ∃ v, xs = [v] ∧ Rep B r H v d := by cases h with | cons h hs => cases hs; exact ⟨_, rfl, h⟩
theorem Reps.two {r : Addr} {H : Hp} {xs : List V} {d e : D} (h : Reps B r H xs [d, e]) : ∃ v w, xs = [v, w] ∧ Rep B r H v d ∧ Rep B r H w e := by cases h with | cons h hs => cases hs with | cons h' hs => cases hs; exact ⟨_, _, rfl, h, h'⟩
theorem cs_len : CaS B (fun xs H Q => ∃ x n, xs = [x] ∧ LenV B.K x H n ∧ Q (.int n) H) gLen := by
  intro r O H xs ds d Q hd rp e q
  unfold gLen at e
  split at e
  · cases e
    obtain ⟨v, rfl, rq⟩ := rp.one
    obtain ⟨a, vs, rfl, h1, h2⟩ := rq.inv_lst
    exact ⟨_, _, rfl, .inl ⟨vs, SqL.of (hid_le _ _ h1), rfl⟩, by rw [h2.length]; exact q _ H (Same.refl H) (.int _)⟩
  · cases e
    obtain ⟨v, rfl, rq⟩ := rp.one
    obtain ⟨a, vs, rfl, h1, h2⟩ := rq.inv_tup
    exact ⟨_, _, rfl, .inr ⟨vs, sqT_le h1, rfl⟩, by rw [h2.length]; exact q _ H (Same.refl H) (.int _)⟩
  · split at e
    · rename_i hz
      cases e
      obtain ⟨v, rfl, rq⟩ := rp.one
      cases rq
      exact ⟨_, _, rfl, ⟨Evl.sz_of hz, rfl⟩, q _ H (Same.refl H) (.int _)⟩
    · cases e
  · cases e
def gAbs : List D → Option D | [.int i] => some (.int (if i < 0 then -i else i)) | _ => none
theorem cs_abs : CaS B (fun xs H Q => ∃ i, xs = [.int i] ∧ Q (.int (if i < 0 then -i else i)) H) gAbs := by
  intro r O H xs ds d Q hd rp e q
  unfold gAbs at e
  split at e
  · cases e; obtain ⟨v, rfl, rq⟩ := rp.one; cases rq
    exact ⟨_, rfl, q _ H (Same.refl H) (.int _)⟩
  · cases e
def gInt : List D → Option D | [.int i] => some (.int i) | [.bl b] => some (.int (if b then 1 else 0)) | _ => none
theorem cs_int : CaS B (fun xs H Q => (∃ i, xs = [.int i] ∧ Q (.int i) H) ∨ ∃ k, xs = [.bl k] ∧ Q (.int (if k then 1 else 0)) H) gInt := by
  intro r O H xs ds d Q hd rp e q
  unfold gInt at e
  split at e
  · cases e; obtain ⟨v, rfl, rq⟩ := rp.one; cases rq
    exact .inl ⟨_, rfl, q _ H (Same.refl H) (.int _)⟩
  · cases e; obtain ⟨v, rfl, rq⟩ := rp.one; cases rq
    exact .inr ⟨_, rfl, q _ H (Same.refl H) (.int _)⟩
  · cases e
def gMin2 : List D → Option D | [.int i, .int j] => some (.int (if j < i then j else i)) | _ => none
theorem cs_min2 : CaS B (fun xs H Q => ∃ i j, xs = [.int i, .int j] ∧ Q (.int (if j < i then j else i)) H) gMin2 := by
  intro r O H xs ds d Q hd rp e q
  unfold gMin2 at e
  split at e
  · cases e; obtain ⟨v, w, rfl, r1, r2⟩ := rp.two; cases r1; cases r2
    exact ⟨_, _, rfl, q _ H (Same.refl H) (.int _)⟩
  · cases e
def gMax2 : List D → Option D | [.int i, .int j] => some (.int (if j > i then j else i)) | _ => none
theorem cs_max2 : CaS B (fun xs H Q => ∃ i j, xs = [.int i, .int j] ∧ Q (.int (if j > i then j else i)) H) gMax2 := by
  intro r O H xs ds d Q hd rp e q
  unfold gMax2 at e
  split at e
  · cases e; obtain ⟨v, w, rfl, r1, r2⟩ := rp.two; cases r1; cases r2
    exact ⟨_, _, rfl, q _ H (Same.refl H) (.int _)⟩
  · cases e
def asInts : List D → Option (List Int)
  | [] => some []
  | .int i :: ds => (asInts ds).map (i :: ·)
  | _ :: _ => none
theorem asInts_some : ∀ {ds : List D} {ns : List Int}, asInts ds = some ns → ds = ns.map D.int
  | [], _, e => by cases e; rfl
  | .int i :: ds, ns, e => by
    obtain ⟨ms, h1, h2⟩ := Option.map_eq_some_iff.mp (e : (asInts ds).map (i :: ·) = some ns)
    subst h2; rw [asInts_some h1]; rfl
  | .non :: _, _, e | .bl _ :: _, _, e | .str _ :: _, _, e | .tup _ :: _, _, e | .lst _ :: _, _, e | .dic _ _ :: _, _, e | .sal _ _ :: _, _, e | .row :: _, _, e | .obj _ :: _, _, e | .fn _ :: _, _, e | .dct _ _ :: _, _, e => by cases e
@[simp] theorem asInts_map (ns : List Int) : asInts (ns.map D.int) = some ns := by
  induction ns with
  | nil => rfl
  | cons n ns ih => show (asInts (ns.map D.int)).map (n :: ·) = _; rw [ih]; rfl
def asBls : List D → Option (List Bool)
  | [] => some []
  | .bl i :: ds => (asBls ds).map (i :: ·)
  | _ :: _ => none
theorem asBls_some : ∀ {ds : List D} {ns : List Bool}, asBls ds = some ns → ds = ns.map D.bl
  | [], _, e => by cases e; rfl
  | .bl i :: ds, ns, e => by
    obtain ⟨ms, h1, h2⟩ := Option.map_eq_some_iff.mp (e : (asBls ds).map (i :: ·) = some ns)
    subst h2; rw [asBls_some h1]; rfl
  | .non :: _, _, e | .int _ :: _, _, e | .str _ :: _, _, e | .tup _ :: _, _, e | .lst _ :: _, _, e | .dic _ _ :: _, _, e | .sal _ _ :: _, _, e | .row :: _, _, e | .obj _ :: _, _, e | .fn _ :: _, _, e | .dct _ _ :: _, _, e => by cases e
@[simp] theorem asBls_map (ns : List Bool) : asBls (ns.map D.bl) = some ns := by
  induction ns with
  | nil => rfl
  | cons n ns ih => show (asBls (ns.map D.bl)).map (n :: ·) = _; rw [ih]; rfl
def rSumU (K : PySem.W.Frag) : List V → Hp → VK → Prop := fun vs H Q => ∃ (a : Addr) (ns : List Int), vs = [V.ref a] ∧ (SqL K H a (ns.map V.int) ∨ SqT K H a (ns.map V.int)) ∧ Q (.int ns.sum) H
open PySem.Spec PyProof.Rows PyProof.V in
theorem cr_sumU {X : Cx} (hc : X.calm = true) : CallR X (.builtin "sum") (rSumU X.K) := by
  intro pins s σ H vs us Q I r h
  obtain ⟨a, ns, rfl, hs | hs, q⟩ := h
  · exact cr_sum hc pins s σ H _ us Q I r ⟨a, ns, rfl, hs, q⟩
  · obtain ⟨its, rv, hl, _⟩ := I.tuple hs
    rw [Vals.ref1 r]
    have hi := rv.ints
    obtain ⟨xs, hx⟩ := hi.allInts.items
    have hl : s.heap.IsTuple a its.toArray := hl
    have hn : numsOf its.toArray.toList = ns := by rw [show its.toArray.toList = its from rfl, hi.numsOf]
    rw [hx] at hl hn
    rw [nums_intItems] at hn
    refine PySem.W.ktm_sumG (I.ok.hd hc) hl fun h' tk t' hk => ?_
    rw [preSum_eq, List.take_of_length_le (by simp), hn]
    exact ⟨.int _, H, I.kept hk, ⟨_, rfl⟩, q⟩
def gSum : List D → Option D | [.lst ds] => (asInts ds).map fun ns => .int ns.sum | [.tup ds] => (asInts ds).map fun ns => .int ns.sum | _ => none
theorem cs_sum : CaS B (rSumU B.K) gSum := by
  intro r O H xs ds d Q hd rp e q
  unfold gSum at e
  split at e
  · obtain ⟨ns, h1, h2⟩ := Option.map_eq_some_iff.mp e
    subst h2
    obtain ⟨v, rfl, rq⟩ := rp.one
    obtain ⟨a, vs, rfl, h3, h4⟩ := rq.inv_lst
    rw [asInts_some h1] at h4
    rw [h4.ints] at h3
    exact ⟨a, ns, rfl, .inl (SqL.of (hid_le _ _ h3)), q _ H (Same.refl H) (.int _)⟩
  · obtain ⟨ns, h1, h2⟩ := Option.map_eq_some_iff.mp e
    subst h2
    obtain ⟨v, rfl, rq⟩ := rp.one
    obtain ⟨a, vs, rfl, h3, h4⟩ := rq.inv_tup
    rw [asInts_some h1] at h4
    rw [h4.ints] at h3
    exact ⟨a, ns, rfl, .inr (sqT_le h3), q _ H (Same.refl H) (.int _)⟩
  · cases e
def gAll : List D → Option D | [.lst ds] => (asBls ds).map fun ns => .bl (ns.all id) | _ => none
theorem cs_all : CaS B (rAll B.K) gAll := by
  intro r O H xs ds d Q hd rp e q
  unfold gAll at e
  split at e
  · obtain ⟨ns, h1, h2⟩ := Option.map_eq_some_iff.mp e
    subst h2
    obtain ⟨v, rfl, rq⟩ := rp.one
    obtain ⟨a, vs, rfl, h3, h4⟩ := rq.inv_lst
    rw [asBls_some h1] at h4
    rw [h4.bls] at h3
    exact ⟨a, ns, rfl, SqL.of (hid_le _ _ h3), q _ H (Same.refl H) (.bl _)⟩
  · cases e
def gAny : List D → Option D | [.lst ds] => (asBls ds).map fun ns => .bl (ns.any id) | _ => none
theorem cs_any : CaS B (rAny B.K) gAny := by
  intro r O H xs ds d Q hd rp e q
  unfold gAny at e
  split at e
  · obtain ⟨ns, h1, h2⟩ := Option.map_eq_some_iff.mp e
    subst h2
    obtain ⟨v, rfl, rq⟩ := rp.one
    obtain ⟨a, vs, rfl, h3, h4⟩ := rq.inv_lst
    rw [asBls_some h1] at h4
    rw [h4.bls] at h3
    exact ⟨a, ns, rfl, SqL.of (hid_le _ _ h3), q _ H (Same.refl H) (.bl _)⟩
  · cases e
def maxL : List Int → Int | [] => 0 | n :: ns => ns.foldl max n
theorem foldl_max : ∀ (ns : List Int) (n : Int), ns.foldl max n ∈ n :: ns ∧ ∀ y ∈ n :: ns, y ≤ ns.foldl max n
  | [], n => ⟨by simp, by simp⟩
  | m :: ns, n => by
    have ⟨h1, h2⟩ := foldl_max ns (max n m)
    show ns.foldl max (max n m) ∈ _ ∧ ∀ y ∈ n :: m :: ns, y ≤ ns.foldl max (max n m)
    have h3 := h2 (max n m) (by simp)
    refine ⟨?_, fun y hy => ?_⟩
    · rcases List.mem_cons.mp h1 with e | e
      · rw [e]
        rcases Int.le_total n m with z | z
        · rw [Int.max_eq_right z]; simp
        · rw [Int.max_eq_left z]; simp
      · simp [e]
    · rcases List.mem_cons.mp hy with e | e
      · subst e; omega
      · rcases List.mem_cons.mp e with e | e
        · subst e; omega
        · exact h2 y (by simp [e])
theorem maxL_spec {ns : List Int} (h : ns ≠ []) : maxL ns ∈ ns ∧ ∀ y ∈ ns, y ≤ maxL ns := by
  cases ns with
  | nil => exact absurd rfl h
  | cons n ns => exact foldl_max ns n
def gMaxL : List D → Option D | [.lst ds] => (match asInts ds with | some (n :: ns) => some (.int (maxL (n :: ns))) | _ => none) | _ => none
theorem cs_maxL : CaS B (rMax B.K) gMaxL := by
  intro r O H xs ds d Q hd rp e q
  unfold gMaxL at e
  split at e
  · split at e
    · rename_i n ns h1
      cases e
      obtain ⟨v, rfl, rq⟩ := rp.one
      obtain ⟨a, vs, rfl, h3, h4⟩ := rq.inv_lst
      rw [asInts_some h1] at h4
      rw [h4.ints] at h3
      refine ⟨a, n :: ns, rfl, SqL.of (hid_le _ _ h3), by simp, fun m hm hy => ?_⟩
      have ⟨z1, z2⟩ := maxL_spec (ns := n :: ns) (by simp)
      have : m = maxL (n :: ns) := Int.le_antisymm (z2 m hm) (hy _ z1)
      subst this
      exact q _ H (Same.refl H) (.int _)
    · cases e
  · cases e
def gTuple : List D → Option D | [.lst ds] => some (.tup ds) | [.tup ds] => some (.tup ds) | _ => none
theorem cs_tuple : CaS B (fun xs H Q => ∃ p ys, xs = [.ref p] ∧ ((SqL B.K H p ys ∧ ∀ l, H l = none → Q (.ref l) (upd H l (.tup ys))) ∨ (SqT B.K H p ys ∧ Q (.ref p) H))) gTuple := by
  intro r O H xs ds d Q hd rp e q
  unfold gTuple at e
  split at e
  · cases e
    obtain ⟨v, rfl, rq⟩ := rp.one
    obtain ⟨a, vs, rfl, h3, h4⟩ := rq.inv_lst
    exact ⟨a, vs, rfl, .inl ⟨SqL.of (hid_le _ _ h3), fun p hp => q _ _ (same_new hp) (new_tup hp hd h4)⟩⟩
  · cases e
    obtain ⟨v, rfl, rq⟩ := rp.one
    obtain ⟨a, vs, rfl, h3, h4⟩ := rq.inv_tupA
    exact ⟨a, vs, rfl, .inr ⟨sqT_le h3.sq, q _ H (Same.refl H) (.tup h3 h4)⟩⟩
  · cases e
def gList : List D → Option D | [.lst ds] => some (.lst ds) | [.tup ds] => some (.lst ds) | _ => none
theorem cs_list : CaS B (fun xs H Q => ∃ p ys, xs = [.ref p] ∧ (SqL B.K H p ys ∨ SqT B.K H p ys) ∧ ∀ l, H l = none → Q (.ref l) (upd H l (.lst ys))) gList := by
  intro r O H xs ds d Q hd rp e q
  unfold gList at e
  split at e
  · cases e
    obtain ⟨v, rfl, rq⟩ := rp.one
    obtain ⟨a, vs, rfl, h3, h4⟩ := rq.inv_lst
    exact ⟨a, vs, rfl, .inl (SqL.of (hid_le _ _ h3)), fun p hp => q _ _ (same_new hp) (new_lst hp hd h4)⟩
  · cases e
    obtain ⟨v, rfl, rq⟩ := rp.one
    obtain ⟨a, vs, rfl, h3, h4⟩ := rq.inv_tup
    exact ⟨a, vs, rfl, .inr (sqT_le h3), fun p hp => q _ _ (same_new hp) (new_lst hp hd h4)⟩
  · cases e
/-! ### isinstance with a built-in type -/
def tyD : D → Option String
  | .non => some "NoneType" | .bl _ => some "bool" | .int _ => some "int" | .str _ => some "str" | .tup _ => some "tuple" | .lst _ => some "list" | .dic _ _ => some "dict" | _ => none
def gIsi (T : String) (d : D) : Option D := match tyD d with | some t => (kitB t T).map .bl | none => none
def cIsi (T : String) (f : En → M D) : En → M D := cUn (gIsi T) f
theorem rep_ty {r : Addr} {H : Hp} {v : V} {d : D} {t : String} (h : Rep B r H v d) (e : tyD d = some t) : TyX B.K H v (.type t) := by
  cases h with
  | non => cases e; exact .base .non
  | bl b => cases e; exact .base (.bl b)
  | int b => cases e; exact .base (.int b)
  | str b => cases e; exact .base (.str b)
  | tup h _ =>
    cases e
    rcases h.sq with (h | ⟨o, h⟩) | ⟨o, its, n, h1, h2, _⟩
    · exact .base (.tup h)
    · exact .fTuple h
    · exact .kTuple h1 h2
  | lst h _ => cases e; exact .base (.lst h)
  | dic h _ _ _ => cases e; exact .base (.dK h)
  | sal _ _ _ => cases e
  | row => cases e
  | obj _ => cases e
  | fn _ => cases e
  | dct _ _ _ _ _ => cases e
theorem rd_isi {W : List Nat} {E : Option XK} {ta : TE} {fa : En → M D} {T : String} (ha : RdE B W E ta fa) : RdE B W E (tCB (rIsi B.K) (tCons ta (tCons (tC (.ty T)) tNil))) (cIsi T fa) := by
  intro r sa H0 O0 O σ δ s H gd Q h
  refine ha gd _ (post_mono (post_bind h) (fun x s1 hx v H1 st ra rp => ?_) (fun _ _ z => z))
  obtain ⟨d, e, hd⟩ := post_lift hx
  unfold gIsi at e
  split at e
  · rename_i t ht
    obtain ⟨b, h1, h2⟩ := Option.map_eq_some_iff.mp e
    subst h2
    exact ⟨v, .ty T, .type t, .type T, b, rfl, .ty T, rep_ty (rp.mono hid_le) ht, kit_ty h1, hd _ H1 st ra (.bl b)⟩
  · cases e
/-! ### xs.index(x) -/
def gIndex : D → List D → Option D
  | .lst ds, [x] => if scal x && ds.all scal then (ds.findIdx? (eqS · x)).map fun (j : Nat) => .int (j : Int) else none
  | _, _ => none
def cMt (g : D → List D → Option D) (f : En → M D) (fr : En → M (List D)) : En → M D := fun δ s => (f δ s).bind fun d s1 => (fr δ s1).bind fun ds s2 => lift (g d ds) s2
theorem rd_index {W : List Nat} {E : Option XK} {ta : TE} {fa : En → M D} {tr : TA} {fr : En → M (List D)} (ha : RdE B W E ta fa) (hr : RdA B W E tr fr) (hl : ∀ δ s d s1, fa δ s = .ok d s1 → ∃ ds, d = .lst ds) :
    RdE B W E (tBM B.K "list" (rIndex B.K) ta tr) (cMt gIndex fa fr) := by
  intro r sa H0 O0 O σ δ s H gd Q h
  have h' := post_bind h
  have hl := hl δ s
  refine ha gd _ (?_ : (fa δ s).post _ _)
  cases q : fa δ s with
  | stuck => rw [q] at h'; exact h'
  | err e s' => rw [q] at h'; exact h'
  | ok x s1 =>
    rw [q] at h'
    obtain ⟨ds, rfl⟩ := hl x s1 q
    intro v H1 st ra rp
    obtain ⟨a, vs, rfl, h3, h4⟩ := rp.inv_lst
    refine ⟨.inl ⟨rfl, vs, SqL.of (hid_le _ _ h3)⟩, hr (gd.step st ra) _ (post_mono (post_bind h') (fun ys s2 hy w H2 st2 ra2 rp2 => ?_) (fun _ _ z => z.mono st))⟩
    obtain ⟨d, e, hd⟩ := post_lift hy
    have sm := st2.hid gd.rO
    unfold gIndex at e
    split at e
    · rename_i es y hz
      cases hz
      split at e
      · rename_i hf
        rw [Bool.and_eq_true] at hf
        obtain ⟨j, h5, h6⟩ := Option.map_eq_some_iff.mp e
        subst h6
        obtain ⟨y', rfl, ry⟩ := rp2.one
        have h4' := h4.mono sm
        obtain ⟨hj, hj1, hj2⟩ := List.findIdx?_eq_some_iff_getElem.mp h5
        obtain ⟨z, z1, z2⟩ := h4'.get j ds[j] (by simp [hj])
        refine ⟨a, vs, y', j, z, rfl, rfl, SqL.of (hid_le _ _ (sm _ _ h3)), by rw [← rep_flat ry]; exact hf.1, by rw [← reps_all h4']; exact hf.2, z1, by rw [rep_eqV z2 ry]; exact hj1, fun m z' hm hz' => ?_, hd _ H2 (st.trans st2) ra2 (.int _)⟩
        obtain ⟨dm, dm1, dm2⟩ := h4'.get' m z' hz'
        rw [rep_eqV dm2 ry]
        have hml : m < ds.length := by omega
        have e3 : ds[m] = dm := by
          have := List.getElem?_eq_getElem hml
          rw [this] at dm1; exact Option.some.inj dm1
        have := hj2 m hm
        rw [e3] at this
        simpa using this
      · cases e
    · cases e
end
end PV

namespace PV
open PySem L2
/-! ### for x in a list or a tuple -/
def iSeq (K : PySem.W.Frag) (tl : TE) : TI := fun σ H R => tl σ H fun x H1 => ∃ a, x = .ref a ∧ (((∃ xs, SqL K H1 a xs) ∧ R (Itl K a) H1) ∨ ((∃ xs, SqT K H1 a xs) ∧ R (Itt K a) H1))
theorem pi_seq {X : Cx} {tg l : Expr} {tl : TE} (hl : PE X l tl) : PI X tg l (iSeq X.K tl) := by
  refine ⟨fun pins s σ H R I h => ?_⟩
  refine thn (hl.run pins s σ H _ I h) fun v s1 ⟨x, H1, I1, r1, q1⟩ => ?_
  obtain ⟨a, e, q1⟩ := q1
  subst e
  cases r1
  rcases q1 with ⟨⟨xs, hq⟩, q⟩ | ⟨⟨xs, hq⟩, q⟩
  · obtain ⟨its, rv, p, hz⟩ := I1.list hq
    refine wpAny_pyIter_list p.isList ?_
    refine ⟨s1.heap.objs.size, [s1.heap.objs.size], _, _, H1, rfl, I1.kept (t' := s1.toks) fun b o e => Heap.get?_push_of_some _ e, turn_list a _, ⟨_, Heap.get?_push_size _ rfl, rfl, rfl⟩, fun b hb => ?_, q⟩
    have e : b = s1.heap.objs.size := by simpa using hb
    subst e
    exact I1.fpOk (Nat.le_refl _) (I1.hok.fresh (Nat.le_refl _))
  · obtain ⟨its, rv, p, hz⟩ := I1.tuple hq
    refine wpAny_pyIter_tuple (show s1.heap.IsTuple a its.toArray from p) ?_
    refine ⟨s1.heap.objs.size, [s1.heap.objs.size], _, _, H1, rfl, I1.kept (t' := s1.toks) fun b o e => Heap.get?_push_of_some _ e, turn_tuple a _, ⟨_, Heap.get?_push_size _ rfl, rfl, rfl⟩, fun b hb => ?_, q⟩
    have e : b = s1.heap.objs.size := by simpa using hb
    subst e
    exact I1.fpOk (Nat.le_refl _) (I1.hok.fresh (Nat.le_refl _))
section
variable {B : Bs} {W : List Nat} {E : Option XK}
theorem ri_seq {tl : TE} {f : En → M D} (ha : RdE B W E tl f) : RdI B W E (iSeq B.K tl) (cItU f) := by
  intro r sa H0 O0 O σ δ s H gd R h
  refine ha gd _ (post_mono (post_bind h) (fun x s1 hx v H1 st ra rp => ?_) (fun _ _ z => z))
  obtain ⟨ds, e, hd⟩ := post_lift hx
  cases x <;> simp [seqD] at e
  · subst e
    obtain ⟨a, vs, rfl, h1, h2⟩ := rp.inv_tup
    exact ⟨a, rfl, .inr ⟨⟨vs, sqT_le h1⟩, hd _ H1 st ra (wk_tup h1 h2)⟩⟩
  · subst e
    obtain ⟨a, vs, rfl, h1, h2⟩ := rp.inv_lst
    exact ⟨a, rfl, .inl ⟨⟨vs, SqL.of (hid_le _ _ h1)⟩, hd _ H1 st ra (wk_list h1 h2)⟩⟩
/-- a value that is a list -/
def cAsL (f : En → M D) : En → M D := fun δ s => (f δ s).bind fun d s1 => (lift (asLst d) s1).bind fun ds s2 => .ok (.lst ds) s2
theorem rd_asL {te : TE} {f : En → M D} (h : RdE B W E te f) : RdE B W E te (cAsL f) := by
  intro r sa H0 O0 O σ δ s H gd Q hp
  refine h gd _ (post_mono (post_bind hp) (fun x s1 hx v H1 st ra rp => ?_) (fun _ _ z => z))
  obtain ⟨ds, e, hd⟩ := post_lift (post_bind hx)
  cases asLst_some e
  exact hd v H1 st ra rp
theorem cAsL_lst {f : En → M D} {δ : En} {s s1 : S} {d : D} (h : cAsL f δ s = .ok d s1) : ∃ ds, d = .lst ds := by
  unfold cAsL at h
  cases e : f δ s with
  | stuck => rw [e] at h; cases h
  | err x y => rw [e] at h; cases h
  | ok x y =>
    rw [e] at h
    cases q : asLst x with
    | none => rw [bind_ok, q] at h; cases h
    | some ds => rw [bind_ok, q] at h; cases h; exact ⟨ds, rfl⟩
theorem rd_index' {ta : TE} {fa : En → M D} {tr : TA} {fr : En → M (List D)} (ha : RdE B W E ta fa) (hr : RdA B W E tr fr) : RdE B W E (tBM B.K "list" (rIndex B.K) ta tr) (cMt gIndex (cAsL fa) fr) :=
  rd_index (rd_asL ha) hr fun _ _ _ _ h => cAsL_lst h
end
end PV

namespace PV
open PySem L2
/-! ### the draws -/
def draw (s : S) (m : Int) : Int × S :=
  if 0 < s.rest then (s.rest % m, { s with rest := s.rest / m })
  else if s.ns.length < s.pos + 1 then
    let mx := (s.mix * 48271 + 11) % 2147483647
    (mx / 7 % m, { s with pos := s.pos + 1, mix := mx })
  else
    let c := s.ns.getD s.pos 0
    (c % m, { s with pos := s.pos + 1, mix := (s.mix * 48271 + c + 11) % 2147483647, rest := if 10 ^ 18 ≤ c then c / m else s.rest })
theorem draw_lt (s : S) {m : Int} (h : 0 < m) : 0 ≤ (draw s m).1 ∧ (draw s m).1 < m := by
  unfold draw
  split
  · exact ⟨Int.emod_nonneg _ (by omega), Int.emod_lt_of_pos _ h⟩
  · split
    · exact ⟨Int.emod_nonneg _ (by omega), Int.emod_lt_of_pos _ h⟩
    · exact ⟨Int.emod_nonneg _ (by omega), Int.emod_lt_of_pos _ h⟩
def drawF : List D → M D := fun ds s => match ds with
  | [.row, .int m] => if 0 < m ∧ m < 1073741824 then .ok (.int (draw s m).1) (draw s m).2 else .stuck
  | _ => .stuck
section
variable (K : PySem.W.Frag)
abbrev tk_ix (k : Int) : TE := tOp (rIxL K) (tVar 0) (tC (.int k))
abbrev tk_int (t : TE) : TE := tCB (fun xs H Q => (∃ i, xs = [.int i] ∧ Q (.int i) H) ∨ ∃ k, xs = [.bl k] ∧ Q (.int (if k then 1 else 0)) H) (tCons t tNil)
abbrev tk_mod (a b : TE) : TE := tOp (rI (fun _ j => 0 < j) fun i j => .int (i % j)) a b
abbrev tk_div (a b : TE) : TE := tOp (rI CDiv fun i j => .int (i / j)) a b
abbrev tk_add (a b : TE) : TE := tOp (rI0 fun i j => .int (i + j)) a b
abbrev tk_sub (a b : TE) : TE := tOp (rI0 fun i j => .int (i - j)) a b
abbrev tk_mul (a b : TE) : TE := tOp (rI CMul fun i j => .int (i * j)) a b
abbrev tk_put (k : Int) (t : TE) : TS := tAsg t (gSub (tVar 0) (tC (.int k)) rSetL)
abbrev tk_len (t : TE) : TE := tCB (fun xs H Q => ∃ p ys, xs = [.ref p] ∧ (SqL K H p ys ∨ SqT K H p ys) ∧ Q (.int ys.length) H) (tCons t tNil)
abbrev tk_pow : TE := tOp (rI CPow fun i j => .int (i ^ j.toNat)) (tC (.int 10)) (tC (.int 18))
def t_taken : TS :=
  tSeq (tIfS (tTest (tOp (rI0 fun i j => .bl (decide (j < i))) (tk_ix K 3) (tC (.int 0))))
    (tSeq (tAsg (tk_mod (tk_int (tk_ix K 3)) (tVar 1)) (gName 2)) (tSeq (tk_put 3 (tk_div (tk_ix K 3) (tVar 1))) (tRet (tVar 2)))) tNext)
  (tSeq (tk_put 1 (tk_add (tk_ix K 1) (tC (.int 1))))
  (tSeq (tIfS (tTest (tOp (rI0 fun i j => .bl (decide (j < i))) (tk_ix K 1) (tk_len K (tk_ix K 0))))
    (tSeq (tk_put 2 (tk_mod (tk_int (tk_add (tk_mul (tk_ix K 2) (tC (.int 48271))) (tC (.int 11)))) (tC (.int 2147483647)))) (tRet (tk_mod (tk_int (tk_div (tk_ix K 2) (tC (.int 7)))) (tVar 1)))) tNext)
  (tSeq (tAsg (tOp (rIxL K) (tk_ix K 0) (tk_sub (tk_ix K 1) (tC (.int 1)))) (gName 3))
  (tSeq (tk_put 2 (tk_mod (tk_int (tk_add (tk_add (tk_mul (tk_ix K 2) (tC (.int 48271))) (tVar 3)) (tC (.int 11)))) (tC (.int 2147483647))))
  (tSeq (tIfS (tTest (tOp (rI0 fun i j => .bl (decide (j ≤ i))) (tVar 3) tk_pow)) (tk_put 3 (tk_div (tVar 3) (tVar 1))) tNext)
  (tRet (tk_mod (tk_int (tVar 3)) (tVar 1))))))))
end
theorem ix4 {K : PySem.W.Frag} {H : Hp} {r : Addr} {a b c d : V} (h : H r = some (.lst [a, b, c, d])) : SqL K H r [a, b, c, d] := SqL.of h
theorem Scr.upd {K : PySem.W.Frag} {H : Hp} {sa r : Addr} {xs vs ws : List V} (h : Scr K H sa xs) (hr : H r = some (.lst vs)) : Scr K (upd H r (.lst ws)) sa xs :=
  h.elim (fun ⟨o, q⟩ => .inl ⟨o, by rw [upd_ne (ne_of q hr (fun z => nomatch z))]; exact q⟩) .inr
theorem Stp.row {r : Addr} {H H' : Hp} {o : HO} (h : Stp r H H') : Stp r H (upd H' r o) := fun a u na e => by rw [upd_ne na]; exact h a u na e
theorem taken_rd {B : Bs} {r sa : Addr} {H : Hp} {s : S} {m : Int} {D : Ends} {σ : St} (hσ : σ = [some (.ref r), some (.int m), none, none]) (h0 : 0 < m) (h1 : m < 1073741824) (ra : RowAt B r sa H s)
    (q : ∀ H', Stp r H H' → RowAt B r sa H' (draw s m).2 → D.rt (.int (draw s m).1) H') : t_taken B.K D σ H := by
  subst hσ
  obtain ⟨hr, hs⟩ := ra
  refine ⟨_, rfl, _, _, _, _, rfl, rfl, ix4 hr, rfl, _, _, rfl, rfl, _, rfl, ite2 (fun c1' => ?_) (fun c1' => ?_)⟩
  · have c1 : 0 < s.rest := of_decide_eq_true c1'
    have ed : draw s m = (s.rest % m, { s with rest := s.rest / m }) := by unfold draw; rw [if_pos c1]
    rw [ed] at q
    refine ⟨_, rfl, _, _, _, _, rfl, rfl, ix4 hr, rfl, .inl ⟨_, rfl, _, rfl, _, _, rfl, rfl, h0, ?_⟩⟩
    refine ⟨_, rfl, _, _, _, _, rfl, rfl, ix4 hr, rfl, _, rfl, _, _, rfl, rfl, ⟨h0, h1⟩, _, rfl, r, _, _, 3, rfl, rfl, hr, rfl, ?_⟩
    exact ⟨_, rfl, q _ (Stp.refl H).row ⟨upd_same, hs.upd hr⟩⟩
  · have c1 : ¬ 0 < s.rest := fun z => c1' (decide_eq_true z)
    refine ⟨_, rfl, _, _, _, _, rfl, rfl, ix4 hr, rfl, _, _, rfl, rfl, _, rfl, r, _, _, 1, rfl, rfl, hr, rfl, ?_⟩
    have hr1 : upd H r (.lst ([V.ref sa, .int (s.pos : Int), .int s.mix, .int s.rest].set 1 (.int ((s.pos : Int) + 1)))) r = some (.lst [.ref sa, .int ((s.pos : Int) + 1), .int s.mix, .int s.rest]) := upd_same
    have hs1 := hs.upd (ws := [V.ref sa, .int (s.pos : Int), .int s.mix, .int s.rest].set 1 (.int ((s.pos : Int) + 1))) hr
    have st1 : Stp r H (upd H r (.lst ([V.ref sa, .int (s.pos : Int), .int s.mix, .int s.rest].set 1 (.int ((s.pos : Int) + 1))))) := (Stp.refl H).row
    revert hr1 hs1 st1
    generalize upd H r (.lst ([V.ref sa, .int (s.pos : Int), .int s.mix, .int s.rest].set 1 (.int ((s.pos : Int) + 1)))) = H1
    intro hr1 hs1 st1
    refine ⟨_, rfl, _, _, _, _, rfl, rfl, ix4 hr1, rfl, _, rfl, _, _, _, _, rfl, rfl, ix4 hr1, rfl, _, _, rfl, .inl hs1.sq, _, _, rfl, rfl, _, rfl, ite2 (fun c2' => ?_) (fun c2' => ?_)⟩
    · have c2 : s.ns.length < s.pos + 1 := by
        have := of_decide_eq_true c2'
        rw [List.length_map] at this
        omega
      have ed : draw s m = ((s.mix * 48271 + 11) % 2147483647 / 7 % m, { s with pos := s.pos + 1, mix := (s.mix * 48271 + 11) % 2147483647 }) := by unfold draw; rw [if_neg c1, if_pos c2]
      rw [ed] at q
      refine ⟨_, rfl, _, _, _, _, rfl, rfl, ix4 hr1, rfl, _, _, rfl, rfl, .inr ⟨by decide, by decide⟩, _, _, rfl, rfl, .inl ⟨_, rfl, _, _, rfl, rfl, (show (0 : Int) < 2147483647 by decide), _, rfl, r, _, _, 2, rfl, rfl, hr1, rfl, ?_⟩⟩
      refine ⟨_, rfl, _, _, _, _, rfl, rfl, ix4 upd_same, rfl, _, _, rfl, rfl, ⟨by decide, by decide⟩, .inl ⟨_, rfl, _, rfl, _, _, rfl, rfl, h0, ?_⟩⟩
      exact q _ st1.row ⟨upd_same, hs1.upd hr1⟩
    · have c2 : ¬ s.ns.length < s.pos + 1 := fun z => c2' (decide_eq_true (by rw [List.length_map]; omega))
      have ed : draw s m = (s.ns.getD s.pos 0 % m, { s with pos := s.pos + 1, mix := (s.mix * 48271 + s.ns.getD s.pos 0 + 11) % 2147483647, rest := if 10 ^ 18 ≤ s.ns.getD s.pos 0 then s.ns.getD s.pos 0 / m else s.rest }) := by unfold draw; rw [if_neg c1, if_neg c2]
      rw [ed] at q
      have hp : s.pos < s.ns.length := by omega
      have hat : atI (s.ns.map V.int) ((s.pos : Int) + 1 - 1) = some (.int (s.ns.getD s.pos 0)) := by
        have : (s.pos : Int) + 1 - 1 = ((s.pos : Nat) : Int) := by omega
        rw [this]
        refine atI_nat ?_
        rw [List.getElem?_map, List.getElem?_eq_getElem hp, List.getD_eq_getElem?_getD, List.getElem?_eq_getElem hp]; rfl
      generalize s.ns.getD s.pos 0 = c at q hat
      refine ⟨_, rfl, _, _, _, _, rfl, rfl, ix4 hr1, rfl, _, rfl, _, _, _, _, rfl, rfl, ix4 hr1, rfl, _, _, rfl, rfl, _, _, _, _, rfl, rfl, hs1.sq, hat, ?_⟩
      refine ⟨_, rfl, _, _, _, _, rfl, rfl, ix4 hr1, rfl, _, _, rfl, rfl, .inr ⟨by decide, by decide⟩, _, rfl, _, _, rfl, rfl, _, _, rfl, rfl, .inl ⟨_, rfl, _, _, rfl, rfl, (show (0 : Int) < 2147483647 by decide), _, rfl, r, _, _, 2, rfl, rfl, hr1, rfl, ?_⟩⟩
      have hr2 : upd H1 r (.lst ([V.ref sa, .int ((s.pos : Int) + 1), .int s.mix, .int s.rest].set 2 (.int ((s.mix * 48271 + c + 11) % 2147483647)))) r = some (.lst [.ref sa, .int ((s.pos : Int) + 1), .int ((s.mix * 48271 + c + 11) % 2147483647), .int s.rest]) := upd_same
      have hs2 := hs1.upd (ws := [V.ref sa, .int ((s.pos : Int) + 1), .int s.mix, .int s.rest].set 2 (.int ((s.mix * 48271 + c + 11) % 2147483647))) hr1
      have st2 : Stp r H (upd H1 r (.lst ([V.ref sa, .int ((s.pos : Int) + 1), .int s.mix, .int s.rest].set 2 (.int ((s.mix * 48271 + c + 11) % 2147483647))))) := st1.row
      revert hr2 hs2 st2
      generalize upd H1 r (.lst ([V.ref sa, .int ((s.pos : Int) + 1), .int s.mix, .int s.rest].set 2 (.int ((s.mix * 48271 + c + 11) % 2147483647)))) = H2
      intro hr2 hs2 st2
      refine ⟨_, rfl, _, _, rfl, rfl, ⟨by decide, by decide, by decide⟩, _, _, rfl, rfl, _, rfl, ite2 (fun c3' => ?_) (fun c3' => ?_)⟩
      · have c3 : (10 : Int) ^ 18 ≤ c := of_decide_eq_true c3'
        rw [if_pos c3] at q
        refine ⟨_, rfl, _, rfl, _, _, rfl, rfl, ⟨h0, h1⟩, _, rfl, r, _, _, 3, rfl, rfl, hr2, rfl, ?_⟩
        refine ⟨_, rfl, .inl ⟨_, rfl, _, rfl, _, _, rfl, rfl, h0, ?_⟩⟩
        exact q _ st2.row ⟨upd_same, hs2.upd hr2⟩
      · have c3 : ¬ (10 : Int) ^ 18 ≤ c := fun z => c3' (decide_eq_true z)
        rw [if_neg c3] at q
        refine ⟨_, rfl, .inl ⟨_, rfl, _, rfl, _, _, rfl, rfl, h0, ?_⟩⟩
        exact q _ st2 ⟨hr2, hs2⟩
theorem taken_ok {B : Bs} {P : Program} {w : World} {mg : Str → Option Value} {base : Heap} {x qual : Str} {st : Stmt} {f : Addr} {fd : FuncData} {N : List Str} {ps : List Str} {k : Nat} (F : Fun B.K x qual st f fd) (Sc : FnScope N ps (defScope st)) (hN : N.length = 4) (hp : ps.length = 2)
    (hb : ∀ (cdv : Value) (A : Around) (outer : List Env) (s : Shared) (H : Hp) (E : XK), Room k (A.deeper (PyProof.Rows.envOfC qual (defScope st) s.heap.objs.size f cdv)) →
      PSs (cxOf CX0 P w B.K mg base N qual (defScope st) f cdv A outer s H E).nox (defBody st) (t_taken B.K)) : FnOk P w B.K mg base CX0 (k + 1) f fd ps (spD B 2 drawF) := by
  refine F.ok Sc (fun vs H Q E h => h.1.trans hp.symm) (fun cdv A outer s H vs Q E hr h => ⟨_, hb cdv A outer s H E hr, ?_⟩)
  obtain ⟨hl, r, sa, O, ds, s0, ra, hrO, hdom, rp, hq⟩ := h
  unfold drawF at hq
  split at hq
  · rename_i m
    obtain ⟨v, w', rfl, r1, r2⟩ := rp.two
    cases r1
    cases r2
    split at hq
    · rename_i hm
      exact taken_rd (by unfold L2.start; rw [hN]; rfl) hm.1 hm.2 ra fun H' st' ra' => hq _ H' st' ra' (.int _)
    · exact hq.elim
  · exact hq.elim
/-! ### the greatest common divisor, by recursion -/
theorem sh_int (i : Int) : SeqAt.shaped (.int i) = true := by simp [SeqAt.shaped, PyData.canLay0, PyData.depth]
theorem eqv_int (i j : Int) : PyData.eqv (.int i) (.int j) = (i == j) := by simp [PyData.eqv]
def egs : Nat → Int → Int → Option Int
  | 0, a, b => if b = 0 then some (if a < 0 then -a else a) else none
  | n + 1, a, b => if b = 0 then some (if a < 0 then -a else a) else if 0 < b then egs n b (a % b) else none
def gcdF (L : Nat) : List D → M D := fun ds s => match ds with
  | [.int a, .int b] => lift ((egs L a b).map D.int) s
  | _ => .stuck
def t_gcd (K : PySem.W.Frag) (tr : TE) : TS := tRet (tIf (tTest (tOp (rEqD K) (tVar 1) (tC (.int 0)))) (tCB (fun xs H Q => ∃ i, xs = [.int i] ∧ Q (.int (if i < 0 then -i else i)) H) (tCons (tVar 0) tNil)) tr)
def t_gcdR (B : Bs) (n : Nat) : TE := tCall (spD B 2 (gcdF n)) [] E0 (tCons (tVar 1) (tCons (tOp (rI (fun _ j => 0 < j) fun i j => .int (i % j)) (tVar 0) (tVar 1)) tNil))
theorem gcd_ok {B : Bs} {P : Program} {w : World} {mg : Str → Option Value} {base : Heap} {x qual : Str} {st : Stmt} {f : Addr} {fd : FuncData} {N ps : List Str} (F : Fun B.K x qual st f fd) (Sc : FnScope N ps (defScope st)) (hN : N.length = 2) (hp : ps.length = 2)
    (hb : ∀ (n : Nat) (t : TE) (cdv : Value) (A : Around) (outer : List Env) (s : Shared) (H : Hp) (E : XK), Room n (A.deeper (PyProof.Rows.envOfC qual (defScope st) s.heap.objs.size f cdv)) →
      (n = 0 ∧ t = (fun _ _ _ => False) ∨ ∃ k, n = k + 1 ∧ FnOk P w B.K mg base CX0 n f fd ps (spD B 2 (gcdF k)) ∧ t = t_gcdR B k) →
      PSs (cxOf CX0 P w B.K mg base N qual (defScope st) f cdv A outer s H E).nox (defBody st) (t_gcd B.K t)) : ∀ L, FnOk P w B.K mg base CX0 (L + 1) f fd ps (spD B 2 (gcdF L)) := by
  intro L
  induction L with
  | zero =>
    refine F.ok Sc (fun vs H Q E h => h.1.trans hp.symm) (fun cdv A outer s H vs Q E hr h => ⟨_, hb 0 _ cdv A outer s H E hr (.inl ⟨rfl, rfl⟩), ?_⟩)
    obtain ⟨hl, r, sa, O, ds, s0, ra, hrO, hdom, rp, hq⟩ := h
    unfold gcdF at hq
    split at hq
    · rename_i a b
      obtain ⟨v, w', rfl, r1, r2⟩ := rp.two
      cases r1; cases r2
      obtain ⟨d, e, hq⟩ := post_lift hq
      obtain ⟨g, e1, e2⟩ := Option.map_eq_some_iff.mp e
      subst e2
      unfold egs at e1
      split at e1
      · rename_i hb0
        subst hb0
        cases e1
        have hs : L2.start N [V.int a, V.int 0] = [some (.int a), some (.int 0)] := by unfold L2.start; rw [hN]; rfl
        rw [hs]
        refine ⟨_, rfl, _, _, .int 0, .int 0, sh_int 0, sh_int 0, true, by rw [eqv_int]; rfl, iteT ?_⟩
        exact ⟨_, rfl, a, rfl, hq _ H (Stp.refl H) ra (.int _)⟩
      · cases e1
    · exact hq.elim
  | succ L ih =>
    refine F.ok Sc (fun vs H Q E h => h.1.trans hp.symm) (fun cdv A outer s H vs Q E hr h => ⟨_, hb (L + 1) _ cdv A outer s H E hr (.inr ⟨L, rfl, ih, rfl⟩), ?_⟩)
    obtain ⟨hl, r, sa, O, ds, s0, ra, hrO, hdom, rp, hq⟩ := h
    unfold gcdF at hq
    split at hq
    · rename_i a b
      obtain ⟨v, w', rfl, r1, r2⟩ := rp.two
      cases r1; cases r2
      obtain ⟨d, e, hq⟩ := post_lift hq
      obtain ⟨g, e1, e2⟩ := Option.map_eq_some_iff.mp e
      subst e2
      have hs : L2.start N [V.int a, V.int b] = [some (.int a), some (.int b)] := by unfold L2.start; rw [hN]; rfl
      rw [hs]
      unfold egs at e1
      split at e1
      · rename_i hb0
        subst hb0
        cases e1
        refine ⟨_, rfl, _, _, .int 0, .int 0, sh_int 0, sh_int 0, true, by rw [eqv_int]; rfl, iteT ?_⟩
        exact ⟨_, rfl, a, rfl, hq _ H (Stp.refl H) ra (.int _)⟩
      · rename_i hb0
        split at e1
        · rename_i hb1
          refine ⟨_, rfl, _, _, .int b, .int 0, sh_int b, sh_int 0, false, by rw [eqv_int, beq_eq_false_iff_ne.mpr hb0], iteF ?_⟩
          · refine ⟨_, rfl, _, rfl, _, rfl, _, _, rfl, rfl, hb1, ?_⟩
            refine ⟨rfl, r, sa, O, [.int b, .int (a % b)], s0, ra, hrO, hdom, .cons (.int _) (.cons (.int _) .nil), ?_⟩
            show (lift ((egs L b (a % b)).map D.int) s0).post _ _
            rw [e1]
            exact hq
        · cases e1
    · exact hq.elim
/-! ### the law's own def -/
def lawEn (n : Nat) : En := none :: some .row :: List.replicate (n - 2) none
def spLaw (K : PySem.W.Frag) : Sp := fun vs H Q _ => ∃ (a : Addr) (ns : List Int), vs = [.ref a] ∧ SqL K H a (ns.map V.int) ∧ Only H ∧ ns.length ≤ 63 ∧ ∀ H', Q (.bl true) H'
theorem law_ok {B : Bs} {W : List Nat} {P : Program} {w : World} {mg : Str → Option Value} {base : Heap} {x qual : Str} {st : Stmt} {f : Addr} {fd : FuncData} {N ps : List Str} {k : Nat} {seed : Int} {body : En → M Fl} (F : Fun B.K x qual st f fd) (Sc : FnScope N ps (defScope st)) (hN : 2 ≤ N.length) (hps : ps.length = 1) (hW : 1 ∉ W)
    (hb : ∀ (cdv : Value) (A : Around) (outer : List Env) (s : Shared) (H : Hp) (E : XK), Room k (A.deeper (PyProof.Rows.envOfC qual (defScope st) s.heap.objs.size f cdv)) →
      ∃ t, PSs (cxOf CX0 P w B.K mg base N qual (defScope st) f cdv A outer s H E).nox (defBody st) (tSeq (tAsg (tLst (tCons (tVar 0) (tCons (tC (.int 0)) (tCons (tC (.int seed)) (tCons (tC (.int 0)) tNil))))) (gName 1)) t) ∧ RdS B W none t body)
    (hl : ∀ ns : List Int, ns.length ≤ 63 → ∃ s', body (lawEn N.length) ⟨ns, 0, seed, 0⟩ = .ok (.ret (.bl true)) s') : FnOk P w B.K mg base CX0 (k + 1) f fd ps (spLaw B.K) := by
  refine F.ok Sc (fun vs H Q E h => ?_) (fun cdv A outer s H vs Q E hr h => ?_)
  · obtain ⟨a, ns, rfl, _⟩ := h; exact hps.symm
  obtain ⟨t, hP, hR⟩ := hb cdv A outer s H E hr
  obtain ⟨a, ns, rfl, hS, hO, hn, q⟩ := h
  refine ⟨_, hP, ?_⟩
  have hst : L2.start N [V.ref a] = some (.ref a) :: none :: List.replicate (N.length - 2) none := by
    unfold L2.start
    obtain ⟨m, hm⟩ : ∃ m, N.length = m + 2 := ⟨N.length - 2, by omega⟩
    rw [hm]
    show some (V.ref a) :: ([] ++ List.replicate (m + 2 - 1) none) = _
    rw [show m + 2 - 1 = m + 1 by omega, show m + 2 - 2 = m by omega, List.replicate_succ]; rfl
  rw [hst]
  refine ⟨_, rfl, by show 4 ≤ sizeLine; decide, fun r hr0 => ?_⟩
  have scr : Scr B.K H a (ns.map V.int) := by
    rcases hS with (h | ⟨o, h⟩) | h
    · rcases hO a with z | ⟨o, xs, z⟩
      · rw [z] at h; cases h
      · rw [z] at h; cases h
    · exact .inl ⟨o, h⟩
    · exact .inr fun H' => .inr h
  have ra : RowAt B r a (upd H r (.lst [.ref a, .int 0, .int seed, .int 0])) ⟨ns, 0, seed, 0⟩ := by
    refine ⟨upd_same, scr.elim (fun ⟨o, e⟩ => .inl ⟨o, ?_⟩) .inr⟩
    rw [upd_ne (ne_of_none e hr0)]; exact e
  have gd : Gd B r a (upd H r (.lst [.ref a, .int 0, .int seed, .int 0])) [r] W [r] (some (.ref a) :: some (.ref r) :: List.replicate (N.length - 2) none) (lawEn N.length) ⟨ns, 0, seed, 0⟩ (upd H r (.lst [.ref a, .int 0, .int seed, .int 0])) := by
    have key : ∀ i d, (lawEn N.length)[i]? = some (some d) → i = 1 ∧ d = .row := fun i d e => by
      unfold lawEn at e
      match i, e with
      | 0, e => cases e
      | 1, e => cases e; exact ⟨rfl, rfl⟩
      | i + 2, e =>
        have e : (List.replicate (N.length - 2) (none : Option D))[i]? = some (some d) := e
        rw [List.getElem?_replicate] at e
        split at e <;> cases e
    refine ⟨by unfold lawEn; simp, ra, by simp, fun p hp => ?_, fun p hp => ?_, fun _ h => h, fun _ h => .inl h, Stp.refl _, fun i d hi e => ?_, fun i d hi e => ?_, fun i j p d e hi hj ne z1 z2 _ _ => ?_⟩
    · have : p = r := by simpa using hp
      rw [this, upd_same]; exact fun z => nomatch z
    · have : p = r := by simpa using hp
      rw [this, upd_same]; exact fun z => nomatch z
    · obtain ⟨rfl, rfl⟩ := key i d e
      exact ⟨_, rfl, .row⟩
    · obtain ⟨rfl, rfl⟩ := key i d e
      exact absurd hi hW
    · have h1 := (key i d z1).1
      have h2 := (key j e z2).1
      exact ne (h1.trans h2.symm)
  obtain ⟨s', e⟩ := hl ns hn
  refine hR gd _ ?_
  rw [e]
  exact fun v H' _ _ rp => by cases rp; exact q H'
def fuelI (i : Nat) : En → Nat := fun δ => match δ[i]?.join with | some (.int n) => n.natAbs + 1 | _ => 0
def fuelL (i : Nat) : En → Nat := fun δ => match δ[i]?.join with | some (.lst n) => n.length + 1 | _ => 0
end PV

namespace PV
open PySem L2
/-! ### reckoning with the plain functions -/
section
variable {δ : En} {s : S}
@[simp] theorem e_var (i : Nat) : cVar i δ s = lift (δ[i]?.join) s := rfl
@[simp] theorem e_c (d : D) : cC d δ s = .ok d s := rfl
@[simp] theorem e_op (g) (fa fb : En → M D) : cOp g fa fb δ s = (fa δ s).bind fun x s1 => (fb δ s1).bind fun y s2 => lift (g x y) s2 := rfl
@[simp] theorem e_un (g) (fa : En → M D) : cUn g fa δ s = (fa δ s).bind fun x s1 => lift (g x) s1 := rfl
@[simp] theorem e_nil : cNil δ s = .ok [] s := rfl
@[simp] theorem e_cons (fa : En → M D) (fr) : cCons fa fr δ s = (fa δ s).bind fun x s1 => (fr δ s1).bind fun xs s2 => .ok (x :: xs) s2 := rfl
@[simp] theorem e_b (g) (fr) : cB g fr δ s = (fr δ s).bind fun ds s1 => lift (g ds) s1 := rfl
@[simp] theorem e_tst (fa : En → M D) : cTst fa δ s = (fa δ s).bind fun d s1 => lift (asB d) s1 := rfl
@[simp] theorem e_and (fa fb : En → M Bool) : cAnd fa fb δ s = (fa δ s).bind fun b s1 => if b then fb δ s1 else .ok false s1 := rfl
@[simp] theorem e_or (fa fb : En → M Bool) : cOr fa fb δ s = (fa δ s).bind fun b s1 => if b then .ok true s1 else fb δ s1 := rfl
@[simp] theorem e_not (fa : En → M Bool) : cNot fa δ s = (fa δ s).bind fun b s1 => .ok (!b) s1 := rfl
@[simp] theorem e_andV (fa fb : En → M D) : cAndV fa fb δ s = (fa δ s).bind fun d s1 => (lift (asB d) s1).bind fun b s2 => if b then fb δ s2 else .ok (.bl false) s2 := rfl
@[simp] theorem e_orV (fa fb : En → M D) : cOrV fa fb δ s = (fa δ s).bind fun d s1 => (lift (asB d) s1).bind fun b s2 => if b then .ok (.bl true) s2 else fb δ s2 := rfl
@[simp] theorem e_notV (fa : En → M D) : cNotV fa δ s = (fa δ s).bind fun d s1 => (lift (asB d) s1).bind fun b s2 => .ok (.bl (!b)) s2 := rfl
@[simp] theorem e_if (c) (fa fb : En → M D) : cIf c fa fb δ s = (c δ s).bind fun b s1 => if b then fa δ s1 else fb δ s1 := rfl
@[simp] theorem e_tup (fa) : cTup fa δ s = (fa δ s).bind fun ds s1 => if ds.length ≤ 100000 then .ok (.tup ds) s1 else .stuck := rfl
@[simp] theorem e_lst (fa) : cLst fa δ s = (fa δ s).bind fun ds s1 => if ds.length ≤ 100000 then .ok (.lst ds) s1 else .stuck := rfl
@[simp] theorem e_lstL (fa) : cLstL fa δ s = (fa δ s).bind fun ds s1 => if ds.length ≤ 100000 then .ok ds s1 else .stuck := rfl
@[simp] theorem e_chain (g g') (fa fb fc : En → M D) : cChain g g' fa fb fc δ s = (fa δ s).bind fun x s1 => (fb δ s1).bind fun y s2 => (lift (g x y) s2).bind fun z s3 => (lift (asB z) s3).bind fun b s4 => if b then (fc δ s4).bind fun w s5 => lift (g' y w) s5 else .ok (.bl false) s4 := rfl
@[simp] theorem e_call (n F fr) : cCall n F fr δ s = (fr δ s).bind fun ds s1 => if ds.length = n then F ds s1 else .stuck := rfl
@[simp] theorem e_isi (T) (fa : En → M D) : cIsi T fa δ s = (fa δ s).bind fun x s1 => lift (gIsi T x) s1 := rfl
@[simp] theorem e_next : cNext δ s = .ok (.next δ) s := rfl
@[simp] theorem e_ret (f : En → M D) : cRet f δ s = (f δ s).bind fun d s1 => .ok (.ret d) s1 := rfl
@[simp] theorem e_do (f : En → M D) : cDo f δ s = (f δ s).bind fun _ s1 => .ok (.next δ) s1 := rfl
@[simp] theorem e_ite (c F G) : cIte c F G δ s = (c δ s).bind fun b s1 => if b then F δ s1 else G δ s1 := rfl
@[simp] theorem e_set (i) (f : En → M D) : cSet i f δ s = (f δ s).bind fun d s1 => .ok (.next (δ.set i (some d))) s1 := rfl
@[simp] theorem e_setL (i) (f : En → M (List D)) : cSetL i f δ s = (f δ s).bind fun d s1 => .ok (.next (δ.set i (some (.lst d)))) s1 := rfl
@[simp] theorem e_asg (f : En → M D) (tg) : cAsg f tg δ s = (f δ s).bind fun d s1 => (lift (tg d δ) s1).bind fun δ' s2 => .ok (.next δ') s2 := rfl
@[simp] theorem e_aug (i g) (f : En → M D) : cAug i g f δ s = (lift (δ[i]?.join.bind asI) s).bind fun x s0 => (f δ s0).bind fun d s1 => (lift (asI d) s1).bind fun y s2 => .ok (.next (δ.set i (some (.int (g x y))))) s2 := rfl
@[simp] theorem e_stuck : cStuck δ s = .stuck := rfl
@[simp] theorem e_for (src tg F) : cFor src tg F δ s = (src δ s).bind fun ds s1 => forL tg F ds δ s1 := rfl
@[simp] theorem e_while (fu c F) : cWhile fu c F δ s = whileN c F (fu δ) δ s := rfl
@[simp] theorem e_ofL (f : En → M (List D)) : cOfL f δ s = (f δ s).bind fun ds s1 => .ok (.lst ds) s1 := rfl
@[simp] theorem e_lc (vs src tg c) (f : En → M D) : cLc vs src tg c f δ s = (src δ s).bind fun ds s1 => if ds.length ≤ 100000 then (compL tg c f (wipeD δ vs) ds s1).bind fun ds s2 => .ok (.lst ds) s2 else .stuck := by
  unfold cLc cOfL cComp
  cases src δ s with
  | ok ds s1 => simp only [bind_ok]; split <;> rfl
  | stuck => rfl
  | err e s => rfl
@[simp] theorem e_comp (vs src tg c) (f : En → M D) : cComp vs src tg c f δ s = (src δ s).bind fun ds s1 => if ds.length ≤ 100000 then compL tg c f (wipeD δ vs) ds s1 else .stuck := rfl
@[simp] theorem e_yes : cYes δ s = .ok true s := rfl
@[simp] theorem e_itU (f : En → M D) : cItU f δ s = (f δ s).bind fun d s1 => lift (seqD d) s1 := rfl
@[simp] theorem e_itA (g f) : cItA g f δ s = (f δ s).bind fun ds s1 => lift (g ds) s1 := rfl
@[simp] theorem e_app (i) (f : En → M D) : cApp i f δ s = (lift (ownL δ i) s).bind fun ds s0 => (f δ s0).bind fun d s1 => if ds.length < 100000 then .ok (.next (δ.set i (some (.lst (ds ++ [d]))))) s1 else .stuck := rfl
@[simp] theorem e_no : cNo δ s = .ok none s := rfl
@[simp] theorem e_part (f : En → M D) : cPart f δ s = (f δ s).bind fun d s1 => (lift (asI d) s1).bind fun i s2 => .ok (some i) s2 := rfl
@[simp] theorem e_sl (f : En → M D) (fl fh) : cSl f fl fh δ s = (f δ s).bind fun d s1 => (fl δ s1).bind fun lo s2 => (fh δ s2).bind fun hi s3 => lift (gSl d lo hi) s3 := rfl
@[simp] theorem e_mt (g) (f : En → M D) (fr) : cMt g f fr δ s = (f δ s).bind fun d s1 => (fr δ s1).bind fun ds s2 => lift (g d ds) s2 := rfl
@[simp] theorem e_asL (f : En → M D) : cAsL f δ s = (f δ s).bind fun d s1 => (lift (asLst d) s1).bind fun ds s2 => .ok (.lst ds) s2 := rfl
@[simp] theorem e_scal (f : En → M D) : cScal f δ s = calmO scal (f δ s) := rfl
@[simp] theorem e_pk (f : En → M Bool) : cPk f δ s = calmO (fun _ => true) (f δ s) := rfl
@[simp] theorem calm_ok {α : Type} (p : α → Bool) (a : α) : calmO p (.ok a s) = if p a then .ok a s else .stuck := rfl
@[simp] theorem e_par (F) : cPar F δ s = (F δ δ s).bind fun δ' s1 => .ok (.next δ') s1 := rfl
@[simp] theorem e_pnil (δa : En) : pNil δ δa s = .ok δa s := rfl
@[simp] theorem e_pcons (W i f F) (δa : En) : pCons W i f F δ δa s = (f δ s).bind fun c s1 => (lift (putC W i c δa) s1).bind fun δb s2 => F δ δb s2 := rfl
@[simp] theorem e_cV (f : En → M D) : cV f δ s = (f δ s).bind fun d s1 => .ok (.v d) s1 := rfl
@[simp] theorem e_cN (f : En → M (List D)) : cN f δ s = (f δ s).bind fun d s1 => .ok (.n d) s1 := rfl
@[simp] theorem e_seq (F G) : cSeq F G δ s = (F δ s).bind fun fl s1 => match fl with | .next δ' => G δ' s1 | fl => .ok fl s1 := rfl
end
@[simp] theorem g_add (i j : Int) : gAdd (.int i) (.int j) = some (.int (i + j)) := rfl
theorem g_addL (x y : List D) (h : x.length + y.length ≤ 100000) : gAdd (.lst x) (.lst y) = some (.lst (x ++ y)) := by simp [gAdd, h]
theorem g_addT (x y : List D) (h : x.length + y.length ≤ 100000) : gAdd (.tup x) (.tup y) = some (.tup (x ++ y)) := by simp [gAdd, h]
@[simp] theorem g_dif (i j : Int) : gDif (.int i) (.int j) = some (.int (i - j)) := rfl
@[simp] theorem g_lt (i j : Int) : gLt (.int i) (.int j) = some (.bl (decide (i < j))) := rfl
@[simp] theorem g_le (i j : Int) : gLe (.int i) (.int j) = some (.bl (decide (i ≤ j))) := rfl
@[simp] theorem g_gt (i j : Int) : gGt (.int i) (.int j) = some (.bl (decide (j < i))) := rfl
@[simp] theorem g_ge (i j : Int) : gGe (.int i) (.int j) = some (.bl (decide (j ≤ i))) := rfl
@[simp] theorem g_neg (i : Int) : gNeg (.int i) = some (.int (-i)) := rfl
@[simp] theorem g_asB (b : Bool) : asB (.bl b) = some b := rfl
@[simp] theorem g_asI (i : Int) : asI (.int i) = some i := rfl
@[simp] theorem g_asLst (l : List D) : asLst (.lst l) = some l := rfl
@[simp] theorem g_seqL (l : List D) : seqD (.lst l) = some l := rfl
@[simp] theorem g_seqT (l : List D) : seqD (.tup l) = some l := rfl
@[simp] theorem g_lenL (l : List D) : gLen [.lst l] = some (.int l.length) := rfl
@[simp] theorem g_lenT (l : List D) : gLen [.tup l] = some (.int l.length) := rfl
@[simp] theorem g_abs (i : Int) : gAbs [.int i] = some (.int i.natAbs) := by
  show some (D.int (if i < 0 then -i else i)) = _
  congr 2; split <;> omega
@[simp] theorem g_int (i : Int) : gInt [.int i] = some (.int i) := rfl
@[simp] theorem g_min2 (i j : Int) : gMin2 [.int i, .int j] = some (.int (min i j)) := by
  show some (D.int (if j < i then j else i)) = _
  congr 2; split <;> omega
@[simp] theorem g_max2 (i j : Int) : gMax2 [.int i, .int j] = some (.int (max i j)) := by
  show some (D.int (if j > i then j else i)) = _
  congr 2; split <;> omega
@[simp] theorem g_sum (ns : List Int) : gSum [.lst (ns.map D.int)] = some (.int ns.sum) := by simp [gSum]
@[simp] theorem g_sumT (ns : List Int) : gSum [.tup (ns.map D.int)] = some (.int ns.sum) := by simp [gSum]
@[simp] theorem g_all (ns : List Bool) : gAll [.lst (ns.map D.bl)] = some (.bl (ns.all id)) := by simp [gAll]
@[simp] theorem g_any (ns : List Bool) : gAny [.lst (ns.map D.bl)] = some (.bl (ns.any id)) := by simp [gAny]
@[simp] theorem g_tupL (l : List D) : gTuple [.lst l] = some (.tup l) := rfl
@[simp] theorem g_tupT (l : List D) : gTuple [.tup l] = some (.tup l) := rfl
@[simp] theorem g_ixT (l : List D) (i : Int) : gIx (.tup l) (.int i) = atI l i := rfl
@[simp] theorem g_ixL (l : List D) (i : Int) : gIx (.lst l) (.int i) = atI l i := rfl
@[simp] theorem at_nat {α : Type} (l : List α) (n : Nat) : atI l (n : Int) = l[n]? := by
  unfold atI ixN
  rw [if_pos (by omega)]
  split
  · simp
  · rename_i h
    rw [List.getElem?_eq_none (by omega)]; rfl
@[simp] theorem at_0 {α : Type} (l : List α) : atI l 0 = l[0]? := at_nat l 0
@[simp] theorem at_1 {α : Type} (l : List α) : atI l 1 = l[1]? := at_nat l 1
@[simp] theorem at_2 {α : Type} (l : List α) : atI l 2 = l[2]? := at_nat l 2
@[simp] theorem at_3 {α : Type} (l : List α) : atI l 3 = l[3]? := at_nat l 3
theorem at_m1 {α : Type} (l : List α) : atI l (-1) = l.getLast? := by
  rcases List.eq_nil_or_concat l with h | ⟨m, a, h⟩
  · subst h; rfl
  · subst h; rw [List.concat_eq_append, atI_last]; simp
@[simp] theorem kB_ii : kitB "int" "int" = some true := by decide +kernel
@[simp] theorem kB_ib : kitB "int" "bool" = some false := by decide +kernel
@[simp] theorem kB_it : kitB "int" "tuple" = some false := by decide +kernel
@[simp] theorem kB_tt : kitB "tuple" "tuple" = some true := by decide +kernel
@[simp] theorem kB_tb : kitB "tuple" "bool" = some false := by decide +kernel
@[simp] theorem kB_ti : kitB "tuple" "int" = some false := by decide +kernel
@[simp] theorem gi_int (T : String) (i : Int) : gIsi T (.int i) = (kitB "int" T).map .bl := rfl
@[simp] theorem gi_tup (T : String) (i : List D) : gIsi T (.tup i) = (kitB "tuple" T).map .bl := rfl
@[simp] theorem tg_name (i : Nat) (d : D) (δ : En) : tgName i d δ = some (δ.set i (some d)) := rfl
@[simp] theorem tg_nil (δ : En) : tgNil [] δ = some δ := rfl
@[simp] theorem tg_cons (t u d ds) (δ : En) : tgCons t u (d :: ds) δ = (t d δ).bind fun δ' => u ds δ' := rfl
@[simp] theorem tg_tup (n t ds) (δ : En) : tgTup n t (.tup ds) δ = if ds.length = n then t ds δ else none := rfl
@[simp] theorem tg_lst (n t ds) (δ : En) : tgTup n t (.lst ds) δ = if ds.length = n then t ds δ else none := rfl
@[simp] theorem wp_nil (δ : En) : wipeD δ [] = δ := rfl
@[simp] theorem wp_cons (δ : En) (v vs) : wipeD δ (v :: vs) = (wipeD δ vs).set v none := rfl
@[simp] theorem pc_v (W : List Nat) (i : Nat) (d : D) (δ : En) : putC W i (.v d) δ = if i ∈ W then none else some (δ.set i (some d)) := rfl
@[simp] theorem pc_n (W : List Nat) (i : Nat) (d : List D) (δ : En) : putC W i (.n d) δ = if i ∈ W then some (δ.set i (some (.lst d))) else none := rfl
@[simp] theorem ed_ret (d : D) (s : S) : endD (.ret d) s = .ok d s := rfl
@[simp] theorem ed_next (d : En) (s : S) : endD (.next d) s = .ok .non s := rfl
@[simp] theorem isN_non (d : D) : gIsN d .non = some (.bl (isNonB d)) := rfl
@[simp] theorem notN_non (d : D) : gNotN d .non = some (.bl (!isNonB d)) := rfl
@[simp] theorem isNon1 : isNonB .non = true := rfl
@[simp] theorem isNon2 (l : List D) : isNonB (.tup l) = false := rfl
@[simp] theorem isNon3 (l : Int) : isNonB (.int l) = false := rfl
@[simp] theorem ow_eq (δ : En) (i : Nat) : ownL δ i = δ[i]?.join.bind asLst := rfl
/-! ### sizes -/
/-- of at most n bits -/
def Bd (n : Nat) (x : Int) : Prop := x.natAbs < 2 ^ n
theorem Bd.mono {n m : Nat} {x : Int} (h : Bd n x) (hm : n ≤ m) : Bd m x := Nat.lt_of_lt_of_le h (Nat.pow_le_pow_right (by decide) hm)
theorem Bd.mul {n m : Nat} {x y : Int} (h : Bd n x) (h' : Bd m y) : Bd (n + m) (x * y) := by
  unfold Bd at *
  rw [Int.natAbs_mul, Nat.pow_add]; exact Nat.mul_lt_mul'' h h'
theorem Bd.log {n : Nat} {x : Int} (h : Bd n x) : x.natAbs.log2 ≤ n := by
  cases e : x.natAbs with
  | zero => simp
  | succ k =>
    have h1 : x.natAbs < 2 ^ n := h
    have := (Nat.log2_lt (by omega : x.natAbs ≠ 0)).mpr h1
    rw [e] at this; omega
theorem g_mul {n m : Nat} {i j : Int} (h : Bd n i) (h' : Bd m j) (hz : n + m < 1000000) : gMul (.int i) (.int j) = some (.int (i * j)) := by
  show (if okMul i j then some (D.int (i * j)) else none) = _
  unfold okMul
  rw [if_pos (decide_eq_true (by have := h.log; have := h'.log; omega))]
theorem g_fdiv {m : Nat} {i j : Int} (h0 : 0 < j) (h' : Bd m j) (hz : m < 9000) : gFdiv (.int i) (.int j) = some (.int (i / j)) := by
  show (if okDiv i j then some (D.int (i / j)) else none) = _
  unfold okDiv
  rw [if_pos (decide_eq_true ⟨h0, by have := h'.log; omega⟩)]
theorem g_mod {i j : Int} (h0 : 0 < j) : gMod (.int i) (.int j) = some (.int (i % j)) := by
  show (if okMod i j then some (D.int (i % j)) else none) = _
  unfold okMod
  rw [if_pos (decide_eq_true h0)]
@[simp] theorem g_pow (i j : Nat) (h : decide (j ≤ 1000000 ∧ i < 2 ^ 64) = true := by decide) : gPow (.int i) (.int j) = some (.int ((i : Int) ^ j)) := by
  have h := of_decide_eq_true h
  show (if okPow i j then some (D.int ((i : Int) ^ (j : Int).toNat)) else none) = _
  unfold okPow
  rw [if_pos (decide_eq_true ⟨by omega, by omega, by omega⟩)]; simp
/-! ### walks -/
theorem run_eq {np n : Nat} {body : En → M Fl} {ds : List D} {s : S} (h : ds.length = np) : runD np n body ds s = (body (startD n ds) s).bind endD := by unfold runD; rw [if_pos h]
theorem comp_pure {α : Type} {tg c f δ} {enc : α → D} {p : α → Bool} {e : α → D} : ∀ {xs : List α} {s : S}, (∀ x ∈ xs, ∃ δ1, tg (enc x) δ = some δ1 ∧ (∀ s, c δ1 s = .ok (p x) s) ∧ (p x = true → ∀ s, f δ1 s = .ok (e x) s)) → compL tg c f δ (xs.map enc) s = .ok ((xs.filter p).map e) s
  | [], s, _ => rfl
  | x :: xs, s, h => by
    obtain ⟨δ1, h1, h2, h3⟩ := h x (by simp)
    have ih := comp_pure (xs := xs) (s := s) (fun y hy => h y (by simp [hy]))
    rw [List.map_cons, compL, h1, lift_some, bind_ok, h2, bind_ok]
    cases hp : p x with
    | true => rw [if_pos rfl, h3 hp, bind_ok, ih, bind_ok, List.filter_cons, if_pos hp]; rfl
    | false => rw [if_neg (by simp), ih, List.filter_cons, if_neg (by simp [hp])]
theorem comp_map {α : Type} {tg f δ} {enc : α → D} {e : α → D} {xs : List α} {s : S} (h : ∀ x ∈ xs, ∃ δ1, tg (enc x) δ = some δ1 ∧ ∀ s, f δ1 s = .ok (e x) s) : compL tg cYes f δ (xs.map enc) s = .ok (xs.map e) s := by
  rw [comp_pure (p := fun _ => true) (e := e) fun x hx => by
    obtain ⟨δ1, h1, h2⟩ := h x hx
    exact ⟨δ1, h1, fun _ => rfl, fun _ => h2⟩]
  rw [List.filter_eq_self.mpr (fun _ _ => rfl)]
theorem for_inv {α : Type} {tg F} {enc : α → D} {xs : List α} (I : List α → En → S → Prop) {δ : En} {s : S} (h0 : I [] δ s)
    (hs : ∀ pre x post δ s, xs = pre ++ x :: post → I pre δ s → ∃ δ1 δ2 s2, tg (enc x) δ = some δ1 ∧ F δ1 s = .ok (.next δ2) s2 ∧ I (pre ++ [x]) δ2 s2) : ∃ δ' s', forL tg F (xs.map enc) δ s = .ok (.next δ') s' ∧ I xs δ' s' := by
  have key : ∀ (post pre : List α) (δ : En) (s : S), xs = pre ++ post → I pre δ s → ∃ δ' s', forL tg F (post.map enc) δ s = .ok (.next δ') s' ∧ I xs δ' s' := by
    intro post
    induction post with
    | nil => intro pre δ s e h; rw [List.append_nil] at e; subst e; exact ⟨δ, s, rfl, h⟩
    | cons x post ih =>
      intro pre δ s e h
      obtain ⟨δ1, δ2, s2, h1, h2, h3⟩ := hs pre x post δ s e h
      obtain ⟨δ', s', h4, h5⟩ := ih (pre ++ [x]) δ2 s2 (by rw [e]; simp) h3
      refine ⟨δ', s', ?_, h5⟩
      rw [List.map_cons, forL, h1, lift_some, bind_ok, h2, bind_ok]; exact h4
  exact key xs [] δ s rfl h0
end PV

namespace PV
open PySem L2
/-! ### numbers: divisors, fractions -/
theorem gcd_em (a b : Int) : Int.gcd b (a % b) = Int.gcd a b := by
  conv => rhs; rw [← Int.mul_ediv_add_emod a b]
  rw [Int.gcd_mul_left_add_left, Int.gcd_comm]
theorem egs_spec : ∀ (k : Nat) (a b : Int), 0 ≤ b → b < 2 ^ k → egs (2 * k) a b = some (Int.gcd a b)
  | 0, a, b, h0, h1 => by
    have : b = 0 := by omega
    subst this
    show (if (0 : Int) = 0 then some (if a < 0 then -a else a) else none) = _
    rw [if_pos rfl, Int.gcd_zero_right]; congr 1; split <;> omega
  | k + 1, a, b, h0, h1 => by
    show egs (2 * k + 1 + 1) a b = _
    by_cases hb : b = 0
    · subst hb
      show (if (0 : Int) = 0 then some (if a < 0 then -a else a) else _) = _
      rw [if_pos rfl, Int.gcd_zero_right]; congr 1; split <;> omega
    · have hb0 : 0 < b := by omega
      show (if b = 0 then _ else if 0 < b then egs (2 * k + 1) b (a % b) else none) = _
      rw [if_neg hb, if_pos hb0]
      have e1 : Int.gcd a b = Int.gcd b (a % b) := (gcd_em a b).symm
      have r0 := Int.emod_nonneg a hb
      have r1 := Int.emod_lt_of_pos a hb0
      rw [e1]
      generalize a % b = c at *
      by_cases hc : c = 0
      · subst hc
        show (if (0 : Int) = 0 then some (if b < 0 then -b else b) else _) = _
        rw [if_pos rfl, Int.gcd_zero_right]; congr 1; split <;> omega
      · have hc0 : 0 < c := by omega
        show (if c = 0 then _ else if 0 < c then egs (2 * k) c (b % c) else none) = _
        rw [if_neg hc, if_pos hc0]
        have q0 := Int.emod_nonneg b hc
        have q1 := Int.emod_lt_of_pos b hc0
        have q2 : b % c < 2 ^ k := by
          have e := Int.mul_ediv_add_emod b c
          have d1 : 1 ≤ b / c := by
            have := Int.ediv_le_ediv hc0 (show c ≤ b by omega)
            rw [Int.ediv_self (by omega)] at this; exact this
          have : c * 1 ≤ c * (b / c) := Int.mul_le_mul_of_nonneg_left d1 (by omega)
          rw [Int.pow_succ] at h1
          omega
        rw [egs_spec k c (b % c) q0 q2]
        rw [gcd_em]
def frD (q : Rat) : D := .tup [.int q.num, .int q.den]
theorem q_num {a b : Int} (hb : 0 < b) : (Rat.divInt a b).num = a / Int.gcd a b := by
  rw [Rat.num_divInt, Int.sign_eq_one_of_pos hb, Int.one_mul, Int.gcd_comm]
theorem q_den {a b : Int} (hb : 0 < b) : ((Rat.divInt a b).den : Int) = b / Int.gcd a b := by
  rw [Rat.den_divInt, if_neg (by omega), Int.gcd_comm]
  rw [Int.natCast_ediv]; congr 1; omega
theorem q_lt {a b c d : Int} (hb : 0 < b) (hd : 0 < d) : Rat.divInt a b < Rat.divInt c d ↔ a * d < c * b := by
  rw [Rat.divInt_eq_div, Rat.divInt_eq_div]
  have hb' : (0 : Rat) < (b : Rat) := by exact_mod_cast hb
  have hd' : (0 : Rat) < (d : Rat) := by exact_mod_cast hd
  rw [Rat.lt_div_iff hd']
  have : ((a * d : Int) : Rat) < ((c * b : Int) : Rat) ↔ a * d < c * b := Rat.intCast_lt_intCast
  rw [← this, Rat.intCast_mul, Rat.intCast_mul]
  have e : (a : Rat) / b * d * b = a * d := by grind
  constructor
  · intro h
    have := Rat.mul_lt_mul_of_pos_right h hb'
    rwa [e] at this
  · intro h
    refine Rat.not_le.mp fun z => ?_
    have := Rat.mul_le_mul_of_nonneg_right z (Rat.le_of_lt hb')
    rw [e] at this
    exact Rat.not_le.mpr h this
theorem q_eq {a b c d : Int} (hb : 0 < b) (hd : 0 < d) : Rat.divInt a b = Rat.divInt c d ↔ a * d = c * b := Rat.divInt_eq_divInt_iff (by omega) (by omega)
theorem q_le {a b c d : Int} (hb : 0 < b) (hd : 0 < d) : Rat.divInt a b ≤ Rat.divInt c d ↔ a * d ≤ c * b := by
  rw [← Rat.not_lt, q_lt hd hb]; omega
theorem q_self (q : Rat) : Rat.divInt q.num q.den = q := Rat.num_divInt_den q
/-! ### == -/
mutual
/-- data of ints, None, tuples and lists, at most n deep -/
def Sm : Nat → D → Prop
  | _, .non => True
  | _, .int _ => True
  | n + 1, .tup ds => Sms n ds
  | n + 1, .lst ds => Sms n ds
  | _, _ => False
def Sms : Nat → List D → Prop
  | _, [] => True
  | n, d :: ds => Sm n d ∧ Sms n ds
end
theorem Sms_iff {n : Nat} : ∀ {ds : List D}, Sms n ds ↔ ∀ d ∈ ds, Sm n d
  | [] => by simp [Sms]
  | d :: ds => by simp [Sms, Sms_iff (ds := ds)]
mutual
theorem Sm.py : ∀ {n : Nat} {d : D}, Sm n d → ∃ p, toPy d = some p ∧ p.canLay0 = true ∧ p.depth ≤ n
  | _, .non, _ => ⟨.none, rfl, by simp [PyData.canLay0], by simp [PyData.depth]⟩
  | _, .int i, _ => ⟨.int i, rfl, by simp [PyData.canLay0], by simp [PyData.depth]⟩
  | n + 1, .tup ds, h => by
    obtain ⟨ps, h1, h2, h3⟩ := Sms.py (n := n) (ds := ds) (by simpa [Sm] using h)
    exact ⟨.tuple ps, by simp [toPy, h1], by simpa [PyData.canLay0] using h2, by simp [PyData.depth]; omega⟩
  | n + 1, .lst ds, h => by
    obtain ⟨ps, h1, h2, h3⟩ := Sms.py (n := n) (ds := ds) (by simpa [Sm] using h)
    exact ⟨.list ps, by simp [toPy, h1], by simpa [PyData.canLay0] using h2, by simp [PyData.depth]; omega⟩
  | 0, .tup _, h | 0, .lst _, h => by simp [Sm] at h
  | _, .bl _, h | _, .str _, h | _, .dic _ _, h | _, .sal _ _, h | _, .row, h | _, .obj _, h | _, .fn _, h | _, .dct _ _, h => by simp [Sm] at h
theorem Sms.py : ∀ {n : Nat} {ds : List D}, Sms n ds → ∃ ps, toPys ds = some ps ∧ PyData.canLayAll0 ps = true ∧ PyData.depthAll ps ≤ n
  | _, [], _ => ⟨[], rfl, by simp [PyData.canLayAll0], by simp [PyData.depthAll]⟩
  | n, d :: ds, h => by
    have h' : Sm n d ∧ Sms n ds := by simpa [Sms] using h
    obtain ⟨p, a1, a2, a3⟩ := Sm.py h'.1
    obtain ⟨ps, b1, b2, b3⟩ := Sms.py h'.2
    exact ⟨p :: ps, by simp [toPys, a1, b1], by simp [PyData.canLayAll0, a2, b2], by simp [PyData.depthAll]; omega⟩
end
mutual
theorem eqv_iff : ∀ {n m : Nat} {d e : D} {p q : PyData}, Sm n d → Sm m e → toPy d = some p → toPy e = some q → (PyData.eqv p q = true ↔ d = e)
  | n, m, .non, e, p, q, h1, h2, e1, e2 => by
    cases e with
    | non => cases e1; cases e2; simp [PyData.eqv]
    | int j => cases e1; cases e2; simp [PyData.eqv]
    | tup es => cases e1; simp [toPy] at e2; obtain ⟨ps, _, rfl⟩ := e2; simp [PyData.eqv]
    | lst es => cases e1; simp [toPy] at e2; obtain ⟨ps, _, rfl⟩ := e2; simp [PyData.eqv]
    | _ => simp [Sm] at h2
  | n, m, .int i, e, p, q, h1, h2, e1, e2 => by
    cases e with
    | non => cases e1; cases e2; simp [PyData.eqv]
    | int j => cases e1; cases e2; simp [PyData.eqv]
    | tup es => cases e1; simp [toPy] at e2; obtain ⟨ps, _, rfl⟩ := e2; simp [PyData.eqv]
    | lst es => cases e1; simp [toPy] at e2; obtain ⟨ps, _, rfl⟩ := e2; simp [PyData.eqv]
    | _ => simp [Sm] at h2
  | n, m, .tup ds, e, p, q, h1, h2, e1, e2 => by
    simp [toPy] at e1
    obtain ⟨ps, p1, rfl⟩ := e1
    cases e with
    | non => cases e2; simp [PyData.eqv]
    | int j => cases e2; simp [PyData.eqv]
    | tup es =>
      simp [toPy] at e2; obtain ⟨qs, q1, rfl⟩ := e2
      cases n with
      | zero => simp [Sm] at h1
      | succ n =>
        cases m with
        | zero => simp [Sm] at h2
        | succ m =>
          rw [show PyData.eqv (.tuple ps) (.tuple qs) = PyData.eqvAll ps qs by simp [PyData.eqv]]
          rw [eqvs_iff (n := n) (m := m) (by simpa [Sm] using h1) (by simpa [Sm] using h2) p1 q1]
          simp
    | lst es => simp [toPy] at e2; obtain ⟨qs, _, rfl⟩ := e2; simp [PyData.eqv]
    | _ => simp [Sm] at h2
  | n, m, .lst ds, e, p, q, h1, h2, e1, e2 => by
    simp [toPy] at e1
    obtain ⟨ps, p1, rfl⟩ := e1
    cases e with
    | non => cases e2; simp [PyData.eqv]
    | int j => cases e2; simp [PyData.eqv]
    | lst es =>
      simp [toPy] at e2; obtain ⟨qs, q1, rfl⟩ := e2
      cases n with
      | zero => simp [Sm] at h1
      | succ n =>
        cases m with
        | zero => simp [Sm] at h2
        | succ m =>
          rw [show PyData.eqv (.list ps) (.list qs) = PyData.eqvAll ps qs by simp [PyData.eqv]]
          rw [eqvs_iff (n := n) (m := m) (by simpa [Sm] using h1) (by simpa [Sm] using h2) p1 q1]
          simp
    | tup es => simp [toPy] at e2; obtain ⟨qs, _, rfl⟩ := e2; simp [PyData.eqv]
    | _ => simp [Sm] at h2
  | _, _, .bl _, _, _, _, h, _, _, _ | _, _, .str _, _, _, _, h, _, _, _ | _, _, .dic _ _, _, _, _, h, _, _, _ | _, _, .sal _ _, _, _, _, h, _, _, _ | _, _, .row, _, _, _, h, _, _, _ | _, _, .obj _, _, _, _, h, _, _, _ | _, _, .fn _, _, _, _, h, _, _, _ | _, _, .dct _ _, _, _, _, h, _, _, _ => by simp [Sm] at h
theorem eqvs_iff : ∀ {n m : Nat} {ds es : List D} {ps qs : List PyData}, Sms n ds → Sms m es → toPys ds = some ps → toPys es = some qs → (PyData.eqvAll ps qs = true ↔ ds = es)
  | n, m, [], [], ps, qs, _, _, e1, e2 => by cases e1; cases e2; simp [PyData.eqvAll]
  | n, m, [], e :: es, ps, qs, _, h2, e1, e2 => by
    cases e1
    cases qs with
    | nil => simp [toPys] at e2; split at e2 <;> simp at e2
    | cons a b => simp [PyData.eqvAll]
  | n, m, d :: ds, [], ps, qs, h1, _, e1, e2 => by
    cases e2
    cases ps with
    | nil => simp [toPys] at e1; split at e1 <;> simp at e1
    | cons a b => simp [PyData.eqvAll]
  | n, m, d :: ds, e :: es, ps, qs, h1, h2, e1, e2 => by
    have h1' : Sm n d ∧ Sms n ds := by simpa [Sms] using h1
    have h2' : Sm m e ∧ Sms m es := by simpa [Sms] using h2
    obtain ⟨p, a1, _⟩ := Sm.py h1'.1
    obtain ⟨ps', a2, _⟩ := Sms.py h1'.2
    obtain ⟨q, b1, _⟩ := Sm.py h2'.1
    obtain ⟨qs', b2, _⟩ := Sms.py h2'.2
    simp [toPys, a1, a2] at e1
    simp [toPys, b1, b2] at e2
    subst e1 e2
    simp only [PyData.eqvAll, Bool.and_eq_true]
    rw [eqv_iff h1'.1 h2'.1 a1 b1, eqvs_iff h1'.2 h2'.2 a2 b2]
    simp
end
open Classical in
theorem eq_sm {d e : D} (h1 : Sm 60 d) (h2 : Sm 60 e) : eqD d e = some (decide (d = e)) := by
  obtain ⟨p, a1, a2, a3⟩ := h1.py
  obtain ⟨q, b1, b2, b3⟩ := h2.py
  have s1 : SeqAt.shaped p = true := by unfold SeqAt.shaped; rw [a2]; simp; omega
  have s2 : SeqAt.shaped q = true := by unfold SeqAt.shaped; rw [b2]; simp; omega
  have e1 : pyOk d = some p := by unfold pyOk; rw [a1]; simp [s1]
  have e2 : pyOk e = some q := by unfold pyOk; rw [b1]; simp [s2]
  unfold eqD
  rw [e1, e2]
  have := eqv_iff h1 h2 a1 b1
  simp only [Option.some.injEq]
  by_cases z : d = e
  · rw [this.mpr z]; simp [z]
  · have : PyData.eqv p q ≠ true := fun w => z (this.mp w)
    simp [z, this]
open Classical in
theorem gEq_sm {d e : D} (h1 : Sm 60 d) (h2 : Sm 60 e) : gEq d e = some (.bl (decide (d = e))) := by unfold gEq; rw [eq_sm h1 h2]; rfl
open Classical in
theorem gNe_sm {d e : D} (h1 : Sm 60 d) (h2 : Sm 60 e) : gNe d e = some (.bl (!decide (d = e))) := by unfold gNe; rw [eq_sm h1 h2]; rfl
@[simp] theorem g_eqI (i j : Int) : gEq (.int i) (.int j) = some (.bl (decide (i = j))) := by
  rw [gEq_sm (by simp [Sm]) (by simp [Sm])]; simp
@[simp] theorem g_neI (i j : Int) : gNe (.int i) (.int j) = some (.bl (!decide (i = j))) := by
  rw [gNe_sm (by simp [Sm]) (by simp [Sm])]; simp
theorem map_int_inj {xs ys : List Int} (h : xs.map D.int = ys.map D.int) : xs = ys := by
  induction xs generalizing ys with
  | nil => cases ys with | nil => rfl | cons => cases h
  | cons x xs ih => cases ys with
    | nil => cases h
    | cons y ys => simp at h; obtain ⟨h1, h2⟩ := h; rw [h1, ih (by simpa using h2)]
theorem sms_ints (n : Nat) (xs : List Int) : Sms n (xs.map D.int) := Sms_iff.mpr fun d hd => by
  obtain ⟨i, _, rfl⟩ := List.mem_map.mp hd
  simp [Sm]
theorem g_neIs (xs ys : List Int) : gNe (.lst (xs.map D.int)) (.lst (ys.map D.int)) = some (.bl (!decide (xs = ys))) := by
  rw [gNe_sm (by simpa [Sm] using sms_ints 59 xs) (by simpa [Sm] using sms_ints 59 ys)]
  congr 2
  by_cases h : xs = ys
  · simp [h]
  · have : ¬ xs.map D.int = ys.map D.int := fun z => h (map_int_inj z)
    simp [h, this]
theorem egs_more {a b : Int} {g : Int} : ∀ {k L : Nat}, k ≤ L → egs k a b = some g → egs L a b = some g := by
  intro k
  induction k generalizing a b with
  | zero =>
    intro L _ h
    unfold egs at h
    split at h
    · rename_i hb
      cases L with
      | zero => unfold egs; rw [if_pos hb]; exact h
      | succ L => unfold egs; rw [if_pos hb]; exact h
    · cases h
  | succ k ih =>
    intro L hL h
    obtain ⟨L, rfl⟩ : ∃ m, L = m + 1 := ⟨L - 1, by omega⟩
    unfold egs at h ⊢
    split at h
    · rename_i hb; rw [if_pos hb]; exact h
    · rename_i hb
      rw [if_neg hb]
      split at h
      · rename_i hb1; rw [if_pos hb1]; exact ih (by omega) h
      · cases h
theorem law_gcd_is {L k : Nat} {a b : Int} (s : S) (h0 : 0 ≤ b) (h1 : b < 2 ^ k) (hL : 2 * k ≤ L) : gcdF L [.int a, .int b] s = .ok (.int (Int.gcd a b)) s := by
  show lift ((egs L a b).map D.int) s = _
  rw [egs_more hL (egs_spec k a b h0 h1)]; rfl
@[simp] theorem g_allM {α : Type} (xs : List α) (e : α → Bool) : gAll [.lst (xs.map fun x => .bl (e x))] = some (.bl (xs.all e)) := by
  have : (xs.map fun x => D.bl (e x)) = (xs.map e).map D.bl := by rw [List.map_map]; rfl
  rw [this, g_all]; simp
@[simp] theorem g_anyM {α : Type} (xs : List α) (e : α → Bool) : gAny [.lst (xs.map fun x => .bl (e x))] = some (.bl (xs.any e)) := by
  have : (xs.map fun x => D.bl (e x)) = (xs.map e).map D.bl := by rw [List.map_map]; rfl
  rw [this, g_any]; simp
@[simp] theorem g_sumM {α : Type} (xs : List α) (e : α → Int) : gSum [.lst (xs.map fun x => .int (e x))] = some (.int (xs.map e).sum) := by
  have : (xs.map fun x => D.int (e x)) = (xs.map e).map D.int := by rw [List.map_map]; rfl
  rw [this, g_sum]
theorem upto_map (lo : Int) (n : Nat) : upto lo n = (List.range n).map fun (i : Nat) => D.int (lo + (i : Int)) := rfl
theorem upto0 (n : Nat) : upto 0 n = (List.range n).map fun (i : Nat) => D.int (i : Int) := by rw [upto_map]; congr 1; funext i; simp
theorem g_r1 (n : Nat) (h : n ≤ 100000) : gR1 [.int (n : Int)] = some (upto 0 n) := by
  simp only [gR1]
  rw [if_pos ⟨by omega, by omega⟩, Int.toNat_natCast]
theorem g_r2 (a b : Int) (h : -100000 ≤ a ∧ a ≤ 100000 ∧ -100000 ≤ b ∧ b ≤ 100000) : gR2 [.int a, .int b] = some (upto a (b - a).toNat) := by
  simp only [gR2]
  rw [if_pos ⟨by omega, by omega, by omega, by omega⟩]
end PV

namespace PV
open PySem L2
/-! ### enumerate of a list or a tuple -/
section
open Sem (wp)
theorem enumNew {vv : Value} {oo : Obj} {HH : Heap → Prop} (BB : Begins vv oo HH) :
    Meets (Builtin.«enumerate.__new__» ⟨[.type "enumerate", vv], []⟩) (fun _ RR ss => HH ss.heap ∧
      RR (.ok (.ret (.ref (ss.heap.push oo).objs.size))) { ss with heap := (ss.heap.push oo).push { cls := .type "enumerate", data := .fields #[.none, .bool false, .ref ss.heap.objs.size, rawInt 0, .none, .none] } }) :=
  .of_wp fun pr ww AA RR ss hh => by
    obtain ⟨hp, gg, dd, tk, oz⟩ := ss
    obtain ⟨k1, hh⟩ := hh
    have sube := sub_enumerate
    have qq : ∀ {A' : Around} {E : Value → Shared → Prop} {Q : Value → Shared → Prop}, Q (.ref hp.objs.size) ⟨hp.push oo, gg, dd, tk, oz⟩ → wpAny (model pr ww) A' (pyIter vv) Q E ⟨hp, gg, dd, tk, oz⟩ := fun z => BB.iter pr ww _ _ ⟨hp, gg, dd, tk, oz⟩ _ k1 z
    wp_walk using qq
    refine wpAny_stack_any fun stk => wpAny_pure ?_
    split
    · rename_i cc _ _ _ _ _
      cases (cc == Value.type "enumerate") <;> (wp_walk using qq; exact ⟨_, rfl, hh⟩)
    · wp_walk using qq
      exact ⟨_, rfl, hh⟩
theorem enumCall {pr : Program} {ww : World} {AA : Around} {EE : Value → Shared → Prop} {ss : Shared} {vv : Value} {oo : Obj} {HH : Heap → Prop} {QQ : Value → Shared → Prop} (BB : Begins vv oo HH) (k1 : HH ss.heap)
    (hh : ∀ h', IsEnum h' (ss.heap.objs.size + 1) ss.heap.objs.size 0 .none → h'.get? ss.heap.objs.size = some oo → (∀ b o, ss.heap.get? b = some o → h'.get? b = some o) → QQ (.ref (ss.heap.objs.size + 1)) { ss with heap := h' }) :
    wpAny (model pr ww) AA (call (.type "enumerate") [vv]) QQ EE ss := by
  refine callType_new F.called_enumerate (by decide) (F.typeCall_enumerate_1 _) (F.newCall_enumerate_1 _) (fun ob => F.args_object_init_2 ob _) F.entry_enumerate_new (enumNew BB) ⟨k1, ?_⟩
  have z1 : (ss.heap.push oo).objs.size = ss.heap.objs.size + 1 := Heap.size_push ..
  show _ ∧ _
  rw [z1]
  have en : IsEnum ((ss.heap.push oo).push { cls := .type "enumerate", data := .fields #[.none, .bool false, .ref ss.heap.objs.size, rawInt 0, .none, .none] }) (ss.heap.objs.size + 1) ss.heap.objs.size 0 .none := by
    have g1 := Heap.get?_push_size (ss.heap.push oo) (o := { cls := .type "enumerate", data := .fields #[.none, .bool false, .ref ss.heap.objs.size, rawInt 0, .none, .none] }) rfl
    rw [z1] at g1
    exact g1
  exact ⟨⟨_, en, rfl⟩, hh _ en (Heap.get?_push_of_some _ (Heap.get?_push_size _ BB.free)) fun b o x => Heap.get?_push_of_some _ (Heap.get?_push_of_some _ x)⟩
end
/-- the tuple at a, each item in a new pair -/
def IteT (K : PySem.W.Frag) (a : Addr) (n : Nat) : It :=
  ⟨fun i H => i < n ∧ ∃ (xs : List V) (x : V), SqT K H a xs ∧ xs.length = n ∧ xs[i]? = some x, fun i H v H' => ∃ T x, v = .ref T ∧ H T = none ∧ H' = upd H T (.tup [.int (i : Nat), x]) ∧ ∀ xs, SqT K H a xs → xs[i]? = some x, fun i H => i = n ∧ ∃ xs : List V, SqT K H a xs ∧ xs.length = n⟩
theorem turn_enumT {P : Program} {w : World} {K : PySem.W.Frag} {elts : List Expr} {kk : Nat} {tpos : Pos} (a e it : Addr) (n : Nat) :
    Turn P w K (.Tuple elts kk tpos) (IteT K a n) [e, it] e (fun i h => (∃ old, IsEnum h e it ((i : Nat) : Int) old) ∧ h.IsTupleIter it a i ∧ e ≠ it) where
  mem := by simp
  obj := fun i h st b hb => by
    obtain ⟨⟨old, he⟩, ⟨o, ho, hc, hd⟩, _⟩ := st
    rcases (by simpa using hb : b = e ∨ b = it) with z | z
    · rw [z]; exact ⟨_, he, fun v q => nomatch q⟩
    · rw [z]; exact ⟨o, ho, fun v q => by rw [hd] at q; cases q⟩
  keep := fun i h h' st k => by
    obtain ⟨⟨old, he⟩, hi, hne⟩ := st
    exact ⟨⟨old, k e (by simp) _ he⟩, hi.at fun o q => k it (by simp) o q, hne⟩
  item := by
    intro X hP hw hK hc i pins s σ H E I hf st hg
    subst hP hw hK
    obtain ⟨⟨old, he⟩, hit, hne⟩ := st
    obtain ⟨hin, xs, x, hq, hxl, hx⟩ := hg
    obtain ⟨its, rv, p, hz⟩ := I.tuple hq
    obtain ⟨u, hu, ru⟩ := rv.get hx
    have hel : e < s.heap.objs.size := Heap.lt_size he
    have hil : it < s.heap.objs.size := by obtain ⟨_, q, _⟩ := hit; exact Heap.lt_size q
    have hne2 : a ≠ it := fun z => by
      obtain ⟨oo, o1, o2, _⟩ := hit
      obtain ⟨op, p1, p2, _⟩ := p
      rw [z, o1] at p1; cases p1
      rw [o2] at p2
      injection p2 with z2
      exact absurd z2 (by decide)
    have hea : e ≠ a := fun z => by
      obtain ⟨op, p1, p2, _⟩ := p
      rw [← z] at p1
      have he' : s.heap.get? e = some _ := he
      rw [he'] at p1; cases p1
      injection p2 with z2
      exact absurd z2 (by decide)
    have hsz : its.toArray.size = n := by rw [List.size_toArray, ← rv.length]; exact hxl
    have DD := Draws.tuple (prog := X.prog) (w := X.w) (A := X.A.in1) (by have := I.ok.hd hc; exact this) it a hne2 its.toArray
    refine wpAny_pyNext_enum_itemD DD he ⟨hit, p⟩ (by rw [hsz]; exact hin) hne (by simp [hne, hea]) fun y h' tk hy ho hst' hT hsz' hk => ?_
    have ey : y = u := by
      have h1 : its.toArray[i]? = some y := hy
      have h2 : its.toArray[i]? = some u := by simpa using hu
      exact Option.some.inj (h1.symm.trans h2)
    subst ey
    refine ⟨_, rfl, wpAny_letOwnedTupleGo_enum (s := { s with heap := h', toks := tk + 1 }) ho fun h'' he' sb => ?_⟩
    have hT2 : h''.get? s.heap.objs.size = some { cls := .type "tuple", data := .seq #[.int i tk, y] } := (sb.2 _ (Nat.ne_of_gt hel)).trans hT
    have new : ObjOk X.prog X.w (upd H s.heap.objs.size (.tup [.int (i : Nat), x])) h'' s.heap.objs.size (.tup [.int (i : Nat), x]) :=
      ⟨by show 2 ≤ sizeLine; decide, [.int i tk, y], .cons ⟨_, rfl⟩ (.cons ru .nil), ⟨_, hT2, rfl, _, rfl⟩⟩
    have I1 : Inv X pins σ (upd H s.heap.objs.size (.tup [.int (i : Nat), x])) { s with heap := h'', toks := tk + 1 } :=
      I.turnedNew (ch := [e, it]) (fun b ob hb q => (sb.2 b (fun z => hb (by simp [z]))).trans (hk b ob (fun z => hb (by simp [z])) (fun z => hb (by simp [z])) q)) hf (Nat.le_refl _) new
    refine ⟨.ref s.heap.objs.size, _, I1, rfl, ⟨_, x, rfl, I.hok.fresh (Nat.le_refl _), rfl, fun ys hy => by rw [I.tuple_inj hy hq]; exact hx⟩, ⟨⟨y, ?_⟩, hst'.1.at fun o q => (sb.2 it (Ne.symm hne)).trans q, hne⟩, fun b hb => ?_⟩
    · rw [show ((i + 1 : Nat) : Int) = (i : Int) + 1 by omega]; exact he'
    · have hb' : b < s.heap.objs.size := by
        rcases (by simpa using hb : b = e ∨ b = it) with z | z
        · rw [z]; exact hel
        · rw [z]; exact hil
      rw [upd_ne (Nat.ne_of_lt hb')]
      exact (hf b hb).1
  done := by
    intro X hP hw hK hc i pins s σ H E I hf st hg
    subst hP hw hK
    obtain ⟨⟨old, he⟩, hit, hne⟩ := st
    obtain ⟨hin, xs, hq, hxl⟩ := hg
    obtain ⟨its, rv, p, hz⟩ := I.tuple hq
    obtain ⟨f0, f1, f2, f3, f4, f5⟩ := hf it (by simp)
    have hne2 : a ≠ it := fun z => by
      obtain ⟨oo, o1, o2, _⟩ := hit
      obtain ⟨op, p1, p2, _⟩ := p
      rw [z, o1] at p1; cases p1
      rw [o2] at p2
      injection p2 with z2
      exact absurd z2 (by decide)
    have hsz : its.toArray.size = i := by rw [List.size_toArray, ← rv.length, hin]; exact hxl
    have DD := Draws.tuple (prog := X.prog) (w := X.w) (A := X.A.in1) (by have := I.ok.hd hc; exact this) it a hne2 its.toArray
    exact wpAny_pyNext_enum_endD DD he ⟨by rw [hsz]; exact hit, p⟩ fun h' eb => ⟨rfl, I.turned (t' := s.toks) (fun b o hb q => eb b o hb q) f0 f1 f3 f4 f5⟩
  self := fun A i s Q E st h => by
    obtain ⟨⟨_, he⟩, _⟩ := st
    exact wpAny_pyIter_enum he h
def iEnumU (K : PySem.W.Frag) (te : TE) : TI := fun σ H R => te σ H fun v H1 => ∃ (a : Addr) (xs : List V), v = .ref a ∧ ((SqL K H1 a xs ∧ R (Ite K a) H1) ∨ (SqT K H1 a xs ∧ R (IteT K a xs.length) H1))
theorem pi_enumU {X : Cx} {e : Expr} {te : TE} {p pos tpos : Pos} {elts : List Expr} {kk : Nat} (hg : Gl X "enumerate") (hm : X.mg "enumerate" = none) (he : PE X e te) (hs : starEach [e] X.env = (false, eval e X.env) :: starEach [] X.env := by rfl) :
    PI X (.Tuple elts kk tpos) (.Call (.Name "enumerate" p) [e] [] pos) (iEnumU X.K te) := by
  refine ⟨fun pins s σ H R I h => ?_⟩
  refine PyProof.Rows.Call_ (ld_blt I hg hm PyProof.Rows.boot_enumerate (PyProof.Rows.callWith_type1 (PyProof.Rows.args_cons (thn (he.run pins s σ H _ I h) fun u s1 ⟨v, H1, I1, r1, q1⟩ => PyProof.Rows.args_nil ?_) hs) hs rfl))
  obtain ⟨a, xs, ev, q⟩ := q1
  subst ev
  obtain rfl : u = Value.ref a := r1
  have fin : ∀ {J : It} {tn : Nat → Heap → Prop} {h' : Heap}, (∀ b o, s1.heap.get? b = some o → h'.get? b = some o) → IsEnum h' (s1.heap.objs.size + 1) s1.heap.objs.size 0 .none → Turn X.prog X.w X.K (.Tuple elts kk tpos) J [s1.heap.objs.size + 1, s1.heap.objs.size] (s1.heap.objs.size + 1) tn → tn 0 h' → R J H1 →
      wpAny (model X.prog X.w) X.A (pyIter (.ref (s1.heap.objs.size + 1))) (PIE X pins σ (.Tuple elts kk tpos) R) X.xe { s1 with heap := h' } := fun {J tn h'} hk hen ht h0 hR => by
    refine wpAny_pyIter_enum hen ?_
    have I2 : Inv X pins σ H1 { s1 with heap := h' } := I1.kept (t' := s1.toks) hk
    refine ⟨s1.heap.objs.size + 1, [s1.heap.objs.size + 1, s1.heap.objs.size], tn, J, H1, rfl, I2, ht, h0, fun b hb => ?_, hR⟩
    have hle : s1.heap.objs.size ≤ b := by
      rcases (by simpa using hb : b = s1.heap.objs.size + 1 ∨ b = s1.heap.objs.size) with z | z
      · rw [z]; exact Nat.le_succ _
      · rw [z]; exact Nat.le_refl _
    exact I1.fpOk hle (I1.hok.fresh hle)
  rcases q with ⟨hq, q⟩ | ⟨hq, q⟩
  · obtain ⟨its, rv, p', hz⟩ := I1.list hq
    exact enumCall (begins_list a its.toArray) p'.isList fun h' hen ho hk => fin hk hen (turn_enum a _ _) ⟨⟨.none, hen⟩, ⟨_, ho, rfl, rfl⟩, Nat.succ_ne_self _⟩ q
  · obtain ⟨its, rv, p', hz⟩ := I1.tuple hq
    exact enumCall (begins_tuple a its.toArray) p' fun h' hen ho hk => fin hk hen (turn_enumT a _ _ xs.length) ⟨⟨.none, hen⟩, ⟨_, ho, rfl, rfl⟩, Nat.succ_ne_self _⟩ q
section
variable {B : Bs} {W : List Nat} {E : Option XK}
def enumD (ds : List D) : List D := (List.range ds.length).map fun (i : Nat) => D.tup [.int (i : Int), ds.getD i .non]
@[simp] theorem enumD_len (ds : List D) : (enumD ds).length = ds.length := by unfold enumD; simp
theorem enumD_get {ds : List D} {i : Nat} {d : D} (h : (enumD ds)[i]? = some d) : ∃ e, ds[i]? = some e ∧ d = .tup [.int (i : Int), e] := by
  unfold enumD at h
  rw [List.getElem?_map] at h
  obtain ⟨j, h1, h2⟩ := Option.map_eq_some_iff.mp h
  obtain ⟨h3, h4⟩ := List.getElem?_eq_some_iff.mp h1
  rw [List.length_range] at h3
  rw [List.getElem_range] at h4
  subst h4
  refine ⟨ds[i], List.getElem?_eq_getElem h3, ?_⟩
  rw [← h2, List.getD_eq_getElem?_getD, List.getElem?_eq_getElem h3]; rfl
def cItE (f : En → M D) : En → M (List D) := fun δ s => (f δ s).bind fun d s1 => (lift (seqD d) s1).bind fun ds s2 => .ok (enumD ds) s2
theorem new_pair {r : Addr} {O : List Addr} {H : Hp} {T : Addr} {x y : V} {d e : D} (hT : H T = none) (hd : ∀ p ∈ O, H p ≠ none) (h1 : Rep B r (hid H O) x d) (h2 : Rep B r (hid H O) y e) : Same H (upd H T (.tup [x, y])) ∧ Rep B r (hid (upd H T (.tup [x, y])) O) (.ref T) (.tup [d, e]) :=
  ⟨same_new hT, new_tup hT hd (.cons h1 (.cons h2 .nil))⟩
theorem ri_enum {te : TE} {f : En → M D} (ha : RdE B W E te f) : RdI B W E (iEnumU B.K te) (cItE f) := by
  intro r sa H0 O0 O σ δ s H gd R h
  refine ha gd _ (post_mono (post_bind h) (fun x s1 hx v H1 st ra rp => ?_) (fun _ _ z => z))
  obtain ⟨ds, e, hd⟩ := post_lift (post_bind hx)
  cases x <;> simp [seqD] at e
  · subst e
    obtain ⟨a, vs, rfl, h1, h2⟩ := rp.inv_tup
    refine ⟨a, vs, rfl, .inr ⟨sqT_le h1, hd _ H1 st ra fun O' H2 sm hdm => ?_⟩⟩
    have e2 : SqT B.K H2 a vs := sqT_le (same_t sm h1)
    have hl := h2.length
    refine ⟨fun i hi => ?_, ⟨by rw [enumD_len]; exact hl.symm, vs, e2, rfl⟩, fun i x H3 d hi hy => ?_⟩
    · rw [enumD_len] at hi
      exact ⟨by omega, vs, vs[i]'(by omega), e2, rfl, by simp [show i < vs.length by omega]⟩
    · obtain ⟨T, y, rfl, hT, rfl, hyv⟩ := hy
      obtain ⟨de, g1, rfl⟩ := enumD_get hi
      obtain ⟨w, w1, w2⟩ := h2.get i de g1
      cases (hyv vs e2).symm.trans w1
      exact new_pair hT hdm (.int _) (w2.mono sm)
  · subst e
    obtain ⟨a, vs, rfl, h1, h2⟩ := rp.inv_lst
    refine ⟨a, vs, rfl, .inl ⟨SqL.of (hid_le _ _ h1), hd _ H1 st ra fun O' H2 sm hdm => ?_⟩⟩
    have e2 : SqL B.K H2 a vs := SqL.of (hid_le _ _ (sm _ _ h1))
    have hl := h2.length
    refine ⟨fun i hi => ?_, ⟨vs, e2, by rw [enumD_len]; omega⟩, fun i x H3 d hi hy => ?_⟩
    · rw [enumD_len] at hi
      exact ⟨vs, vs[i]'(by omega), e2, by simp [show i < vs.length by omega]⟩
    · obtain ⟨T, y, rfl, hT, rfl, hyv⟩ := hy
      obtain ⟨de, g1, rfl⟩ := enumD_get hi
      obtain ⟨w, w1, w2⟩ := h2.get i de g1
      cases (hyv vs e2).symm.trans w1
      exact new_pair hT hdm (.int _) (w2.mono sm)
/-! ### reversed(x) -/
def cItR (f : En → M D) : En → M (List D) := fun δ s => (f δ s).bind fun d s1 => (lift (seqD d) s1).bind fun ds s2 => .ok ds.reverse s2
theorem rev_get {α : Type} {xs : List α} {i : Nat} {x : α} (h : xs.reverse[i]? = some x) : xs[xs.length - 1 - i]? = some x := by
  have hi : i < xs.length := by have := (List.getElem?_eq_some_iff.mp h).1; simpa using this
  rw [List.getElem?_reverse hi] at h; exact h
theorem ri_rev {te : TE} {f : En → M D} (ha : RdE B W E te f) : RdI B W E (RT.iRevA B.K te) (cItR f) := by
  intro r sa H0 O0 O σ δ s H gd R h
  refine ha gd _ (post_mono (post_bind h) (fun x s1 hx v H1 st ra rp => ?_) (fun _ _ z => z))
  obtain ⟨ds, e, hd⟩ := post_lift (post_bind hx)
  cases x <;> simp [seqD] at e
  · subst e
    obtain ⟨a, vs, rfl, h1, h2⟩ := rp.inv_tup
    refine ⟨a, vs, rfl, .inr ⟨sqT_le h1, hd _ H1 st ra fun O' H2 sm hdm => ?_⟩⟩
    have e2 : SqT B.K H2 a vs := sqT_le (same_t sm h1)
    have hl := h2.length
    refine ⟨fun i hi => ?_, by rw [List.length_reverse]; exact Nat.le_of_eq hl, fun i x H3 d hi hy => ?_⟩
    · rw [List.length_reverse] at hi
      exact ⟨by omega, vs, vs[vs.length - 1 - i]'(by omega), e2, by simp [show vs.length - 1 - i < vs.length by omega]⟩
    · obtain ⟨rfl, hyv⟩ := hy
      have g1 := rev_get hi
      rw [← hl] at g1
      obtain ⟨w, w1, w2⟩ := h2.get _ d g1
      cases (hyv vs e2).symm.trans w1
      exact ⟨Same.refl _, w2.mono sm⟩
  · subst e
    obtain ⟨a, vs, rfl, h1, h2⟩ := rp.inv_lst
    refine ⟨a, vs, rfl, .inl ⟨SqL.of (hid_le _ _ h1), hd _ H1 st ra fun O' H2 sm hdm => ?_⟩⟩
    have e2 : SqL B.K H2 a vs := SqL.of (hid_le _ _ (sm _ _ h1))
    have hl := h2.length
    refine ⟨fun i hi => ?_, by rw [List.length_reverse]; exact Nat.le_of_eq hl, fun i x H3 d hi hy => ?_⟩
    · rw [List.length_reverse] at hi
      exact ⟨by omega, vs, vs[vs.length - 1 - i]'(by omega), e2, by simp [show vs.length - 1 - i < vs.length by omega]⟩
    · obtain ⟨rfl, hyv⟩ := hy
      have g1 := rev_get hi
      rw [← hl] at g1
      obtain ⟨w, w1, w2⟩ := h2.get _ d g1
      cases (hyv vs e2).symm.trans w1
      exact ⟨Same.refl _, w2.mono sm⟩
end
end PV

namespace HT
open PySem PySem.Spec PySem.Calls PyProof.Rows
section
variable {prog : Program} {w : World} {A : Around} {E : Value → Shared → Prop} {s : Shared}
theorem applied_rev {sl : Addr} {vk : Value} {n : Nat} {R : Int × Int × Nat → Shared → Prop} (hS : s.heap.IsSliceOf sl .none .none vk) (pk : IsPart vk (some (-1))) (h : R ((n : Int) - 1, -1, n) s) :
    wpAny (model prog w) A (Builtin.Slice.sliceApplied (.ref sl) (pure (n : Int))) R E s := by
  obtain ⟨o, ho, hc, hd⟩ := id hS
  unfold Builtin.Slice.sliceApplied Builtin.Slice.sliceFields
  refine wpAny_bind (wpAny_bind (wpAny_field ho hd (x := .none) rfl (wpAny_bind (wpAny_field ho hd (x := .none) rfl (wpAny_bind (wpAny_field ho hd (x := vk) rfl (wpAny_pure ?_)))))))
  refine wpAny_bind (slicePart_ pk ?_)
  show wpAny _ _ (if ((-1 : Int) == 0) = true then _ else _) _ _ s
  rw [if_neg (by decide)]
  refine wpAny_bind (slicePart_none (wpAny_bind (slicePart_none (wpAny_bind (wpAny_pure ?_)))))
  show wpAny _ _ (pure ((n : Int) - 1, (-1 : Int), Builtin.Slice.slicePlaces ((n : Int) - 1) (-1) (-1))) _ _ s
  have e : Builtin.Slice.slicePlaces ((n : Int) - 1) (-1) (-1) = n := by
    unfold Builtin.Slice.slicePlaces
    rw [if_neg (by decide)]
    by_cases h : (n : Int) - 1 > -1
    · rw [if_pos h, show (- -1 : Int) = 1 by decide, Int.ediv_one]; omega
    · rw [if_neg h]; omega
  rw [e]
  exact wpAny_pure h
theorem pick_rev (xs : Array Value) : ((List.range xs.size).filterMap fun (k : Nat) => xs[(((xs.size : Nat) : Int) - 1 + (k : Int) * -1).toNat]?).toArray = xs.toList.reverse.toArray := by
  have e : (List.range xs.size).filterMap (fun (k : Nat) => xs[(((xs.size : Nat) : Int) - 1 + (k : Int) * -1).toNat]?) = ((List.range xs.size).map fun k => xs.size - 1 - k).filterMap (xs[·]?) := by
    rw [List.filterMap_map]
    congr 1
    funext k
    show _ = xs[xs.size - 1 - k]?
    congr 1
    omega
  rw [e, PySem.W.krv_range, List.filterMap_reverse, PySem.W.krv_all]
theorem tuple_rev {t sl : Addr} {its : Array Value} {vk : Value} {R : Value → Shared → Prop} (ht : IsTup s.heap t its) (hS : s.heap.IsSliceOf sl .none .none vk) (pk : IsPart vk (some (-1)))
    (h : R (.ref s.heap.objs.size) { s with heap := s.heap.push { cls := .type "tuple", data := .seq its.toList.reverse.toArray } }) (hz : its.size ≤ sizeLine) : wpAny (model prog w) A (getItem (.ref t) (.ref sl)) R E s := by
  have hk : sizeOk (.seq its.toList.reverse.toArray) := by
    show its.toList.reverse.toArray.size ≤ sizeLine
    rw [List.size_toArray, List.length_reverse, Array.length_toList]; exact hz
  obtain ⟨o, ho, hc, hd⟩ := id hS
  have hT : s.TypeIs (.ref sl) "slice" := ⟨o, ho, hc⟩
  unfold getItem
  try with_reducible refine wpAny_holding ?_
  first | refine wpAny_bind (wpAny_pure ?_) | skip
  refine wpAny_bind (wpAny_sequenceKey ht.typeIs (by decide) ?_)
  refine wpAny_bind (wpAny_callSpecial?_slot (name := Str.ofString "__getitem__") ht.typeIs PyProof.Rows.slot_tuple_getitem
    (wpAny_call_entry PyProof.Rows.slot_tuple_getitem ht.typeIs entry_tuple_getitem ?_ (args_tuple_getitem _ _)))
  show wpAny _ _ (Builtin.Tuple.tupleItemsOf (.ref t) >>= _) _ _ s
  refine wpAny_bind (tupleItemsOf_ ht (wpAny_bind (wpAny_typeOf hT ?_)))
  rw [if_pos (by decide)]
  refine wpAny_bind (applied_rev hS pk ?_)
  have no : ¬ ((((its.size : Nat) : Int) - 1 == 0 && (-1 : Int) == 1 && its.size == its.size) = true) := by
    intro q
    rw [Bool.and_eq_true, Bool.and_eq_true] at q
    exact absurd (eq_of_beq q.1.2) (by decide)
  show wpAny _ _ (if (((its.size : Nat) : Int) - 1 == 0 && (-1 : Int) == 1 && its.size == its.size) = true then _ else _) _ _ s
  rw [if_neg no, pick_rev]
  first
    | exact wpAny_bind (m := Builtin.Tuple.tupleExact _) (wpAny_newObj_type (wpAny_pure ⟨_, rfl, wpAny_pure h⟩) hk)
    | exact wpAny_bind (m := Builtin.Tuple.tupleExact _) (wpAny_newObj_type (wpAny_bind (wpAny_pure (wpAny_pure ⟨_, rfl, wpAny_pure h⟩))) hk)
    | exact wpAny_bind (wpAny_bind (m := Builtin.Tuple.tupleExact _) (wpAny_newObj_type (wpAny_pure (wpAny_pure ⟨_, rfl, wpAny_pure h⟩)) hk))
    | exact wpAny_bind (wpAny_bind (m := Builtin.Tuple.tupleExact _) (wpAny_newObj_type (wpAny_pure ⟨_, rfl, wpAny_pure h⟩) hk))
end
end HT
namespace PV
open PySem L2 PySem.Spec PyProof.Rows
/-! ### x[::-1] of a list or a tuple -/
def tRevU (K : PySem.W.Frag) (te : TE) : TE := fun σ H Q => te σ H fun x H1 => ∃ a xs, x = .ref a ∧ ((SqL K H1 a xs ∧ ∀ p, H1 p = none → Q (.ref p) (upd H1 p (.lst xs.reverse))) ∨ (SqT K H1 a xs ∧ ∀ p, H1 p = none → Q (.ref p) (upd H1 p (.tup xs.reverse))))
theorem pe_revU {X : Cx} {e : Expr} {te : TE} {k : Nat} {p1 p2 p3 pos : Pos} (he : PE X e te) : PE X (.Subscript e (.Slice none none (some (.UnaryOp .USub (.Constant (.int 1) k p1) p2)) p3) pos) (tRevU X.K te) := by
  refine ⟨fun pins s σ H Q I h => ?_⟩
  refine Subscript_ (thn (he.run pins s σ H _ I h) fun v sa ⟨x, Ha, Ia, ra, qa⟩ => ?_)
  obtain ⟨a, xs, ex, q⟩ := qa
  subst ex
  cases ra
  have part : PO X (some (.UnaryOp .USub (.Constant (.int 1) k p1) p2)) (tPart (tUn (rU fun i => .int (-i)) (tC (.int 1)))) := po_some (pe_un un_neg pe_int)
  refine wpAny_Slice (thn (po_none.run pins sa σ Ha (fun o J => o = none ∧ J = Ha) Ia ⟨rfl, rfl⟩) fun vl sb ⟨l, Hb, Ib, pl, el, eb⟩ => ?_)
  subst el eb
  refine thn (po_none.run pins sb σ Hb (fun o J => o = none ∧ J = Hb) Ib ⟨rfl, rfl⟩) fun vu sc ⟨u, Hc, Ic, pu, eu, ec⟩ => ?_
  subst eu ec
  refine thn (part.run pins sc σ Hc (fun o J => o = some (-1) ∧ J = Hc) Ic ⟨1, rfl, -1, rfl, rfl, rfl⟩) fun vk sd ⟨o, Hd, Id, pk, eo, ed⟩ => ?_
  subst eo ed
  have Ie : Inv X pins σ Hd { sd with heap := sd.heap.push { cls := .type "slice", data := .fields #[vl, vu, vk] } } := Id.kept (t' := sd.toks) fun b ob z => Heap.get?_push_of_some _ z
  show wpAny (model X.prog X.w) X.A (subscriptTail e (.Slice none none (some (.UnaryOp .USub (.Constant (.int 1) k p1) p2)) p3) (.ref a) (.ref sd.heap.objs.size)) (EP X pins σ Q) X.xe { sd with heap := sd.heap.push { cls := .type "slice", data := .fields #[vl, vu, vk] } }
  rcases q with ⟨hx, q⟩ | ⟨hx, q⟩
  · obtain ⟨its, r, ht, hz⟩ := Ie.list hx
    have hn := r.length
    refine tail_any (ops := [.ref a, .ref sd.heap.objs.size]) ht.isList.typeIs (PySem.slot_list_getitem.lookup) ?_ (by with_unfolding_all rfl)
    refine wpAny_getItem_list_slice ht.isList (Heap.IsSliceOf.new _ vl vu vk) pl pu pk (by decide) ?_ (by rw [List.size_toArray]; omega)
    rw [PySem.W.krv_pick]
    refine ⟨.ref _, _, Ie.laid (t' := sd.toks) (o := .lst xs.reverse) (fun b ob z => Heap.get?_push_of_some _ z) (Nat.le_refl _) ?_, rfl, q _ (Ie.hok.fresh (Nat.le_refl _))⟩
    exact ⟨by rw [List.length_reverse]; exact hz, _, 0, r.reverse, Heap.get?_push_size _ rfl⟩
  · obtain ⟨its, r, ht, hz⟩ := Ie.tuple hx
    have hn := r.length
    cases pl; cases pu
    refine tail_any (ops := [.ref a, .ref sd.heap.objs.size]) ht.typeIs (PyProof.Rows.slot_tuple_getitem.lookup) ?_ (by with_unfolding_all rfl)
    refine HT.tuple_rev ht (Heap.IsSliceOf.new _ .none .none vk) pk ?_ (by rw [List.size_toArray]; omega)
    refine ⟨.ref _, _, Ie.laid (t' := sd.toks) (o := .tup xs.reverse) (fun b ob z => Heap.get?_push_of_some _ z) (Nat.le_refl _) ?_, rfl, q _ (Ie.hok.fresh (Nat.le_refl _))⟩
    exact ⟨by rw [List.length_reverse]; exact hz, _, r.reverse, ⟨_, Heap.get?_push_size _ rfl, rfl, _, rfl⟩⟩
section
variable {B : Bs} {W : List Nat} {E : Option XK} {te : TE} {fa : En → M D}
def gRev : D → Option D | .tup ds => some (.tup ds.reverse) | .lst ds => some (.lst ds.reverse) | _ => none
theorem rd_rev (ha : RdE B W E te fa) : RdE B W E (tRevU B.K te) (cUn gRev fa) := by
  intro r sa H0 O0 O σ δ s H gd Q h
  refine ha gd _ (post_mono (post_bind h) (fun x s1 hx v H1 st ra rp => ?_) (fun _ _ z => z))
  obtain ⟨d, e, hd⟩ := post_lift hx
  cases x <;> simp [gRev] at e
  · subst e
    obtain ⟨a, vs, rfl, h1, h2⟩ := rp.inv_tup
    exact ⟨a, vs, rfl, .inr ⟨sqT_le h1, fun p hp => hd _ _ (st.trans (Stp.new hp)) (ra.new hp) (new_tup hp (gd.step st ra).dom h2.reverse)⟩⟩
  · subst e
    obtain ⟨a, vs, rfl, h1, h2⟩ := rp.inv_lst
    exact ⟨a, vs, rfl, .inl ⟨SqL.of (hid_le _ _ h1), fun p hp => hd _ _ (st.trans (Stp.new hp)) (ra.new hp) (new_lst hp (gd.step st ra).dom h2.reverse)⟩⟩
end
section
variable {δ : En} {s : S}
@[simp] theorem e_itE (f : En → M D) : cItE f δ s = (f δ s).bind fun d s1 => (lift (seqD d) s1).bind fun ds s2 => .ok (enumD ds) s2 := rfl
@[simp] theorem e_itR (f : En → M D) : cItR f δ s = (f δ s).bind fun d s1 => (lift (seqD d) s1).bind fun ds s2 => .ok ds.reverse s2 := rfl
@[simp] theorem g_revT (ds : List D) : gRev (.tup ds) = some (.tup ds.reverse) := rfl
@[simp] theorem g_revL (ds : List D) : gRev (.lst ds) = some (.lst ds.reverse) := rfl
end
end PV

namespace PV
open PySem L2
/-! ### comprehensions with two fors -/
def inL (tg : D → En → Option En) (c : En → M Bool) (f : En → M D) (δ : En) : List D → List D → M (List D)
  | [], acc, s => .ok acc s
  | d :: ds, acc, s => (lift (tg d δ) s).bind fun δ1 s1 => (c δ1 s1).bind fun b s2 => if b then (f δ1 s2).bind fun y s3 => if acc.length < 100000 then inL tg c f δ ds (acc ++ [y]) s3 else .stuck else inL tg c f δ ds acc s2
def freeW (W : List Nat) (δ : En) : Bool := W.all fun j => δ[j]?.join.isNone
@[simp] theorem freeW_nil (δ : En) : freeW [] δ = true := rfl
def outL (W : List Nat) (tg : D → En → Option En) (c : En → M Bool) (src1 : En → M (List D)) (tg1 : D → En → Option En) (c1 : En → M Bool) (f : En → M D) (vs1 : List Nat) (δ : En) : List D → List D → M (List D)
  | [], acc, s => .ok acc s
  | d :: ds, acc, s => (lift (tg d δ) s).bind fun δ1 s1 => if freeW W δ1 then (c δ1 s1).bind fun b s2 => if b then (src1 δ1 s2).bind fun es s3 => (inL tg1 c1 f (wipeD δ1 vs1) es acc s3).bind fun acc' s4 => outL W tg c src1 tg1 c1 f vs1 δ ds acc' s4 else outL W tg c src1 tg1 c1 f vs1 δ ds acc s2 else .stuck
def cComp2 (W vs : List Nat) (src : En → M (List D)) (tg : D → En → Option En) (c : En → M Bool) (src1 : En → M (List D)) (tg1 : D → En → Option En) (c1 : En → M Bool) (f : En → M D) (vs1 : List Nat) : En → M (List D) := fun δ s => (src δ s).bind fun ds s1 => if freeW W δ then outL W tg c src1 tg1 c1 f vs1 (wipeD δ vs) ds [] s1 else .stuck
theorem freeW_no {W : List Nat} {δ : En} (h : freeW W δ = true) {j : Nat} {d : D} (hj : j ∈ W) (e : δ[j]? = some (some d)) : False := by
  have := List.all_eq_true.mp h j hj
  rw [e] at this; cases this
section
variable {B : Bs} {W : List Nat} {E : Option XK}
/-- a list that no slot owns is written -/
theorem Gd.push {r sa : Addr} {H0 : Hp} {O0 O : List Addr} {σ : St} {δ : En} {s : S} {H : Hp} {p : Addr} {ws ws' : List V} (g : Gd B r sa H0 O0 W O σ δ s H) (hp : p ∈ O) (hp0 : p ∉ O0) (hv : H p = some (.lst ws)) (hn : freeW W δ = true) :
    Gd B r sa H0 O0 W O σ δ s (upd H p (.lst ws')) ∧ hid (upd H p (.lst ws')) O = hid H O := by
  have eh : hid (upd H p (.lst ws')) O = hid H O := hid_upd hp
  have npr : p ≠ r := fun z => hp0 (z ▸ g.r0)
  refine ⟨⟨g.len, ⟨by rw [upd_ne (Ne.symm npr)]; exact g.row.1, g.row.2.elim (fun ⟨o, q⟩ => .inl ⟨o, by rw [upd_ne (ne_of q hv (fun z => nomatch z))]; exact q⟩) .inr⟩, g.r0, fun q hq => ?_, g.dom0, g.sub, g.frsh, fun a o na ha => ?_, fun j d hj q => ?_, fun j d hj q => (freeW_no hn hj q).elim, g.inj⟩, eh⟩
  · by_cases z : q = p
    · rw [z, upd_same]; exact fun z => nomatch z
    · rw [upd_ne z]; exact g.dom q hq
  · have : a ≠ p := fun z => by
      subst z
      rcases g.frsh a hp with q | q
      · exact hp0 q
      · rw [q] at ha; cases ha
    rw [upd_ne this]; exact g.stp a o na ha
  · rw [eh]; exact g.val j d hj q
theorem rl_comp2 {wi wi1 : TI} {src src1 : En → M (List D)} {ts ts1 vs vs1 : List Nat} {g g1 : TG} {tg tg1 : D → En → Option En} {tt tt1 : TT} {c c1 : En → M Bool} {te : TE} {f : En → M D} (hi : RdI B W none wi src) (hg : RdG B W ts g tg) (ht : RdT B W none tt c) (hi1 : RdI B W none wi1 src1) (hg1 : RdG B W ts1 g1 tg1) (ht1 : RdT B W none tt1 c1) (he : RdE B W none te f)
    (hs : (ts.all fun i => decide (i ∈ vs)) = true := by rfl) (hs1 : (ts1.all fun i => decide (i ∈ vs1)) = true := by rfl) :
    RdL B W none (tLc2 wi g tt wi1 g1 tt1 te vs vs1) (cComp2 W vs src tg c src1 tg1 c1 f vs1) := by
  intro r sa H0 O0 O σ δ s H gd Q h
  refine hi gd _ (post_mono (post_bind h) (fun ds s1 hx J H1 st ra wk Dl hD => ?_) (fun _ _ z => z))
  have gd1 := gd.step st ra
  have nD : H Dl = none := by
    cases q : H Dl with
    | none => rfl
    | some u =>
      by_cases z : Dl = r
      · subst z; rw [ra.1] at hD; cases hD
      · rw [st Dl u z q] at hD; cases hD
  have ⟨nO, n0⟩ := gd1.fresh0 hD
  have nr : Dl ≠ r := fun z => nO (z ▸ gd.rO)
  obtain ⟨gd2, sm2⟩ := gd1.grow (p := Dl) (o := .lst []) (Stp.new hD) (ra.new hD) hD upd_same
  split at hx
  · rename_i hfree
    let R : List D → S → Prop := fun ys s' => ∀ p vs H', Stp r H H' → RowAt B r sa H' s' → H p = none → H' p = some (.lst vs) → Reps B r (hid H' (p :: O)) vs ys → Q (.ref p) H'
    let AI : List D → S → Hp → Prop := fun acc s2 H2 => ∃ ws, Gd B r sa H0 O0 W (Dl :: O) σ δ s2 H2 ∧ H2 Dl = some (.lst ws) ∧ Reps B r (hid H2 (Dl :: O)) ws acc ∧ Stp r H1 H2 ∧ Same (hid H1 O) (hid H2 (Dl :: O))
    refine ⟨fun i m H2 => m = ds.length - i ∧ i ≤ ds.length ∧ ∃ acc s2, AI acc s2 H2 ∧ (outL W tg c src1 tg1 c1 f vs1 (wipeD δ vs) (ds.drop i) acc s2).post R (fun _ _ => False),
      ⟨ds.length, by omega, by omega, [], s1, ⟨[], gd2, upd_same, .nil, Stp.new hD, sm2⟩, by rw [List.drop_zero]; exact hx⟩, ?_⟩
    rintro i m H2 ⟨rfl, hle, acc, s2, ⟨ws, g2, hD2, rws, st2, sm⟩, hp⟩
    obtain ⟨w1, w2, w3⟩ := wk (Dl :: O) H2 sm g2.dom
    by_cases hlt : i < ds.length
    · refine .inr ⟨w1 i hlt, fun H' => ∃ acc s2, AI acc s2 H' ∧ (outL W tg c src1 tg1 c1 f vs1 (wipeD δ vs) (ds.drop (i + 1)) acc s2).post R (fun _ _ => False),
        fun H' ⟨acc, s2, a, b⟩ => ⟨ds.length - (i + 1), by omega, rfl, by omega, acc, s2, a, b⟩, fun x H' hy => ?_⟩
      obtain ⟨sm3, rp⟩ := w3 i x H' ds[i] (by simp [hlt]) hy
      have g3 := g2.step (Stp.of sm3) (g2.row.same sm3)
      have smh := hid_same (O := Dl :: O) sm3
      rw [List.drop_eq_getElem_cons hlt] at hp
      obtain ⟨δ3, e, hp⟩ := post_lift (post_bind hp)
      refine hg (g3.wipe vs) rp e _ fun σ3 g4 ag lg => ?_
      refine ⟨by rw [wipe_ext lg fun j hj => ag j fun z => hj (of_decide_eq_true (List.all_eq_true.mp hs j z)), wipe_ext (wipe_length σ vs) fun j hj => wipe_get hj], ?_⟩
      split at hp
      · rename_i hfr3
        refine ht g4 _ (post_mono (post_bind hp) (fun b s3 hq H3 st3 ra3 => ?_) (fun _ _ z => z))
        have g5 := g4.step st3 ra3
        have st13 : Stp r H2 H3 := (Stp.of sm3).trans st3
        have smf := smh.trans (st3.hid g2.rO)
        cases b with
        | false =>
          show ∃ acc s2, _
          exact ⟨acc, s3, ⟨ws, g2.step st13 ra3, st13 Dl _ nr hD2, rws.mono smf, st2.trans st13, sm.trans smf⟩, hq⟩
        | true =>
          show wi1 σ3 H3 _
          refine hi1 g5 _ (post_mono (post_bind hq) (fun es s4 hq J1 H4 st4 ra4 wk1 => ?_) (fun _ _ z => z))
          have g6 := g5.step st4 ra4
          have st14 : Stp r H2 H4 := st13.trans st4
          have sm4 := smf.trans (st4.hid g2.rO)
          have AI4 : AI acc s4 H4 := ⟨ws, g2.step st14 ra4, st14 Dl _ nr hD2, rws.mono sm4, st2.trans st14, sm.trans sm4⟩
          refine ⟨fun j k H => k = es.length - j ∧ j ≤ es.length ∧ ∃ acc s2, AI acc s2 H ∧ Gd B r sa H0 O0 W (Dl :: O) σ3 δ3 s2 H ∧ Same (hid H4 (Dl :: O)) (hid H (Dl :: O)) ∧ ((inL tg1 c1 f (wipeD δ3 vs1) (es.drop j) acc s2).bind fun acc' s4 => outL W tg c src1 tg1 c1 f vs1 (wipeD δ vs) (ds.drop (i + 1)) acc' s4).post R (fun _ _ => False),
            ⟨es.length, by omega, by omega, acc, s4, AI4, g6, Same.refl _, by rw [List.drop_zero]; exact hq⟩, ?_⟩
          rintro j k H5 ⟨rfl, hle1, acc5, s5, ⟨ws5, g25, hD5, rws5, st5, sm5⟩, g65, sm45, hp5⟩
          obtain ⟨v1, v2, v3⟩ := wk1 (Dl :: O) H5 sm45 g25.dom
          by_cases hlt1 : j < es.length
          · refine .inr ⟨v1 j hlt1, fun H => ∃ acc s2, AI acc s2 H ∧ Gd B r sa H0 O0 W (Dl :: O) σ3 δ3 s2 H ∧ Same (hid H4 (Dl :: O)) (hid H (Dl :: O)) ∧ ((inL tg1 c1 f (wipeD δ3 vs1) (es.drop (j + 1)) acc s2).bind fun acc' s4 => outL W tg c src1 tg1 c1 f vs1 (wipeD δ vs) (ds.drop (i + 1)) acc' s4).post R (fun _ _ => False),
              fun H' ⟨acc, s2, a, b⟩ => ⟨es.length - (j + 1), by omega, rfl, by omega, acc, s2, a, b⟩, fun x1 H6 hy1 => ?_⟩
            obtain ⟨sm6, rp6⟩ := v3 j x1 H6 es[j] (by simp [hlt1]) hy1
            have g7 := g65.step (Stp.of sm6) (g65.row.same sm6)
            have smh6 := hid_same (O := Dl :: O) sm6
            rw [List.drop_eq_getElem_cons hlt1] at hp5
            obtain ⟨δ7, e7, hp5⟩ := post_lift (post_bind (post_bind hp5))
            refine hg1 (g7.wipe vs1) rp6 e7 _ fun σ7 g8 ag8 lg8 => ?_
            refine ⟨by rw [wipe_ext lg8 fun j hj => ag8 j fun z => hj (of_decide_eq_true (List.all_eq_true.mp hs1 j z)), wipe_ext (wipe_length σ3 vs1) fun j hj => wipe_get hj], ?_⟩
            refine ht1 g8 _ (post_mono (post_bind hp5) (fun b s8 hq8 H8 st8 ra8 => ?_) (fun _ _ z => z))
            have st58 : Stp r H5 H8 := (Stp.of sm6).trans st8
            have sm58 := smh6.trans (st8.hid g25.rO)
            cases b with
            | false =>
              show ∃ acc s2, _
              exact ⟨acc5, s8, ⟨ws5, g25.step st58 ra8, st58 Dl _ nr hD5, rws5.mono sm58, st5.trans st58, sm5.trans sm58⟩, g65.step st58 ra8, sm45.trans sm58, post_bind' hq8⟩
            | true =>
              show te σ7 H8 _
              refine he (g8.step st8 ra8) _ (post_mono (post_bind hq8) (fun y s9 hq9 y' H9 st9 ra9 rp9 => ?_) (fun _ _ z => z))
              have st59 : Stp r H5 H9 := st58.trans st9
              have sm59 := sm58.trans (st9.hid g25.rO)
              split at hq9
              · rename_i hlen
                have hD9 := st59 Dl _ nr hD5
                refine ⟨ws5, hD9, Evl.sz_lt (by rw [rws5.length]; exact hlen), ?_⟩
                obtain ⟨ga, ea⟩ := (g25.step st59 ra9).push (ws' := ws5 ++ [y']) List.mem_cons_self n0 hD9 hfree
                obtain ⟨gb, eb⟩ := (g65.step st59 ra9).push (ws' := ws5 ++ [y']) List.mem_cons_self n0 hD9 hfr3
                refine ⟨acc5 ++ [y], s9, ⟨ws5 ++ [y'], ga, upd_same, by rw [ea]; exact (rws5.mono sm59).append (.cons rp9 .nil), fun a o na ha => ?_, by rw [ea]; exact sm5.trans sm59⟩, gb, by rw [eb]; exact sm45.trans sm59, post_bind' hq9⟩
                rw [upd_ne (ne_of_none ha hD)]
                exact (st5.trans st59) a o na ha
              · exact hq9.elim
          · have e : j = es.length := by omega
            subst e
            rw [List.drop_length] at hp5
            exact .inl ⟨v2, acc5, s5, ⟨ws5, g25, hD5, rws5, st5, sm5⟩, hp5⟩
      · exact hp.elim
    · have e : i = ds.length := by omega
      subst e
      rw [List.drop_length] at hp
      refine .inl ⟨w2, hp Dl ws H2 (st.trans st2) g2.row nD hD2 rws⟩
  · exact hx.elim
def cLc2 (W vs : List Nat) (src : En → M (List D)) (tg : D → En → Option En) (c : En → M Bool) (src1 : En → M (List D)) (tg1 : D → En → Option En) (c1 : En → M Bool) (f : En → M D) (vs1 : List Nat) : En → M D := cOfL (cComp2 W vs src tg c src1 tg1 c1 f vs1)
theorem rd_comp2 {wi wi1 : TI} {src src1 : En → M (List D)} {ts ts1 vs vs1 : List Nat} {g g1 : TG} {tg tg1 : D → En → Option En} {tt tt1 : TT} {c c1 : En → M Bool} {te : TE} {f : En → M D} (hi : RdI B W none wi src) (hg : RdG B W ts g tg) (ht : RdT B W none tt c) (hi1 : RdI B W none wi1 src1) (hg1 : RdG B W ts1 g1 tg1) (ht1 : RdT B W none tt1 c1) (he : RdE B W none te f)
    (hs : (ts.all fun i => decide (i ∈ vs)) = true := by rfl) (hs1 : (ts1.all fun i => decide (i ∈ vs1)) = true := by rfl) :
    RdE B W none (tLc2 wi g tt wi1 g1 tt1 te vs vs1) (cLc2 W vs src tg c src1 tg1 c1 f vs1) := rd_ofL (rl_comp2 hi hg ht hi1 hg1 ht1 he hs hs1)
end
end PV

namespace PV
open PySem L2
/-! ### sorted -/
def PairV (K : PySem.W.Frag) (H : Hp) (x : V) (p : Int × Int) : Prop := ∃ t, x = V.ref t ∧ SqT K H t [.int p.1, .int p.2]
def rSortedPT (K : PySem.W.Frag) : List V → Hp → VK → Prop := fun vs H Q => ∃ (a : Addr) (xs : List V), vs = [V.ref a] ∧ SqL K H a xs ∧ (∀ x ∈ xs, ∃ p, PairV K H x p) ∧
  ∀ (k : V → Int × Int) (ys : List V) (p : Addr), (∀ x ∈ xs, ∀ q, PairV K H x q → k x = q) → SrtO.Srtd (ltP k) ys → ys.Perm xs → H p = none → Q (.ref p) (upd H p (.lst ys))
open Classical in
theorem cr_sortedPT {X : Cx} : CallR X (.builtin "sorted") (rSortedPT X.K) := by
  intro pins s σ H vs us Q I r h
  obtain ⟨a, xs, rfl, hs, hx, q⟩ := h
  obtain ⟨its, rv, hl, hz⟩ := I.list hs
  obtain ⟨u, rfl, ru⟩ := vals1 r
  obtain rfl : u = Value.ref a := ru
  obtain ⟨e1, e2⟩ := refs_back rv fun x m => by
    obtain ⟨p, t, e, _⟩ := hx x m
    exact ⟨t, e⟩
  let k : V → Int × Int := fun x => if h : ∃ p, PairV X.K H x p then h.choose else (0, 0)
  have hk : ∀ x ∈ xs, PairV X.K H x (k x) := fun x m => by
    have h := hx x m
    show PairV X.K H x (if h : ∃ p, PairV X.K H x p then h.choose else (0, 0))
    rw [dif_pos h]; exact h.choose_spec
  have hu : ∀ x ∈ xs, ∀ q, PairV X.K H x q → k x = q := fun x m q ⟨t, e, ht⟩ => by
    obtain ⟨t', e', ht'⟩ := hk x m
    rw [e] at e'; cases e'
    have := I.tuple_inj ht' ht
    simp only [List.cons.injEq, V.int.injEq, and_true] at this
    exact Prod.ext this.1 this.2
  refine SrtO.sorted_pairsO (k := fun u => k (backV u)) hl.isList (by rw [← rv.length]; exact hz) (fun v hv => ?_) fun h' d out h1 h2 kp hd hn => ?_
  · obtain ⟨t, rfl⟩ := e2 v hv
    have hm : V.ref t ∈ xs := by rw [e1]; exact List.mem_map.mpr ⟨_, hv, rfl⟩
    obtain ⟨t', e, ht⟩ := hk _ hm
    cases e
    obtain ⟨its2, r2, ⟨o, ho, hc, n, hd⟩, _⟩ := I.tuple ht
    obtain ⟨u1, u2, rfl, ri, rj⟩ := vals2 r2
    obtain ⟨t1, rfl⟩ := ri
    obtain ⟨t2, rfl⟩ := rj
    exact ⟨t, o, t1, t2, n, rfl, ho, hc, hd⟩
  · have h3 : ∀ u ∈ out, ∃ a, u = Value.ref a := fun u hu => e2 u (h2.perm.mem_iff.mp hu)
    obtain ⟨n, hn⟩ := hn
    have hb : SrtO.Stb (ltP k) (out.map backV) xs := by
      rw [e1]
      exact SrtO.Stb.map (ltP_swo k) backV h2
    refine ⟨.ref d, upd H d (.lst (out.map backV)), I.laid (t' := s.toks) kp hd ⟨?_, out, n, vals_back h3, hn⟩, rfl, q k _ d hu (SrtO.srtd_map h1) hb.perm (I.hok.fresh hd)⟩
    rw [hb.len]
    exact hz
def rSortedU (K : PySem.W.Frag) : List V → Hp → VK → Prop := fun vs H Q => rSortedI K vs H Q ∨ rSortedPT K vs H Q
theorem cr_sortedU {X : Cx} : CallR X (.builtin "sorted") (rSortedU X.K) := by
  intro pins s σ H vs us Q I r h
  rcases h with h | h
  · exact cr_sortedI pins s σ H vs us Q I r h
  · exact cr_sortedPT pins s σ H vs us Q I r h
def lexLe (p q : Int × Int) : Bool := decide (p.1 < q.1 ∨ (p.1 = q.1 ∧ p.2 ≤ q.2))
def sortI (ns : List Int) : List Int := ns.mergeSort (fun a b => decide (a ≤ b))
def sortP (ps : List (Int × Int)) : List (Int × Int) := ps.mergeSort lexLe
theorem sortI_perm (ns : List Int) : (sortI ns).Perm ns := List.mergeSort_perm _ _
theorem sortP_perm (ns : List (Int × Int)) : (sortP ns).Perm ns := List.mergeSort_perm _ _
theorem sortI_sorted (ns : List Int) : (sortI ns).Pairwise (· ≤ ·) := by
  have := List.pairwise_mergeSort (le := fun a b : Int => decide (a ≤ b)) (fun a b c h1 h2 => by simp at *; omega) (fun a b => by simp; omega) ns
  exact this.imp (fun h => by simpa using h)
theorem sortP_sorted (ns : List (Int × Int)) : (sortP ns).Pairwise (fun p q => lexLe p q = true) := by
  refine List.pairwise_mergeSort (le := lexLe) (fun a b c h1 h2 => ?_) (fun a b => ?_) ns
  · unfold lexLe at *; simp only [decide_eq_true_eq] at *; omega
  · unfold lexLe at *; simp only [Bool.or_eq_true, decide_eq_true_eq] at *; omega
theorem sort_uniq {α : Type} {le : α → α → Prop} (anti : ∀ a b, le a b → le b a → a = b) : ∀ {l m : List α}, l.Pairwise le → m.Pairwise le → l.Perm m → l = m
  | [], m, _, _, h => (List.Perm.eq_nil h.symm).symm
  | x :: l, [], _, _, h => absurd h.length_eq (by simp)
  | x :: l, y :: m, hl, hm, h => by
    have hl' := List.pairwise_cons.mp hl
    have hm' := List.pairwise_cons.mp hm
    have e : x = y := by
      rcases List.mem_cons.mp (h.mem_iff.mp (List.mem_cons_self (a := x) (l := l))) with e | hx
      · exact e
      · rcases List.mem_cons.mp (h.mem_iff.mpr (List.mem_cons_self (a := y) (l := m))) with e | hy
        · exact e.symm
        · exact anti x y (hl'.1 y hy) (hm'.1 x hx)
    subst e
    rw [sort_uniq anti hl'.2 hm'.2 h.cons_inv]
theorem sortI_uniq {ns ms : List Int} (h : ms.Perm ns) (h' : ms.Pairwise (· ≤ ·)) : ms = sortI ns := sort_uniq (le := (· ≤ ·)) (fun a b h1 h2 => by omega) h' (sortI_sorted ns) (h.trans (sortI_perm ns).symm)
theorem lexLe_anti (a b : Int × Int) (h1 : lexLe a b = true) (h2 : lexLe b a = true) : a = b := by
  unfold lexLe at *; simp only [decide_eq_true_eq] at *
  exact Prod.ext (by omega) (by omega)
theorem sortP_uniq {ns ms : List (Int × Int)} (h : ms.Perm ns) (h' : ms.Pairwise (fun p q => lexLe p q = true)) : ms = sortP ns := sort_uniq lexLe_anti h' (sortP_sorted ns) (h.trans (sortP_perm ns).symm)
def encP (p : Int × Int) : D := .tup [.int p.1, .int p.2]
def asPairs : List D → Option (List (Int × Int))
  | [] => some []
  | .tup [.int i, .int j] :: ds => (asPairs ds).map ((i, j) :: ·)
  | _ :: _ => none
theorem asPairs_some : ∀ {ds : List D} {ns : List (Int × Int)}, asPairs ds = some ns → ds = ns.map encP := by
  intro ds
  induction ds with
  | nil => intro ns e; cases e; rfl
  | cons d ds ih =>
    intro ns e
    unfold asPairs at e
    split at e
    · rename_i h; cases h
    · rename_i i j ds' h
      cases h
      obtain ⟨ms, h1, h2⟩ := Option.map_eq_some_iff.mp e
      subst h2; rw [ih h1]; rfl
    · cases e
@[simp] theorem asPairs_map (ps : List (Int × Int)) : asPairs (ps.map encP) = some ps := by
  induction ps with
  | nil => rfl
  | cons n ns ih => show (asPairs (ns.map encP)).map (n :: ·) = _; rw [ih]; rfl
def gSorted : List D → Option D
  | [.lst ds] => match asInts ds with
    | some ns => some (.lst ((sortI ns).map D.int))
    | none => (asPairs ds).map fun ps => .lst ((sortP ps).map encP)
  | _ => none
theorem g_sortI (ns : List Int) : gSorted [.lst (ns.map D.int)] = some (.lst ((sortI ns).map D.int)) := by simp [gSorted]
theorem g_sortP (ps : List (Int × Int)) : gSorted [.lst (ps.map encP)] = some (.lst ((sortP ps).map encP)) := by
  cases ps with
  | nil => simp [gSorted, asInts, sortI, sortP]
  | cons p ps =>
    have e : asInts ((p :: ps).map encP) = none := rfl
    unfold gSorted
    simp only [e]
    rw [asPairs_map]; rfl
section
variable {B : Bs}
theorem reps_pairs {r : Addr} {H : Hp} {O : List Addr} {k : V → Int × Int} : ∀ {xs : List V} {ps : List (Int × Int)}, Reps B r (hid H O) xs (ps.map encP) → (∀ x ∈ xs, ∀ q, PairV B.K H x q → k x = q) → xs.map k = ps ∧ ∀ x ∈ xs, Rep B r (hid H O) x (encP (k x))
  | _, [], .nil, _ => ⟨rfl, fun x hx => by cases hx⟩
  | _, p :: ps, .cons h hs, hk => by
    have hk' := hk
    obtain ⟨e1, e2⟩ := reps_pairs hs fun x hx => hk x (List.mem_cons_of_mem _ hx)
    obtain ⟨a, vs, rfl, ha, hr⟩ := Rep.inv_tup h
    obtain ⟨v, w, rfl, r1, r2⟩ := hr.two
    cases r1; cases r2
    have ep := hk _ List.mem_cons_self p ⟨a, rfl, sqT_le ha⟩
    refine ⟨by rw [List.map_cons, ep, e1], fun x hx => ?_⟩
    rcases List.mem_cons.mp hx with e | e
    · subst e; rw [ep]; exact h
    · exact e2 x e
theorem reps_of {r : Addr} {H : Hp} {f : V → D} : ∀ {xs : List V}, (∀ x ∈ xs, Rep B r H x (f x)) → Reps B r H xs (xs.map f)
  | [], _ => .nil
  | x :: xs, h => .cons (h x List.mem_cons_self) (reps_of fun y hy => h y (List.mem_cons_of_mem _ hy))
theorem pairs_ex {r : Addr} {H : Hp} {O : List Addr} : ∀ {xs : List V} {ps : List (Int × Int)}, Reps B r (hid H O) xs (ps.map encP) → ∀ x ∈ xs, ∃ p, PairV B.K H x p
  | _, [], .nil, x, hx => by cases hx
  | _, p :: ps, .cons h hs, x, hx => by
    rcases List.mem_cons.mp hx with e | e
    · subst e
      obtain ⟨a, vs, rfl, ha, hr⟩ := Rep.inv_tup h
      obtain ⟨v, w, rfl, r1, r2⟩ := hr.two
      cases r1; cases r2
      exact ⟨p, a, rfl, sqT_le ha⟩
    · exact pairs_ex hs x e
theorem cs_sorted : CaS B (rSortedU B.K) gSorted := by
  intro r O H xs ds d Q hd rp e q
  unfold gSorted at e
  split at e
  · rename_i ds
    obtain ⟨v, rfl, rq⟩ := rp.one
    obtain ⟨a, vs, rfl, h3, h4⟩ := rq.inv_lst
    split at e
    · rename_i ns h1
      cases e
      rw [asInts_some h1] at h4
      rw [h4.ints] at h3
      refine .inl ⟨a, ns, rfl, SqL.of (hid_le _ _ h3), fun ns' p hp hs hn => ?_⟩
      have e := sortI_uniq hp hs
      subst e
      exact q _ _ (same_new hn) (new_lst hn hd (Reps.of_ints _))
    · obtain ⟨ps, h1, h2⟩ := Option.map_eq_some_iff.mp e
      subst h2
      rw [asPairs_some h1] at h4
      refine .inr ⟨a, vs, rfl, SqL.of (hid_le _ _ h3), pairs_ex h4, fun k ys p hk hs hp hn => ?_⟩
      obtain ⟨e1, e2⟩ := reps_pairs h4 hk
      have e3 : ys.map k = sortP ps := by
        refine sortP_uniq ?_ ?_
        · rw [← e1]; exact hp.map k
        · refine List.pairwise_map.mpr (hs.imp fun {x y} h => ?_)
          have h := SrtO.lexB_no.mp h
          unfold lexLe
          rw [decide_eq_true_eq]; omega
      have e4 : (sortP ps).map encP = ys.map fun y => encP (k y) := by rw [← e3, List.map_map]; rfl
      rw [e4] at q
      exact q _ _ (same_new hn) (new_lst hn hd (reps_of fun x hx => e2 x (hp.mem_iff.mp hx)))
  · cases e
/-! ### zip -/
def gZip : List D → Option (List D)
  | [.lst xs, .lst ys] => some ((xs.zip ys).map fun p => .tup [p.1, p.2])
  | [.tup xs, .tup ys] => some ((xs.zip ys).map fun p => .tup [p.1, p.2])
  | _ => none
@[simp] theorem gZip_L (xs ys : List D) : gZip [.lst xs, .lst ys] = some ((xs.zip ys).map fun p => .tup [p.1, p.2]) := rfl
@[simp] theorem gZip_T (xs ys : List D) : gZip [.tup xs, .tup ys] = some ((xs.zip ys).map fun p => .tup [p.1, p.2]) := rfl
theorem zip_get {xs ys : List D} {i : Nat} {d : D} (h : ((xs.zip ys).map fun p => D.tup [p.1, p.2])[i]? = some d) : ∃ x y, xs[i]? = some x ∧ ys[i]? = some y ∧ d = .tup [x, y] := by
  rw [List.getElem?_map] at h
  obtain ⟨⟨x, y⟩, h1, h2⟩ := Option.map_eq_some_iff.mp h
  rw [List.getElem?_zip_eq_some] at h1
  exact ⟨x, y, h1.1, h1.2, h2.symm⟩
theorem ri_zip {W : List Nat} {E : Option XK} {ta : TA} {f : En → M (List D)} (ha : RdA B W E ta f) : RdI B W E (RZ.iZipA B.K ta) (cItA gZip f) := by
  intro r sa H0 O0 O σ δ s H gd R h
  refine ha gd _ (post_mono (post_bind h) (fun x s1 hx v H1 st ra rp => ?_) (fun _ _ z => z))
  obtain ⟨ds, e, hd⟩ := post_lift hx
  unfold gZip at e
  split at e
  · rename_i xs ys
    cases e
    obtain ⟨v1, v2, rfl, r1, r2⟩ := rp.two
    obtain ⟨a, vs, rfl, h1, h2⟩ := r1.inv_lst
    obtain ⟨b, ws, rfl, h3, h4⟩ := r2.inv_lst
    refine ⟨a, b, vs, ws, rfl, .inl ⟨SqL.of (hid_le _ _ h1), SqL.of (hid_le _ _ h3), hd _ H1 st ra ?_⟩⟩
    intro O' H2 sm hdm
    have e1 : H2 a = some (.lst vs) := hid_le _ _ (sm _ _ h1)
    have e2 : H2 b = some (.lst ws) := hid_le _ _ (sm _ _ h3)
    have l1 := h2.length
    have l2 := h4.length
    refine ⟨fun i hi => ?_, ?_, fun i x H3 d hi hy => ?_⟩
    · rw [List.length_map, List.length_zip] at hi
      exact ⟨vs, ws, vs[i]'(by omega), ws[i]'(by omega), SqL.of e1, SqL.of e2, by simp [show i < vs.length by omega], by simp [show i < ws.length by omega]⟩
    · rw [List.length_map, List.length_zip]
      exact ⟨vs, ws, SqL.of e1, SqL.of e2, by omega⟩
    · obtain ⟨T, x', y', rfl, hT, rfl, z1, z2⟩ := hy
      obtain ⟨dx, dy, i1, i2, rfl⟩ := zip_get hi
      obtain ⟨u1, u2, u3⟩ := h2.get i dx i1
      obtain ⟨w1, w2, w3⟩ := h4.get i dy i2
      have ex := (z1 vs (SqL.of e1)).symm.trans u2; cases ex
      have ey := (z2 ws (SqL.of e2)).symm.trans w2; cases ey
      exact new_pair hT hdm (u3.mono sm) (w3.mono sm)
  · rename_i xs ys
    cases e
    obtain ⟨v1, v2, rfl, r1, r2⟩ := rp.two
    obtain ⟨a, vs, rfl, h1, h2⟩ := r1.inv_tup
    obtain ⟨b, ws, rfl, h3, h4⟩ := r2.inv_tup
    refine ⟨a, b, vs, ws, rfl, .inr ⟨sqT_le h1, sqT_le h3, hd _ H1 st ra ?_⟩⟩
    intro O' H2 sm hdm
    have e1 : SqT B.K H2 a vs := sqT_le (same_t sm h1)
    have e2 : SqT B.K H2 b ws := sqT_le (same_t sm h3)
    have l1 := h2.length
    have l2 := h4.length
    refine ⟨fun i hi => ?_, ?_, fun i x H3 d hi hy => ?_⟩
    · rw [List.length_map, List.length_zip] at hi
      exact ⟨vs, ws, vs[i]'(by omega), ws[i]'(by omega), e1, e2, by simp [show i < vs.length by omega], by simp [show i < ws.length by omega]⟩
    · rw [List.length_map, List.length_zip]
      exact ⟨vs, ws, e1, e2, by omega⟩
    · obtain ⟨T, x', y', rfl, hT, rfl, z1, z2⟩ := hy
      obtain ⟨dx, dy, i1, i2, rfl⟩ := zip_get hi
      obtain ⟨u1, u2, u3⟩ := h2.get i dx i1
      obtain ⟨w1, w2, w3⟩ := h4.get i dy i2
      have ex := (z1 vs e1).symm.trans u2; cases ex
      have ey := (z2 ws e2).symm.trans w2; cases ey
      exact new_pair hT hdm (u3.mono sm) (w3.mono sm)
  · cases e
end
end PV

namespace PV
open PySem L2
/-! ### records: {'a': .., 'b': ..} -/
theorem mergeK_app : ∀ (more acc : List (Key × V)), (more.map (·.1)).Nodup → (∀ kv ∈ more, ∀ kv' ∈ acc, kv'.1 ≠ kv.1) → mergeK acc more = acc ++ more
  | [], acc, _, _ => by show acc = _; simp
  | kv :: more, acc, h1, h2 => by
    have h1' := List.nodup_cons.mp h1
    show mergeK (putK acc kv.1 kv.2) more = _
    have e : putK acc kv.1 kv.2 = acc ++ [kv] := by
      unfold putK
      rw [if_neg]
      intro z
      obtain ⟨kv', m, z⟩ := List.any_eq_true.mp z
      exact h2 kv List.mem_cons_self kv' m (of_decide_eq_true z)
    rw [e, mergeK_app more (acc ++ [kv]) h1'.2 fun a ha b hb => ?_]
    · simp
    · rcases List.mem_append.mp hb with hb | hb
      · exact h2 a (List.mem_cons_of_mem _ ha) b hb
      · have : b = kv := by simpa using hb
        subst this
        intro z
        exact h1'.1 (List.mem_map.mpr ⟨a, ha, z.symm⟩)
def keyAt : List Str → List D → Str → Option D
  | k' :: ks, d :: ds, k => if k' = k then some d else keyAt ks ds k
  | _, _, _ => none
def gKey (k : Str) : D → Option D
  | .dic ks ds => keyAt ks ds k
  | _ => none
section
variable {B : Bs} {W : List Nat} {E : Option XK}
theorem key_val {r : Addr} {H : Hp} {k : Str} {d : D} : ∀ {ks : List Str} {vs : List V} {ds : List D}, Reps B r H vs ds → keyAt ks ds k = some d → ∃ v, valV ((ks.map (Sum.inr : Str → Key)).zip vs) (Sum.inr k) = some v ∧ Rep B r H v d
  | [], _, _, h, e => by cases h <;> cases e
  | k' :: ks, _, _, .nil, e => by cases e
  | k' :: ks, v :: vs, d' :: ds, .cons h hs, e => by
    unfold keyAt at e
    split at e
    · rename_i hk
      cases e
      subst hk
      exact ⟨v, valV_pos rfl, h⟩
    · rename_i hk
      obtain ⟨w, h1, h2⟩ := key_val hs e
      refine ⟨w, ?_, h2⟩
      show valV ((Sum.inr k', v) :: (ks.map Sum.inr).zip vs) (Sum.inr k) = some w
      rw [valV_neg (by intro z; exact hk (Sum.inr.inj z))]; exact h1
theorem rd_key {te : TE} {fa : En → M D} {k : Str} (ha : RdE B W E te fa) : RdE B W E (tDGet te (tC (.str k))) (cUn (gKey k) fa) := by
  intro r sa H0 O0 O σ δ s H gd Q h
  refine ha gd _ (post_mono (post_bind h) (fun x s1 hx v H1 st ra rp => ?_) (fun _ _ z => z))
  obtain ⟨d, e, hd⟩ := post_lift hx
  unfold gKey at e
  split at e
  · cases rp with
    | dic hH hk hl hs =>
      obtain ⟨w, h1, h2⟩ := key_val hs e
      subst hk
      exact ⟨_, w, rfl, .inl ⟨_, Sum.inr k, .inl (hid_le _ _ hH), rfl, h1.symm⟩, hd w H1 st ra h2⟩
  · cases e
def RdPr (B : Bs) (W : List Nat) (E : Option XK) (trs : List (TE × TE)) (ks : List Str) (f : En → M (List D)) : Prop :=
  ∀ {r sa : Addr} {H0 : Hp} {O0 O : List Addr} {σ : St} {δ : En} {s : S} {H : Hp}, Gd B r sa H0 O0 W O σ δ s H → ∀ Q : List (V × V) → Hp → Prop,
    (f δ s).post (fun ds s' => ∀ vs H', Stp r H H' → RowAt B r sa H' s' → Reps B r (hid H' O) vs ds → vs.length = ks.length → Q ((ks.map V.str).zip vs) H') (EPost B E r sa H O) → tPairs trs σ H Q
theorem rpr_nil : RdPr B W E [] [] cNil := by
  intro r sa H0 O0 O σ δ s H gd Q h
  exact h [] H (Stp.refl H) gd.row .nil rfl
theorem rpr_cons {k : Str} {te : TE} {f : En → M D} {trs : List (TE × TE)} {ks : List Str} {fr : En → M (List D)} (ha : RdE B W E te f) (hr : RdPr B W E trs ks fr) : RdPr B W E ((tC (.str k), te) :: trs) (k :: ks) (cCons f fr) := by
  intro r sa H0 O0 O σ δ s H gd Q h
  refine ha gd _ (post_mono (post_bind h) (fun x s1 hx v H1 st ra rp => ?_) (fun _ _ z => z))
  refine hr (gd.step st ra) _ (post_mono (post_bind hx) (fun y s2 hy w H2 st2 ra2 rp2 hl => ?_) (fun _ _ z => z.mono st))
  exact hy (v :: w) _ (st.trans st2) ra2 (.cons (rp.mono (st2.hid gd.rO)) rp2) (by simp [hl])
def cDic (ks : List Str) (fr : En → M (List D)) : En → M D := fun δ s => (fr δ s).bind fun ds s1 => .ok (.dic ks ds) s1
theorem zip_keys : ∀ (ks : List Str) (vs : List V), (ks.map V.str).zip vs = ((ks.map (Sum.inr : Str → Key)).zip vs).map fun kv => (kV kv.1, kv.2)
  | [], _ => by simp
  | k :: ks, [] => by simp
  | k :: ks, v :: vs => by
    show (V.str k, v) :: (ks.map V.str).zip vs = (kV (Sum.inr k), v) :: ((ks.map Sum.inr).zip vs).map _
    rw [zip_keys ks vs]; rfl
theorem zip_fst : ∀ (ks : List Key) (vs : List V), vs.length = ks.length → (ks.zip vs).map (·.1) = ks
  | [], [], _ => rfl
  | k :: ks, v :: vs, h => by simp [List.zip_cons_cons, zip_fst ks vs (by simpa using h)]
theorem rd_dic {trs : List (TE × TE)} {ks : List Str} {fr : En → M (List D)} (hr : RdPr B W none trs ks fr) (hk : decide (ks.Nodup ∧ ks.length ≤ 15) = true := by decide +kernel) : RdE B W none (tDisp trs) (cDic ks fr) := by
  have hk := of_decide_eq_true hk
  intro r sa H0 O0 O σ δ s H gd Q h p hp
  obtain ⟨g1, sm1⟩ := gd.grow (p := p) (o := .dK []) (Stp.new hp) (gd.row.new hp) hp upd_same
  have ⟨nO, n0⟩ := gd.fresh0 hp
  have npr : p ≠ r := fun z => nO (z ▸ gd.rO)
  refine hr g1 _ (post_mono (post_bind h) (fun ds s1 hx vs H2 st ra rp hl => ?_) (fun _ _ z => z))
  have e2 : H2 p = some (.dK []) := st p _ npr upd_same
  refine ⟨e2, (ks.map (Sum.inr : Str → Key)).zip vs, zip_keys ks vs, ?_, ?_⟩
  · rw [List.length_zip, List.length_map]; omega
  · have em : mergeK [] ((ks.map (Sum.inr : Str → Key)).zip vs) = (ks.map (Sum.inr : Str → Key)).zip vs := by
      rw [mergeK_app _ [] (by
        rw [zip_fst _ _ (by rw [List.length_map]; exact hl)]
        exact List.pairwise_map.mpr (hk.1.imp fun {a b} z w => z (Sum.inr.inj w))) (fun _ _ _ z => by cases z)]
      simp
    rw [em]
    have st' : Stp r H (upd H2 p (.dK ((ks.map (Sum.inr : Str → Key)).zip vs))) := fun a o na ha => by
      have : a ≠ p := ne_of_none ha hp
      rw [upd_ne this]
      exact st a o na (by rw [upd_ne this]; exact ha)
    have ra' : RowAt B r sa (upd H2 p (.dK ((ks.map (Sum.inr : Str → Key)).zip vs))) s1 := ⟨by rw [upd_ne (Ne.symm npr)]; exact ra.1, ra.2.elim (fun ⟨o, q⟩ => .inl ⟨o, by rw [upd_ne (ne_of q e2 (fun z => nomatch z))]; exact q⟩) .inr⟩
    refine hx _ _ st' ra' (.dic (by rw [hid_out nO, upd_same]) rfl hl.symm (rp.mono fun a o e => ?_))
    have ⟨h1, h2⟩ := hid_some e
    have ⟨h3, h4⟩ : a ≠ p ∧ a ∉ O := by simpa using h1
    rw [hid_out h4, upd_ne h3]; exact h2
/-! ### sales -/
structure SaleF (B : Bs) : Prop where
  cl : Cls B.K B.cs
  nc : NoAttr B.K B.cs "crowd"
  ns : NoAttr B.K B.cs "stock"
  ha : PySem.W.findIn B.K (.ref B.cs) "__class__" = some (some (.builtin "object.__class__"))
  hn : PySem.W.specialIn B.K (.builtin "object.__class__") "__get__" = some (some (.builtin "getset_descriptor.__get__"))
  htk : PySem.W.takesIn B.K (.builtin "object.__class__") = some true
  hm : PySem.W.mroIn B.K B.cs (.type "object") = some true
  nt : ∀ T ∈ ["NoneType", "bool", "int", "str", "tuple", "list", "dict"], PySem.W.kitOne B.K (.type T) (.ref B.cs) = some false
def g_crowd : D → Option D | .sal c _ => some c | _ => none
def g_stock : D → Option D | .sal _ n => some n | _ => none
@[simp] theorem g_crowd_sal (c n : D) : g_crowd (.sal c n) = some c := rfl
@[simp] theorem g_stock_sal (c n : D) : g_stock (.sal c n) = some n := rfl
theorem rd_crowd {te : TE} {fa : En → M D} (F : SaleF B) (ha : RdE B W E te fa) : RdE B W E (tFld B.K te "crowd") (cUn g_crowd fa) := by
  intro r sa H0 O0 O σ δ s H gd Q h
  refine ha gd _ (post_mono (post_bind h) (fun x s1 hx v H1 st ra rp => ?_) (fun _ _ z => z))
  obtain ⟨d, e, hd⟩ := post_lift hx
  unfold g_crowd at e
  split at e
  · cases e
    cases rp with
    | sal hH h1 h2 => exact ⟨_, _, _, _, _, rfl, hid_le _ _ hH, F.cl, F.nc, rfl, hd _ H1 st ra h1⟩
  · cases e
theorem rd_stock {te : TE} {fa : En → M D} (F : SaleF B) (ha : RdE B W E te fa) : RdE B W E (tFld B.K te "stock") (cUn g_stock fa) := by
  intro r sa H0 O0 O σ δ s H gd Q h
  refine ha gd _ (post_mono (post_bind h) (fun x s1 hx v H1 st ra rp => ?_) (fun _ _ z => z))
  obtain ⟨d, e, hd⟩ := post_lift hx
  unfold g_stock at e
  split at e
  · cases e
    cases rp with
    | sal hH h1 h2 => exact ⟨_, _, _, _, _, rfl, hid_le _ _ hH, F.cl, F.ns, rfl, hd _ H1 st ra h2⟩
  · cases e
/-- isinstance(x, Sale) -/
def gIsS : D → Option D
  | .sal _ _ => some (.bl true)
  | d => match tyD d with | some _ => some (.bl false) | none => none
@[simp] theorem gIsS_sal (c n : D) : gIsS (.sal c n) = some (.bl true) := rfl
theorem tyD_in {d : D} {t : String} (e : tyD d = some t) : t ∈ ["NoneType", "bool", "int", "str", "tuple", "list", "dict"] := by
  cases d <;> simp [tyD] at e <;> subst e <;> simp
theorem rd_isS {ta : TE} {fa : En → M D} (F : SaleF B) (ha : RdE B W E ta fa) : RdE B W E (tCB (rIsi B.K) (tCons ta (tCons (tC (.ref B.cs)) tNil))) (cUn gIsS fa) := by
  intro r sa H0 O0 O σ δ s H gd Q h
  refine ha gd _ (post_mono (post_bind h) (fun x s1 hx v H1 st ra rp => ?_) (fun _ _ z => z))
  obtain ⟨d, e, hd⟩ := post_lift hx
  unfold gIsS at e
  split at e
  · cases e
    cases rp with
    | sal hH h1 h2 => exact ⟨_, .ref B.cs, .ref B.cs, .ref B.cs, true, rfl, .own B.cs, .base (.ins (hid_le _ _ hH) F.cl F.ha F.hn F.htk F.hm), by simp [PySem.W.kitOne], hd _ H1 st ra (.bl true)⟩
  · split at e
    · rename_i t ht
      cases e
      exact ⟨v, .ref B.cs, .type t, .ref B.cs, false, rfl, .own B.cs, rep_ty (rp.mono hid_le) ht, F.nt t (tyD_in ht), hd _ H1 st ra (.bl false)⟩
    · cases e
/-! ### Sale(buyers, things) -/
def isOb (x : Addr) : D → Option Unit | .obj y => if y = x then some () else none | _ => none
def saleE (x : Addr) : Fl → S → Out D
  | .next δ, s => (lift (δ[0]?.join.bind (isOb x)) s).bind fun _ s => (lift (δ[1]?.join) s).bind fun c s1 => (lift (δ[2]?.join) s1).bind fun n s2 => .ok (.sal c n) s2
  | _, _ => .stuck
def saleX (n : Nat) (body : En → M Fl) (x : Addr) : List D → M D := fun ds s => if ds.length = 2 then (body (startD n (.obj x :: ds)) s).bind (saleE x) else .stuck
def spInit (B : Bs) (F : Addr → List D → M D) : Sp := fun vs H Q _ => ∃ (x : Addr) (vs' : List V), vs = .ref x :: vs' ∧ vs'.length = 2 ∧ ∃ (r sa : Addr) (O : List Addr) (ds : List D) (s : S) (dx : Addr), H x = some (.ins B.cs dx []) ∧ x ∉ O ∧ RowAt B r sa H s ∧ r ∈ O ∧ (∀ p ∈ O, H p ≠ none) ∧ Reps B r (hid H (x :: O)) vs' ds ∧
  (F x ds s).post (fun d s' => ∀ H', (∀ a o, a ≠ r → a ≠ x → H a = some o → H' a = some o) → RowAt B r sa H' s' → Rep B r (hid H' O) (.ref x) d → Q .non H') (fun _ _ => False)
theorem init_ok {P : Program} {w : World} {mg : Str → Option Value} {base : Heap} {x qual : Str} {st : Stmt} {f : Addr} {fd : FuncData} {N ps : List Str} {k : Nat} {b1 b2 b3 : En → M Fl} (F : Fun B.K x qual st f fd) (Sc : FnScope N ps (defScope st)) (hN : 3 ≤ N.length) (hps : ps.length = 3) (SF : SaleF B) (hW : W = [])
    (hb : ∀ (cdv : Value) (A : Around) (outer : List Env) (s : Shared) (H : Hp) (E : XK), Room k (A.deeper (PyProof.Rows.envOfC qual (defScope st) s.heap.objs.size f cdv)) →
      ∃ t1 t2 t3, PSs (cxOf CX0 P w B.K mg base N qual (defScope st) f cdv A outer s H E).nox (defBody st) (tSeq t1 (tSeq t2 (tSeq t3 (tSeq (sFld B.K (tVar 0) (tVar 1) "crowd") (sFld B.K (tVar 0) (tVar 2) "stock"))))) ∧ RdS B W none t1 b1 ∧ RdS B W none t2 b2 ∧ RdS B W none t3 b3) :
    FnOk P w B.K mg base CX0 (k + 1) f fd ps (spInit B (saleX N.length (cSeq b1 (cSeq b2 b3)))) := by
  refine F.ok Sc (fun vs H Q E h => ?_) (fun cdv A outer s H vs Q E hr h => ?_)
  · obtain ⟨a, vs', rfl, hl, _⟩ := h; simp [hl, hps]
  obtain ⟨t1, t2, t3, hP, h1, h2, h3⟩ := hb cdv A outer s H E hr
  obtain ⟨a, vs', rfl, hl, r, sa, O, ds, s0, dx, hx, nO, ra, hrO, hdom, rp, hp⟩ := h
  refine ⟨_, hP, ?_⟩
  have hR : RdS B W none (tSeq t1 (tSeq t2 t3)) (cSeq b1 (cSeq b2 b3)) := rs_seq h1 (rs_seq h2 h3)
  have nar : a ≠ r := fun z => nO (z ▸ hrO)
  have hds : ds.length = 2 := by rw [← rp.length]; exact hl
  subst hW
  have gd : Gd B r sa H (a :: O) [] (a :: O) (L2.start N (.ref a :: vs')) (startD N.length (.obj a :: ds)) s0 H := by
    refine ⟨?_, ra, List.mem_cons_of_mem _ hrO, fun p hp => ?_, fun p hp => ?_, fun _ h => h, fun _ h => .inl h, Stp.refl H, fun i d hi q => ?_, fun i d hi q => (by cases hi), fun i j p d e hi hj ne q => (by cases hi)⟩
    · unfold L2.start startD; simp [rp.length]
    · rcases List.mem_cons.mp hp with z | z
      · rw [z, hx]; exact fun z => nomatch z
      · exact hdom p z
    · rcases List.mem_cons.mp hp with z | z
      · rw [z, hx]; exact fun z => nomatch z
      · exact hdom p z
    · obtain ⟨v, h1, h2⟩ := (Reps.cons (Rep.obj a) rp).get i d (startD_some q)
      refine ⟨v, ?_, h2⟩
      rw [start_get, if_pos (List.getElem?_eq_some_iff.mp h1).1, h1]; rfl
  show (tSeq t1 (tSeq t2 t3)) { nx := fun σ' H' => (tSeq (sFld B.K (tVar 0) (tVar 1) "crowd") (sFld B.K (tVar 0) (tVar 2) "stock")) { nx := fun _ H' => Q .non H', rt := Q } σ' H', rt := Q } _ H
  refine hR gd _ ?_
  have e : saleX N.length (cSeq b1 (cSeq b2 b3)) a ds s0 = (cSeq b1 (cSeq b2 b3) (startD N.length (.obj a :: ds)) s0).bind (saleE a) := by unfold saleX; rw [if_pos hds]
  rw [e] at hp
  refine post_mono (post_bind hp) (fun fl s1 hq => ?_) (fun _ _ z => z)
  cases fl with
  | ret d => exact hq.elim
  | brk d => exact hq.elim
  | cont d => exact hq.elim
  | next δ' =>
    intro O' σ' H' g' sm
    obtain ⟨_, e0, hq⟩ := post_lift (post_bind hq)
    obtain ⟨c, e1, hq⟩ := post_lift (post_bind hq)
    obtain ⟨n, e2, hq⟩ := post_lift (post_bind hq)
    obtain ⟨d0, e00, e01⟩ := Option.bind_eq_some_iff.mp e0
    have hd0 : d0 = .obj a := by
      unfold isOb at e01
      split at e01
      · split at e01
        · rename_i z; rw [z]
        · cases e01
      · cases e01
    subst hd0
    obtain ⟨v0, s00, r0⟩ := g'.val 0 _ (by simp) (join_some e00)
    obtain ⟨v1, s01, r1⟩ := g'.val 1 _ (by simp) (join_some e1)
    obtain ⟨v2, s02, r2⟩ := g'.val 2 _ (by simp) (join_some e2)
    cases r0
    have hx' : H' a = some (.ins B.cs dx []) := g'.stp a _ nar hx
    refine ⟨v1, s01, _, s00, a, B.cs, dx, [], rfl, hx', SF.cl, SF.nc, by decide, ?_⟩
    refine ⟨v2, s02, _, s00, a, B.cs, dx, _, rfl, upd_same, SF.cl, SF.ns, (by show 1 < 1000; decide), ?_⟩
    have aO : a ∈ O' := g'.sub a List.mem_cons_self
    have sm2 : ∀ u u', Same (hid H' O') (hid (upd (upd H' a u) a u') O) := fun u u' b o e => by
      have ⟨h1, h2⟩ := hid_some e
      have nb : b ≠ a := fun z => h1 (z ▸ aO)
      rw [hid_out (fun z => h1 (g'.sub b (List.mem_cons_of_mem _ z))), upd_ne nb, upd_ne nb]; exact h2
    refine hq _ (fun b o n1 n2 e => ?_) ⟨?_, ?_⟩ (.sal (dx := dx) (by rw [hid_out nO, upd_same]; rfl) (r1.mono (sm2 _ _)) (r2.mono (sm2 _ _)))
    · rw [upd_ne n2, upd_ne n2]; exact g'.stp b o n1 e
    · rw [upd_ne (Ne.symm nar), upd_ne (Ne.symm nar)]; exact g'.row.1
    · exact g'.row.2.elim (fun ⟨o, q⟩ => .inl ⟨o, by rw [upd_ne (ne_of q hx' (fun z => nomatch z)), upd_ne (ne_of q hx' (fun z => nomatch z))]; exact q⟩) .inr
theorem rd_make {F : Addr → List D → M D} {tr : TA} {fr : En → M (List D)} (hx : ∀ x ds s, F x ds s = F 0 ds s) (ha : RdA B W none tr fr) : RdE B W none (tMake B.cs (spInit B F) [] E0 tr) (cCall 2 (F 0) fr) := by
  intro r sa H0 O0 O σ δ s H gd Q h
  refine ha gd _ (post_mono (post_bind h) (fun ds s1 hd v H1 st ra rp => ?_) (fun _ _ z => z))
  split at hd
  · rename_i hl
    intro x dx nx ndx ne
    have gd1 := gd.step st ra
    have xO : x ∉ O := fun z => gd1.dom x z nx
    have hnew : ∀ a o, H1 a = some o → upd (upd H1 dx (.own x)) x (.ins B.cs dx []) a = some o := fun a o e => by
      rw [upd_ne (ne_of_none e nx), upd_ne (ne_of_none e ndx)]; exact e
    rw [List.append_nil]
    refine ⟨x, v, rfl, by rw [rp.length]; exact hl, r, sa, O, ds, s1, dx, upd_same, xO, ra.same hnew, gd.rO, fun p hp => ?_, rp.mono fun a o e => ?_, ?_⟩
    · cases q : H1 p with
      | none => exact absurd q (gd1.dom p hp)
      | some o => rw [hnew p o q]; exact fun z => nomatch z
    · have ⟨h1, h2⟩ := hid_some e
      have na : a ≠ x := ne_of_none h2 nx
      rw [hid_out (by simp [na, h1])]; exact hnew a o h2
    · rw [hx]
      refine post_mono hd (fun d s2 q H' k ra' rp' => ⟨rfl, q _ H' (fun a o na e => ?_) ra' rp'⟩) (fun _ _ z => z)
      have e1 := st a o na e
      exact k a o na (ne_of_none e1 nx) (hnew a o e1)
  · exact hd.elim
end
end PV

namespace PV
open PySem L2
/-- a def of the program, where it stands -/
structure Df (B : Bs) (mg : Str → Option Value) (x : Str) (st : Stmt) (ps : List Str) where
  f : Addr
  d : FuncData
  F : Fun B.K x x st f d
  m : mg x = some (.ref f)
  k : PySem.W.keepIn B.K (.ref f) = true
  b : Binds B.K d ps []
section
variable {δ : En} {s : S}
@[simp] theorem e_comp2 (W vs src tg c src1 tg1 c1) (f : En → M D) (vs1) : cComp2 W vs src tg c src1 tg1 c1 f vs1 δ s = (src δ s).bind fun ds s1 => if freeW W δ then outL W tg c src1 tg1 c1 f vs1 (wipeD δ vs) ds [] s1 else .stuck := rfl
@[simp] theorem e_lc2 (W vs src tg c src1 tg1 c1) (f : En → M D) (vs1) : cLc2 W vs src tg c src1 tg1 c1 f vs1 δ s = (src δ s).bind fun ds s1 => if freeW W δ then (outL W tg c src1 tg1 c1 f vs1 (wipeD δ vs) ds [] s1).bind fun ds s2 => .ok (.lst ds) s2 else .stuck := by
  unfold cLc2 cOfL cComp2
  cases src δ s with
  | ok ds s1 => simp only [bind_ok]; split <;> rfl
  | stuck => rfl
  | err e s => rfl
@[simp] theorem e_dic (ks fr) : cDic ks fr δ s = (fr δ s).bind fun ds s1 => .ok (.dic ks ds) s1 := rfl
end
def recD (a b : D) : D := .dic ["buyers", "things"] [a, b]
@[simp] theorem g_kb (a b : D) : gKey "buyers" (.dic ["buyers", "things"] [a, b]) = some a := by
  show keyAt ["buyers", "things"] [a, b] "buyers" = some a
  simp [keyAt]
@[simp] theorem g_kt (a b : D) : gKey "things" (.dic ["buyers", "things"] [a, b]) = some b := by
  show keyAt ["buyers", "things"] [a, b] "things" = some b
  have h : ¬ (("buyers" : Str) = "things") := by decide +kernel
  simp [keyAt, h]
theorem cut_from {α : Type} (l : List α) (k : Nat) (h : k ≤ l.length) : cutD l (some (k : Int)) none = l.drop k := by
  unfold cutD
  rw [HT.sIx_nat, HT.sIx_none, Nat.min_eq_left h]
  rw [← List.length_drop, List.take_length]
theorem cut_to {α : Type} (l : List α) (k : Nat) : cutD l none (some (k : Int)) = l.take k := by
  unfold cutD
  rw [HT.sIx_nat, HT.sIx_none, List.drop_zero, Nat.sub_zero]
  rcases Nat.le_total k l.length with h | h
  · rw [Nat.min_eq_left h]
  · rw [Nat.min_eq_right h, List.take_length, List.take_of_length_le h]
theorem cut_to' {α : Type} (l : List α) (k : Int) (h : 0 ≤ k) : cutD l none (some k) = l.take k.toNat := by
  obtain ⟨n, rfl⟩ : ∃ n : Nat, k = n := ⟨k.toNat, by omega⟩
  rw [cut_to]; simp
theorem cut_from' {α : Type} (l : List α) (k : Int) (h : 0 ≤ k) (h' : k ≤ l.length) : cutD l (some k) none = l.drop k.toNat := by
  obtain ⟨n, rfl⟩ : ∃ n : Nat, k = n := ⟨k.toNat, by omega⟩
  rw [cut_from _ _ (by omega)]; simp
theorem in_pure {β : Type} {tg c f δ} {enc : β → D} {p : β → Bool} {e : β → D} : ∀ {ys : List β} {acc : List D} {s : S}, acc.length + ys.length ≤ 100000 → (∀ y ∈ ys, ∃ δ1, tg (enc y) δ = some δ1 ∧ (∀ s, c δ1 s = .ok (p y) s) ∧ (p y = true → ∀ s, f δ1 s = .ok (e y) s)) → inL tg c f δ (ys.map enc) acc s = .ok (acc ++ (ys.filter p).map e) s
  | [], acc, s, _, _ => by simp [inL]
  | y :: ys, acc, s, hl, h => by
    obtain ⟨δ1, h1, h2, h3⟩ := h y (by simp)
    simp at hl
    rw [List.map_cons, inL, h1, lift_some, bind_ok, h2, bind_ok]
    cases hp : p y with
    | true =>
      rw [if_pos rfl, h3 hp, bind_ok, if_pos (by omega), in_pure (ys := ys) (acc := acc ++ [e y]) (by simp; omega) (fun z hz => h z (by simp [hz])), List.filter_cons, if_pos hp]
      simp
    | false =>
      rw [if_neg (by simp), in_pure (ys := ys) (acc := acc) (by omega) (fun z hz => h z (by simp [hz])), List.filter_cons, if_neg (by simp [hp])]
theorem out_pure {α β : Type} {tg src1 tg1 c1 f vs1 δ} {enc : α → D} {enc1 : β → D} {ys : α → List β} {p : α → β → Bool} {e : α → β → D} : ∀ {xs : List α} {acc : List D} {s : S}, acc.length + (xs.flatMap ys).length ≤ 100000 →
    (∀ x ∈ xs, ∃ δ1, tg (enc x) δ = some δ1 ∧ (∀ s, src1 δ1 s = .ok ((ys x).map enc1) s) ∧ ∀ y ∈ ys x, ∃ δ2, tg1 (enc1 y) (wipeD δ1 vs1) = some δ2 ∧ (∀ s, c1 δ2 s = .ok (p x y) s) ∧ (p x y = true → ∀ s, f δ2 s = .ok (e x y) s)) →
    outL [] tg cYes src1 tg1 c1 f vs1 δ (xs.map enc) acc s = .ok (acc ++ xs.flatMap fun x => ((ys x).filter (p x)).map (e x)) s
  | [], acc, s, _, _ => by simp [outL]
  | x :: xs, acc, s, hl, h => by
    obtain ⟨δ1, h1, h2, h3⟩ := h x (by simp)
    rw [List.flatMap_cons, List.length_append] at hl
    have hf := List.length_filter_le (p x) (ys x)
    rw [List.map_cons, outL, h1, lift_some, bind_ok, if_pos (freeW_nil _), e_yes, bind_ok, if_pos rfl, h2, bind_ok, in_pure (p := p x) (e := e x) (by omega) h3, bind_ok]
    rw [out_pure (xs := xs) (by rw [List.length_append, List.length_map]; omega) (fun z hz => h z (by simp [hz]))]
    simp
theorem Bd.add {n : Nat} {a b : Int} (h : Bd n a) (h' : Bd n b) : Bd (n + 1) (a + b) := by
  unfold Bd at *
  rw [Nat.pow_succ]; omega
theorem Bd.sum {n : Nat} : ∀ {l : List Int}, (∀ a ∈ l, Bd n a) → Bd (n + l.length) l.sum
  | [], _ => by simp [Bd]; exact Nat.two_pow_pos _
  | a :: l, h => by
    have ih := Bd.sum (l := l) fun b hb => h b (by simp [hb])
    rw [List.sum_cons, List.length_cons]
    exact Bd.add (n := n + l.length) ((h a (by simp)).mono (Nat.le_add_right _ _)) ih
theorem Bd.neg {n : Nat} {a : Int} (h : Bd n a) : Bd n (-a) := by unfold Bd at *; omega
theorem Bd.of_le {n : Nat} {a b : Int} (h : Bd n b) (h0 : 0 ≤ a) (h1 : a ≤ b) : Bd n a := by unfold Bd at *; omega
theorem for_find {α : Type} {tg F} {enc : α → D} (I : En → Prop) (p : α → Bool) (val : α → D) : ∀ {xs : List α} {δ : En} {s : S}, (∀ x ∈ xs, ∀ δ, I δ → ∃ δ1, tg (enc x) δ = some δ1 ∧ (p x = true → ∀ s, F δ1 s = .ok (.ret (val x)) s) ∧ (p x = false → ∃ δ2, I δ2 ∧ ∀ s, F δ1 s = .ok (.next δ2) s)) → I δ →
    (∀ x, xs.find? p = some x → forL tg F (xs.map enc) δ s = .ok (.ret (val x)) s) ∧ (xs.find? p = none → ∃ δ', I δ' ∧ forL tg F (xs.map enc) δ s = .ok (.next δ') s)
  | [], δ, s, _, hI => ⟨fun x h => by simp at h, fun _ => ⟨δ, hI, rfl⟩⟩
  | x :: xs, δ, s, h, hI => by
    obtain ⟨δ1, h1, h2, h3⟩ := h x (by simp) δ hI
    rw [List.map_cons, forL, h1, lift_some, bind_ok, List.find?_cons]
    cases hp : p x with
    | true =>
      refine ⟨fun y hy => ?_, fun hy => by simp at hy⟩
      cases hy
      rw [h2 hp, bind_ok]
    | false =>
      obtain ⟨δ2, k1, k2⟩ := h3 hp
      have ih := for_find I p val (xs := xs) (δ := δ2) (s := s) (fun z hz => h z (by simp [hz])) k1
      rw [k2, bind_ok]
      exact ih
/-! ### enumerate -/
def idx {α : Type} (xs : List α) : List (Nat × α) := (List.range xs.length).zip xs
theorem idx_map2 {α : Type} (xs : List α) : (idx xs).map (·.2) = xs := by unfold idx; rw [List.map_snd_zip]; simp
theorem idx_map1 {α : Type} (xs : List α) : (idx xs).map (·.1) = List.range xs.length := by unfold idx; rw [List.map_fst_zip]; simp
theorem idx_len {α : Type} (xs : List α) : (idx xs).length = xs.length := by unfold idx; simp
theorem idx_get {α : Type} {xs : List α} {i : Nat} {x : Nat × α} (h : (idx xs)[i]? = some x) : x.1 = i ∧ xs[i]? = some x.2 := by
  have h1 := congrArg (·[i]?) (idx_map1 xs)
  have h2 := congrArg (·[i]?) (idx_map2 xs)
  simp only [List.getElem?_map, h, Option.map_some] at h1 h2
  obtain ⟨a, b⟩ := List.getElem?_eq_some_iff.mp h1.symm
  rw [List.getElem_range] at b
  exact ⟨b.symm, h2.symm⟩
theorem idx_mem {α : Type} {xs : List α} {x : Nat × α} (h : x ∈ idx xs) : xs[x.1]? = some x.2 := by
  obtain ⟨i, hi, e⟩ := List.getElem_of_mem h
  have := idx_get (i := i) (x := x) (by rw [List.getElem?_eq_getElem hi, e])
  rw [this.1]; exact this.2
theorem idx_split {α : Type} {xs : List α} {pre post : List (Nat × α)} {x : Nat × α} (e : idx xs = pre ++ x :: post) : x.1 = pre.length ∧ xs[pre.length]? = some x.2 ∧ xs = pre.map (·.2) ++ x.2 :: post.map (·.2) := by
  have h := idx_get (xs := xs) (i := pre.length) (x := x) (by rw [e]; simp)
  refine ⟨h.1, h.2, ?_⟩
  conv => lhs; rw [← idx_map2 xs, e]
  simp
theorem enum_idx {α : Type} (enc : α → D) (xs : List α) : enumD (xs.map enc) = (idx xs).map fun p => .tup [.int (p.1 : Int), enc p.2] := by
  refine List.ext_getElem? fun i => ?_
  unfold enumD
  rw [List.getElem?_map, List.getElem?_map, List.length_map]
  rcases Nat.lt_or_ge i xs.length with h | h
  · rw [List.getElem?_range h]
    have hx : (idx xs)[i]? = some (i, xs[i]) := by
      have hl : i < (idx xs).length := by rw [idx_len]; exact h
      have := idx_get (xs := xs) (i := i) (x := (idx xs)[i]) (List.getElem?_eq_getElem hl)
      rw [List.getElem?_eq_getElem hl]
      rw [List.getElem?_eq_getElem h] at this
      congr 1
      exact Prod.ext this.1 (by simpa using this.2.symm)
    rw [hx]
    simp [List.getD_eq_getElem?_getD, h]
  · rw [List.getElem?_eq_none (by simpa using h), List.getElem?_eq_none (by rw [idx_len]; exact h)]; rfl
end PV

namespace PV
open PySem L2
/-! ### set(xs) of a list of ints, sorted -/
abbrev setO0 (w : World) : Obj := { cls := .type "set", dict := none, data := .set #[] 0 (.fresh 0 0 (!w.params.followText "set-order")) }
section
open PySem.Spec PyProof.Rows
variable {P : Program} {w : World} {A : Around} {E : Value → Shared → Prop} {s : Shared}
theorem call_set_lstI {lx : Addr} {xs : Array Value} (ks : List Int) {Q : Value → Shared → Prop} (ah : A.handled = none) (il : s.heap.IsList lx xs) (ia : IntsAre xs.toList ks) (few : ks.length + 1 < scanBound)
    (fin : ∀ (g : Heap) (tk c : Nat), SetR w g s.heap.objs.size (fun j => decide (j ∈ ks)) c → c ≤ ks.length → (∀ b o, s.heap.get? b = some o → g.get? b = some o) → Q (.ref s.heap.objs.size) { s with heap := g, toks := tk }) :
    wpAny (model P w) A (call (.type "set") [.ref lx]) Q E s := by
  have sz : xs.size = ks.length := by
    have z := IntsAre.length ia; rw [Array.length_toList] at z; exact z
  obtain ⟨_, _, mro'⟩ := F.called_set.mro
  have mk' := F.called_set.made; have sb' := F.called_set.sub
  refine wpAny_call (codeAny_of_tree (?_ : wpAny _ _ (callAny (.type "set") _) _ _ _))
  refine wpAny_pure ⟨Code.quiet_builtin _ (by decide +kernel), codeAny_builtin F.entry_type_call (?_ : _)⟩
  rw [Around.under_plain (weight_type_call_type "set" [.ref lx] []) rfl]
  have nt' := F.called_set.notType; have cc' := F.called_set.canCreate; have tc' := F.typeCall_set_1 (.ref lx)
  repeat (any_goals (first | assumption | wp_step | done))
  refine codeAny_mono (code_set_led1 (.ref lx) (E := E) (Q₁ := fun ob t₁ => ob = .ref s.heap.objs.size ∧ t₁ = { s with heap := s.heap.push (setO0 w) }) ⟨rfl, rfl⟩) fun r t₁ hr => ?_
  match r, hr with
  | .error e, hr => exact hr
  | .ok (.ret ob), hr =>
    obtain ⟨rfl, rfl⟩ := hr
    have at0 : (s.heap.push (setO0 w)).get? s.heap.objs.size = some (setO0 w) := Heap.get?_push_size _ rfl
    have ty0 : Shared.TypeIs { s with heap := s.heap.push (setO0 w) } (.ref s.heap.objs.size) "set" := ⟨_, at0, rfl⟩
    have li' := F.called_set.init.lookup; have bi' := F.called_set.init.bind (.ref s.heap.objs.size)
    repeat (any_goals (first | assumption | wp_step | done))
    refine codeAny_mono (codeAny_call_builtin (R := wants (fun r t₂ => r = .none ∧ ∃ g tk c, t₂ = { s with heap := g, toks := tk } ∧ SetR w g s.heap.objs.size (fun j => decide (j ∈ ks)) c ∧ c ≤ ks.length ∧ (∀ b o, s.heap.get? b = some o → g.get? b = some o)) E) F.called_set.init.plain F.entry_set_init (check_set_init_1 ty0 ?_)) fun r₂ t₂ hr₂ => ?_
    · obtain ⟨⟨oc, od, odt, osl⟩, ol, cl, nl, dl⟩ := il
      simp only at cl dl
      subst cl dl
      have ol' : (s.heap.push (setO0 w)).get? lx = some { cls := .type "list", dict := od, data := .seq xs nl, slots := osl } := Heap.get?_push_of_some _ ol
      have f1 := F.sub_list_set; have f2 := F.sub_list_frozenset
      have f3 : (Value.type "list" == Value.type "dict") = false := by decide
      have il1 : (s.heap.push (setO0 w)).IsList lx xs := ⟨_, ol', rfl, nl, rfl⟩
      unfold Builtin.«set.__init__» noKeywords Builtin.Frozenset.updateFrom
      generalize eIt : pyIter = PI
      wp_walk
      subst eIt
      refine wpAny_pyIter_list il1 (wpAny_bind (wpAny_runValue ?_))
      have lS : lx < s.heap.objs.size := Heap.lt_size ol
      have ah3 : A.in1.in1.in1.handled = none := by simp [ah]
      have z1 : (s.heap.push (setO0 w)).objs.size = s.heap.objs.size + 1 := Heap.size_push ..
      have neI : lx ≠ (s.heap.push (setO0 w)).objs.size := by rw [z1]; exact Nat.ne_of_lt (Nat.lt_succ_of_lt lS)
      have nin : s.heap.objs.size ∉ [(s.heap.push (setO0 w)).objs.size, lx] := by
        rw [z1]; simp only [List.mem_cons, List.not_mem_nil, or_false, not_or]
        exact ⟨fun z => Nat.lt_irrefl _ (Nat.lt_of_lt_of_eq (Nat.lt_succ_self _) z.symm), fun z => Nat.lt_irrefl _ (Nat.lt_of_lt_of_eq lS z)⟩
      have vals : ∀ (i : Nat) (v : Value), xs[i]? = some v → ∃ k t, ks[i]? = some k ∧ v = .int k t := fun i v hv => by
        have hi : i < ks.length := by rw [← sz]; exact (Array.getElem?_eq_some_iff.mp hv).1
        obtain ⟨t, e⟩ := PyProof.Rows.IntsAre.int_at ia i v (by rw [Array.getElem?_toList]; exact hv)
        exact ⟨ks[i], t, List.getElem?_eq_getElem hi, by rw [e, List.getD_eq_getElem?_getD, List.getElem?_eq_getElem hi] <;> rfl⟩
      refine set_update_ints ((Walks.list ah3 _ lx neI xs).toS) s.heap.objs.size nin ks sz few vals (xs.size - 0) 0 _ (by omega) (Nat.zero_le _) ⟨⟨_, Heap.get?_push_size _ rfl, rfl, rfl⟩, (il1.push _)⟩ ⟨0, Nat.le_refl 0, setR_new_at (Heap.get?_push_of_some _ at0)⟩ ?_
      intro t' c' mv lc' fS
      obtain ⟨g, gg, gd, tk', go⟩ := t'
      obtain rfl : gg = s.gens := mv.gens
      obtain rfl : gd = s.drawn := mv.drawn
      obtain rfl : go = s.os := mv.os
      show wpAny _ _ _ _ _ _
      refine wpAny_pure (?_ : wpAny _ _ (ret Value.none) _ _ _)
      rw [sz] at lc'
      refine wpAny_pure ⟨rfl, g, tk', c', rfl, fS, lc', fun b o e => ?_⟩
      have b0 : b < s.heap.objs.size := Heap.lt_size e
      refine mv.heap b o ?_ (Heap.get?_push_of_some _ (Heap.get?_push_of_some _ e))
      rw [z1]; simp only [List.mem_cons, List.not_mem_nil, or_false, not_or]
      exact ⟨fun z => Nat.lt_irrefl b (Nat.lt_of_lt_of_eq b0 z.symm), fun z => Nat.lt_irrefl b (Nat.lt_of_lt_of_eq (Nat.lt_succ_of_lt b0) z.symm)⟩
    · match r₂, hr₂ with
      | .error e, hr₂ => exact hr₂
      | .ok (.ret r), hr₂ =>
        obtain ⟨rfl, g, tk, c', rfl, fS, lc, kp⟩ := hr₂
        repeat (any_goals (first | assumption | wp_step | done))
        exact fin _ _ _ fS lc kp
end
def rSetI (K : PySem.W.Frag) (w : World) : List V → Hp → VK → Prop := fun vs H Q => ∃ (a : Addr) (ns : List Int), vs = [V.ref a] ∧ SqL K H a (ns.map V.int) ∧ ns.length ≤ 1000 ∧ ∀ p c, H p = none → c ≤ ns.length → Q (.ref p) (upd H p (SetO w p (fun j => decide (j ∈ ns)) c))
theorem cr_setI {X : Cx} (hc : X.calm = true) : CallR X (.type "set") (rSetI X.K X.w) := by
  intro pins s σ H vs us Q I r h
  obtain ⟨a, ns, rfl, hs, hn, q⟩ := h
  obtain ⟨its, rv, hl, _⟩ := I.list hs
  rw [Vals.ref1 r]
  refine call_set_lstI ns (I.ok.hd hc) hl.isList (by simpa using rv.ints) (by unfold scanBound; omega) fun g tk c R lc kp => ?_
  have hf : H s.heap.objs.size = none := I.hok.fresh (Nat.le_refl _)
  exact ⟨.ref s.heap.objs.size, _, I.laid (t' := tk) kp (Nat.le_refl _) (setO_new R), rfl, q _ c hf lc⟩
def ddp : List Int → List Int
  | [] => []
  | x :: xs => if x ∈ ddp xs then ddp xs else x :: ddp xs
theorem ddp_ok : ∀ xs : List Int, (ddp xs).Nodup ∧ ∀ k, k ∈ ddp xs ↔ k ∈ xs
  | [] => ⟨List.nodup_nil, fun k => by simp [ddp]⟩
  | x :: xs => by
    obtain ⟨h1, h2⟩ := ddp_ok xs
    unfold ddp
    split
    · rename_i h
      refine ⟨h1, fun k => ?_⟩
      rw [h2 k, List.mem_cons]
      refine ⟨.inr, fun z => z.elim (fun e => ?_) id⟩
      rw [e]; exact (h2 x).mp h
    · rename_i h
      refine ⟨List.nodup_cons.mpr ⟨h, h1⟩, fun k => ?_⟩
      rw [List.mem_cons, List.mem_cons, h2 k]
def sortS (ns : List Int) : List Int := sortI (ddp ns)
theorem sortS_pw (ns : List Int) : (sortS ns).Pairwise (· < ·) := by
  have h1 := sortI_sorted (ddp ns)
  have h2 : (sortI (ddp ns)).Nodup := (sortI_perm _).nodup_iff.mpr (ddp_ok ns).1
  exact (h1.and h2).imp fun {a b} h => by omega
theorem sortS_mem (ns : List Int) (k : Int) : k ∈ sortS ns ↔ k ∈ ns := by
  unfold sortS
  rw [(sortI_perm _).mem_iff, (ddp_ok ns).2]
theorem sortS_uniq {ns ms : List Int} (h1 : ms.Pairwise (· < ·)) (h2 : ∀ k, k ∈ ms ↔ k ∈ ns) : ms = sortS ns := by
  refine sort_uniq (le := (· ≤ ·)) (fun a b h1 h2 => by omega) (h1.imp fun {a b} h => by omega) ((sortS_pw ns).imp fun {a b} h => by omega) ?_
  refine (List.perm_ext_iff_of_nodup (h1.imp fun {a b} h => by omega) ((sortS_pw ns).imp fun {a b} h => by omega)).mpr fun k => ?_
  rw [h2, sortS_mem]
def gSortS : List D → Option D | [.lst ds] => (match asInts ds with | some ns => if ns.length < 64 then some (.lst ((sortS ns).map D.int)) else none | none => none) | _ => none
theorem g_sortS (ns : List Int) (h : ns.length < 64) : gSortS [.lst (ns.map D.int)] = some (.lst ((sortS ns).map D.int)) := by
  unfold gSortS
  simp [h]
theorem rd_sortS {B : Bs} {W : List Nat} {E : Option XK} {w : World} {tr : TA} {fr : En → M (List D)} (ha : RdA B W E tr fr) : RdE B W E (tCB (rSortedSet w) (tCons (tCB (rSetI B.K w) tr) tNil)) (cB gSortS fr) := by
  intro r sa H0 O0 O σ δ s H gd Q h
  refine ha gd _ (post_mono (post_bind h) (fun ds s1 hx v H1 st ra rp => ?_) (fun _ _ z => z))
  obtain ⟨d, e, hd⟩ := post_lift hx
  unfold gSortS at e
  split at e
  · split at e
    · rename_i ns hns
      split at e
      · rename_i hlen
        cases e
        obtain ⟨u, rfl, rq⟩ := rp.one
        obtain ⟨a, vs, rfl, h3, h4⟩ := rq.inv_lst
        rw [asInts_some hns] at h4
        rw [h4.ints] at h3
        refine ⟨a, ns, rfl, SqL.of (hid_le _ _ h3), by omega, fun p c hp hc => ?_⟩
        refine ⟨p, _, c, rfl, upd_same, by omega, fun ms q h1 h2 h5 hq => ?_⟩
        have em := sortS_uniq (ns := ns) h1 fun k => by rw [h2 k]; simp
        subst em
        have dom1 := (gd.step st ra).dom
        have dom2 : ∀ z ∈ O, upd H1 p (SetO w p (fun j => decide (j ∈ ns)) c) z ≠ none := fun z hz => by
          by_cases e : z = p
          · rw [e, upd_same]; exact fun z => nomatch z
          · rw [upd_ne e]; exact dom1 z hz
        exact hd _ _ (st.trans ((Stp.new hp).trans (Stp.new hq))) ((ra.new hp).new hq) (new_lst hq dom2 (Reps.of_ints _))
      · cases e
    · cases e
  · cases e
def cSortSO (i : Nat) : En → M D := fun δ s => (lift (ownL δ i) s).bind fun ds s0 => lift (gSortS [.lst ds]) s0
@[simp] theorem e_sortSO (i : Nat) {δ : En} {s : S} : cSortSO i δ s = (lift (ownL δ i) s).bind fun ds s0 => lift (gSortS [.lst ds]) s0 := rfl
theorem rd_sortSO {B : Bs} {W : List Nat} {E : Option XK} {w : World} {i : Nat} (hi : decide (i ∈ W) = true := by rfl) : RdE B W E (tCB (rSortedSet w) (tCons (tCB (rSetI B.K w) (tCons (tVar i) tNil)) tNil)) (cSortSO i) := by
  intro r sa H0 O0 O σ δ s H gd Q h
  obtain ⟨ds, e0, hp⟩ := post_lift (post_bind h)
  have e1 := ownL_some e0
  obtain ⟨a, vs, ds', h1, h2, h3, h4, h5, h6⟩ := gd.own i _ (of_decide_eq_true hi) e1
  cases h1
  obtain ⟨d, e, hd⟩ := post_lift hp
  unfold gSortS at e
  simp only at e
  split at e
  · rename_i ns hns
    split at e
    · rename_i hlen
      cases e
      rw [asInts_some hns] at h6
      rw [h6.ints] at h5
      refine ⟨_, h2, a, ns, rfl, SqL.of h5, by omega, fun p c hp hc => ?_⟩
      refine ⟨p, _, c, rfl, upd_same, by omega, fun ms q k1 k2 k5 hq => ?_⟩
      have em := sortS_uniq (ns := ns) k1 fun k => by rw [k2 k]; simp
      subst em
      have dom2 : ∀ z ∈ O, upd H p (SetO w p (fun j => decide (j ∈ ns)) c) z ≠ none := fun z hz => by
        by_cases e : z = p
        · rw [e, upd_same]; exact fun z => nomatch z
        · rw [upd_ne e]; exact gd.dom z hz
      exact hd _ _ ((Stp.new hp).trans (Stp.new hq)) ((gd.row.new hp).new hq) (new_lst hq dom2 (Reps.of_ints _))
    · cases e
  · cases e
/-! ### an owned list is handed on -/
def cMove (i j : Nat) : En → M Fl := fun δ s => (lift (ownL δ i) s).bind fun ds s0 => .ok (.next ((δ.set i none).set j (some (.lst ds)))) s0
@[simp] theorem e_move (i j : Nat) {δ : En} {s : S} : cMove i j δ s = (lift (ownL δ i) s).bind fun ds s0 => .ok (.next ((δ.set i none).set j (some (.lst ds)))) s0 := rfl
section
variable {B : Bs} {W : List Nat} {E : Option XK}
theorem Gd.forget {r sa : Addr} {H0 : Hp} {O0 O : List Addr} {σ : St} {δ : En} {s : S} {H : Hp} {i : Nat} {p : Addr} (g : Gd B r sa H0 O0 W O σ δ s H) (hi : i ∈ W) (hp0 : p ∉ O0) (hσ : σ[i]? = some (some (.ref p))) (hδ : ∃ d, δ[i]? = some (some d)) :
    Gd B r sa H0 O0 W (O.filter (· != p)) σ (δ.set i none) s H := by
  have hsub : ∀ a ∈ O.filter (· != p), a ∈ O := fun a h => (List.mem_filter.mp h).1
  have sm : Same (hid H O) (hid H (O.filter (· != p))) := hid_sub hsub
  have look : ∀ j d, (δ.set i none)[j]? = some (some d) → j ≠ i ∧ δ[j]? = some (some d) := fun j d q => by
    by_cases z : i = j
    · subst z
      rw [List.getElem?_set] at q
      split at q
      · split at q <;> cases q
      · rename_i z; exact absurd rfl z
    · rw [List.getElem?_set_ne z] at q; exact ⟨Ne.symm z, q⟩
  obtain ⟨d0, hd0⟩ := hδ
  refine ⟨by rw [List.length_set]; exact g.len, g.row, g.r0, fun q hq => g.dom q (hsub q hq), g.dom0, fun q hq => List.mem_filter.mpr ⟨g.sub q hq, ?_⟩, fun q hq => g.frsh q (hsub q hq), g.stp, fun j d hj q => ?_, fun j d hj q => ?_, fun j k p' d e hj hk ne q1 q2 => ?_⟩
  · have : q ≠ p := fun z => hp0 (z ▸ hq)
    simp [this]
  · obtain ⟨v, h1, h2⟩ := g.val j d hj (look j d q).2
    exact ⟨v, h1, h2.mono sm⟩
  · obtain ⟨z1, z2⟩ := look j d q
    obtain ⟨p', vs, ds, q1, q2, q3, q4, q5, q6⟩ := g.own j d hj z2
    have hne : p' ≠ p := fun z => g.inj j i p d d0 hj hi z1 z2 hd0 (z ▸ q2) hσ
    exact ⟨p', vs, ds, q1, q2, List.mem_filter.mpr ⟨q3, by simp [hne]⟩, q4, q5, q6.mono sm⟩
  · exact g.inj j k p' d e hj hk ne (look j d q1).2 (look k e q2).2
theorem rs_move {i j : Nat} (hi : decide (i ∈ W) = true := by rfl) (hj : decide (j ∉ W) = true := by rfl) : RdS B W E (tAsg (tVar i) (gName j)) (cMove i j) := by
  intro r sa H0 O0 O σ δ s H gd D hp
  obtain ⟨ds, e0, hp⟩ := post_lift (post_bind hp)
  have e1 := ownL_some e0
  obtain ⟨p, vs, ds', h1, h2, h3, h4, h5, h6⟩ := gd.own i _ (of_decide_eq_true hi) e1
  cases h1
  have g1 := gd.forget (of_decide_eq_true hi) h4 h2 ⟨_, e1⟩
  have sm : Same (hid H O) (hid H (O.filter (· != p))) := hid_sub fun a h => (List.mem_filter.mp h).1
  have pn : p ∉ O.filter (· != p) := fun z => by have := (List.mem_filter.mp z).2; simp at this
  have g2 := g1.set (i := j) (v := .ref p) (d := .lst ds) (of_decide_eq_true hj) (.lst (by rw [hid_out pn]; exact h5) (h6.mono sm))
  exact ⟨_, h2, hp _ _ H g2 sm⟩
/-- tuple(x) of an owned list -/
def cTupO (i : Nat) : En → M D := fun δ s => (lift (ownL δ i) s).bind fun ds s0 => .ok (.tup ds) s0
@[simp] theorem e_tupO (i : Nat) {δ : En} {s : S} : cTupO i δ s = (lift (ownL δ i) s).bind fun ds s0 => .ok (.tup ds) s0 := rfl
theorem rd_tupO {i : Nat} (hi : decide (i ∈ W) = true := by rfl) : RdE B W E (tCB (fun xs H Q => ∃ p ys, xs = [.ref p] ∧ ((SqL B.K H p ys ∧ ∀ l, H l = none → Q (.ref l) (upd H l (.tup ys))) ∨ (SqT B.K H p ys ∧ Q (.ref p) H))) (tCons (tVar i) tNil)) (cTupO i) := by
  intro r sa H0 O0 O σ δ s H gd Q h
  obtain ⟨ds, e0, hp⟩ := post_lift (post_bind h)
  have e1 := ownL_some e0
  obtain ⟨p, vs, ds', h1, h2, h3, h4, h5, h6⟩ := gd.own i _ (of_decide_eq_true hi) e1
  cases h1
  exact ⟨_, h2, p, vs, rfl, .inl ⟨SqL.of h5, fun l hl => hp _ _ (Stp.new hl) (gd.row.new hl) (new_tup hl gd.dom h6)⟩⟩
end
end PV

namespace PV
open PySem L2
/-! ### zip of lists and tuples, in any order -/
def SqB (K : PySem.W.Frag) (c : Bool) (H : Hp) (a : Addr) (xs : List V) : Prop := match c with | true => SqL K H a xs | false => SqT K H a xs
def ItB (c : Bool) (h : Heap) (it a : Addr) (i : Nat) : Prop := match c with | true => h.IsListIter it a i | false => h.IsTupleIter it a i
def HasB (c : Bool) (h : Heap) (a : Addr) (items : Array Value) : Prop := match c with | true => h.IsList a items | false => h.IsTuple a items
theorem ItB.at {c : Bool} {h h' : Heap} {it a : Addr} {i : Nat} (x : ItB c h it a i) (k : ∀ o, h.get? it = some o → h'.get? it = some o) : ItB c h' it a i := by
  cases c
  · exact Heap.IsTupleIter.at x k
  · exact Heap.IsListIter.at x k
theorem ItB.ob {c : Bool} {h : Heap} {it a : Addr} {i : Nat} (x : ItB c h it a i) : ∃ o, h.get? it = some o ∧ ∀ v, o.data ≠ .cell v := by
  cases c
  · obtain ⟨o, e, _, d⟩ := x
    exact ⟨o, e, fun v q => by rw [d] at q; cases q⟩
  · obtain ⟨o, e, _, d⟩ := x
    exact ⟨o, e, fun v q => by rw [d] at q; cases q⟩
theorem drawsB (c : Bool) {pr : Program} {w : World} {A : Around} (hh : A.handled = none) (it a : Addr) (hne : a ≠ it) (items : Array Value) :
    Draws pr w A it [it, a] items.size (fun i v => items[i]? = some v) (fun i h => ItB c h it a i ∧ HasB c h a items) := by
  cases c
  · exact Draws.tuple hh it a hne items
  · exact Draws.list hh it a hne items
def firstB (c : Bool) (a : Addr) : Obj := match c with | true => { cls := .type "list_iterator", data := .fields #[.ref a, .int 0 0] } | false => { cls := .type "tuple_iterator", data := .fields #[.ref a, .int 0 0] }
theorem beginsB (c : Bool) (a : Addr) (items : Array Value) : Begins (.ref a) (firstB c a) fun h => HasB c h a items := by
  cases c
  · exact begins_tuple a items
  · exact begins_list a items
theorem itB0 {c : Bool} {h : Heap} {it a : Addr} (e : h.get? it = some (firstB c a)) : ItB c h it a 0 := by
  cases c
  · exact ⟨_, e, rfl, rfl⟩
  · exact ⟨_, e, rfl, rfl⟩
section
variable {X : Cx} {pins : List (Addr × Obj)} {σ : L2.St} {H : Hp} {s : Shared}
theorem sqB_real {c : Bool} {a : Addr} {xs : List V} (I : Inv X pins σ H s) (q : SqB X.K c H a xs) : ∃ its : List Value, Vals xs its ∧ HasB c s.heap a its.toArray ∧ a < s.heap.objs.size := by
  cases c
  · obtain ⟨its, rv, p, _⟩ := I.tuple q
    have p' := p
    obtain ⟨o, ho, _⟩ := p'
    exact ⟨its, rv, p, Heap.lt_size ho⟩
  · obtain ⟨its, rv, p, _⟩ := I.list q
    exact ⟨its, rv, p.isList, p.lt⟩
theorem sqB_inj {c : Bool} {a : Addr} {xs ys : List V} (I : Inv X pins σ H s) (q : SqB X.K c H a xs) (q' : SqB X.K c H a ys) : xs = ys := by
  cases c
  · exact I.tuple_inj q q'
  · exact I.list_inj q q'
end
def ItzB (K : PySem.W.Frag) (c d : Bool) (a b : Addr) (n : Nat) : It :=
  ⟨fun i H => i < n ∧ ∃ (xs ys : List V) (x y : V), SqB K c H a xs ∧ SqB K d H b ys ∧ min xs.length ys.length = n ∧ xs[i]? = some x ∧ ys[i]? = some y,
   fun i H v H' => ∃ T x y, v = .ref T ∧ H T = none ∧ H' = upd H T (.tup [x, y]) ∧ (∀ xs, SqB K c H a xs → xs[i]? = some x) ∧ ∀ ys, SqB K d H b ys → ys[i]? = some y,
   fun i H => i = n ∧ ∃ xs ys : List V, SqB K c H a xs ∧ SqB K d H b ys ∧ min xs.length ys.length = n⟩
theorem turn_zipB {P : Program} {w : World} {K : PySem.W.Frag} {elts : List Expr} {kk : Nat} {tpos : Pos} {a b z TI TO i1 i2 : Addr} (c d : Bool) (n : Nat) (Z : ZipSep2 z TI TO i1 i2 [i1, a] [i2, b]) (na : a ≠ i1) (nb : b ≠ i2) :
    Turn P w K (.Tuple elts kk tpos) (ItzB K c d a b n) [z, TI, TO, i1, i2] z (fun i h => IsZip h z TI TO .none ∧ IsTupOf2 h TI (.ref i1) (.ref i2) ∧ (∃ u v, IsTupOf2 h TO u v) ∧ ItB c h i1 a i ∧ ItB d h i2 b i) where
  mem := by simp
  obj := fun i h st p hp => by
    obtain ⟨g1, g2, ⟨u, v, g3⟩, g4, g5⟩ := st
    rcases (by simpa using hp : p = z ∨ p = TI ∨ p = TO ∨ p = i1 ∨ p = i2) with e | e | e | e | e
    · rw [e]; exact ⟨_, g1, fun v q => nomatch q⟩
    · rw [e]; exact ⟨_, g2, fun v q => nomatch q⟩
    · rw [e]; exact ⟨_, g3, fun v q => nomatch q⟩
    · rw [e]; exact g4.ob
    · rw [e]; exact g5.ob
  keep := fun i h h' st k => by
    obtain ⟨g1, g2, ⟨u, v, g3⟩, g4, g5⟩ := st
    exact ⟨k z (by simp) _ g1, k TI (by simp) _ g2, ⟨u, v, k TO (by simp) _ g3⟩, g4.at fun o q => k i1 (by simp) o q, g5.at fun o q => k i2 (by simp) o q⟩
  item := by
    intro X hP hw hK hc i pins s σ H E I hf st hg
    subst hP hw hK
    obtain ⟨g1, g2, g3, g4, g5⟩ := st
    obtain ⟨hin, xs, ys, x, y, q1, q2, hn, hx, hy⟩ := hg
    obtain ⟨its, rv, p1, _⟩ := sqB_real I q1
    obtain ⟨jts, rw', p2, _⟩ := sqB_real I q2
    obtain ⟨u, hu, ru⟩ := rv.get hx
    obtain ⟨v, hv, rv'⟩ := rw'.get hy
    have hd : X.A.in1.handled = none := by have := I.ok.hd hc; exact this
    have G := GoesN.zip2 (prog := X.prog) (w := X.w) (A := X.A) (elts := elts) (x1 := kk) (pos := tpos) Z (drawsB c hd i1 a na its.toArray) (drawsB d hd i2 b nb jts.toArray)
    have l1 := rv.length
    have l2 := rw'.length
    refine G.goes i s _ E (by simp; omega) ⟨g1, g2, g3, ⟨g4, p1⟩, ⟨g5, p2⟩⟩ fun r h' tk hY st' hk htk => ?_
    obtain ⟨T, x', y', rfl, hT, e1, e2, tT⟩ := hY
    obtain ⟨k1, k2, k3, k4, k5⟩ := st'
    have ex : x' = u := by
      have z2 : its.toArray[i]? = some u := by simpa using hu
      exact Option.some.inj (e1.symm.trans z2)
    have ey : y' = v := by
      have z2 : jts.toArray[i]? = some v := by simpa using hv
      exact Option.some.inj (e2.symm.trans z2)
    subst ex ey
    have new : ObjOk X.prog X.w (upd H T (.tup [x, y])) h' T (.tup [x, y]) := ⟨by show 2 ≤ sizeLine; decide, [x', y'], .cons ru (.cons rv' .nil), tT⟩
    have I1 : Inv X pins σ (upd H T (.tup [x, y])) { s with heap := h', toks := tk } :=
      I.turnedNew (ch := [z, TI, TO, i1, i2]) (fun p o hp q => hk p o (fun w => hp (by rcases (by simpa using w : p = z ∨ p = TO ∨ p = i1 ∨ p = i2) with e | e | e | e <;> simp [e])) q) hf hT new
    refine ⟨.ref T, _, I1, rfl, ⟨T, x, y, rfl, I.hok.fresh hT, rfl, fun l hl => by rw [sqB_inj I hl q1]; exact hx, fun l hl => by rw [sqB_inj I hl q2]; exact hy⟩, ⟨k1, k2, k3, k4.1, k5.1⟩, fun p hp => ?_⟩
    have hlt : p < s.heap.objs.size := by
      obtain ⟨u3, v3, g3⟩ := g3
      rcases (by simpa using hp : p = z ∨ p = TI ∨ p = TO ∨ p = i1 ∨ p = i2) with e | e | e | e | e
      · rw [e]; exact Heap.lt_size g1
      · rw [e]; exact Heap.lt_size g2
      · rw [e]; exact Heap.lt_size g3
      · rw [e]; obtain ⟨_, w, _⟩ := g4.ob; exact Heap.lt_size w
      · rw [e]; obtain ⟨_, w, _⟩ := g5.ob; exact Heap.lt_size w
    rw [upd_ne (Nat.ne_of_lt (Nat.lt_of_lt_of_le hlt hT))]
    exact (hf p hp).1
  done := by
    intro X hP hw hK hc i pins s σ H E I hf st hg
    subst hP hw hK
    obtain ⟨g1, g2, g3, g4, g5⟩ := st
    obtain ⟨hin, xs, ys, q1, q2, hn⟩ := hg
    obtain ⟨its, rv, p1, _⟩ := sqB_real I q1
    obtain ⟨jts, rw', p2, _⟩ := sqB_real I q2
    have hd : X.A.in1.handled = none := by have := I.ok.hd hc; exact this
    have G := GoesN.zip2 (prog := X.prog) (w := X.w) (A := X.A) (elts := elts) (x1 := kk) (pos := tpos) Z (drawsB c hd i1 a na its.toArray) (drawsB d hd i2 b nb jts.toArray)
    have l1 := rv.length
    have l2 := rw'.length
    have hm : min its.toArray.size jts.toArray.size = i := by simp; omega
    refine G.stops s _ E (by rw [hm]; exact ⟨g1, g2, g3, ⟨g4, p1⟩, ⟨g5, p2⟩⟩) fun h' tk hk htk => ?_
    exact I.turnedL (t' := tk) (ch := [z, TI, TO, i1, i2]) (fun p o hp q => hk p o (fun w => hp (by rcases (by simpa using w : p = z ∨ p = TO ∨ p = i1 ∨ p = i2) with e | e | e | e <;> simp [e])) q) hf
  self := fun A i s Q E st h => wpAny_pyIter_zip st.1 h
def iZipB (K : PySem.W.Frag) (ta : TA) : TI := fun σ H R => ta σ H fun vs H1 => ∃ (c d : Bool) (a b : Addr) (xs ys : List V), vs = [.ref a, .ref b] ∧ SqB K c H1 a xs ∧ SqB K d H1 b ys ∧ R (ItzB K c d a b (min xs.length ys.length)) H1
theorem pi_zipB {X : Cx} {e e2 : Expr} {ta : TA} {p pos tpos : Pos} {elts : List Expr} {kk : Nat} (hg : Gl X "zip") (hm : X.mg "zip" = none) (ha : PA X [e, e2] ta)
    (s1 : starEach [e, e2] X.env = (false, eval e X.env) :: starEach [e2] X.env := by rfl) (s2 : (backTo pos (starEach [e2] X.env)).any (·.1) = false := by rfl) :
    PI X (.Tuple elts kk tpos) (.Call (.Name "zip" p) [e, e2] [] pos) (iZipB X.K ta) := by
  refine ⟨fun pins s σ H R I h => ?_⟩
  refine PyProof.Rows.Call_ (ld_blt I hg hm PyProof.Rows.boot_zip (PyProof.Rows.callWith_type1 (thn (ha.run pos pins s σ H _ I h) fun us t ⟨vs, H1, I1, r1, q⟩ => ?_) s1 s2))
  obtain ⟨c, d, a, b, xs, ys, rfl, q1, q2, q⟩ := q
  obtain ⟨u1, u2, rfl, ra, rb⟩ := vals2 r1
  obtain rfl : u1 = Value.ref a := ra
  obtain rfl : u2 = Value.ref b := rb
  obtain ⟨its, rv, p1, la⟩ := sqB_real I1 q1
  obtain ⟨jts, rw', p2, lb⟩ := sqB_real I1 q2
  refine zip_begins2 (beginsB c a its.toArray) (beginsB d b jts.toArray) p1 p2 fun h' z1 z2 z3 o1 o2 hsz hk => wpAny_pyIter_zip z1 ?_
  have I2 : Inv X pins σ H1 { t with heap := h' } := I1.kept (t' := t.toks) hk
  have S := zip_sep2 (N := t.heap.objs.size) (fp1 := [a]) (fp2 := [b]) (by simpa using la) (by simpa using lb)
  refine ⟨_, [t.heap.objs.size + 4, t.heap.objs.size + 2, t.heap.objs.size + 3, t.heap.objs.size, t.heap.objs.size + 1], _, _, H1, rfl, I2, turn_zipB c d (min xs.length ys.length) S (Nat.ne_of_lt la) (Nat.ne_of_lt (Nat.lt_succ_of_lt lb)), ⟨z1, z2, ⟨_, _, z3⟩, itB0 o1, itB0 o2⟩, fun x hx => ?_, q⟩
  have hle : t.heap.objs.size ≤ x := by
    rcases (by simpa using hx : x = t.heap.objs.size + 4 ∨ x = t.heap.objs.size + 2 ∨ x = t.heap.objs.size + 3 ∨ x = t.heap.objs.size ∨ x = t.heap.objs.size + 1) with e | e | e | e | e <;> rw [e] <;> first | exact Nat.le_refl _ | exact Nat.le_add_right _ _
  exact I1.fpOk hle (I1.hok.fresh hle)
def gZipB : List D → Option (List D)
  | [x, y] => match seqD x, seqD y with
    | some xs, some ys => some ((xs.zip ys).map fun p => .tup [p.1, p.2])
    | _, _ => none
  | _ => none
@[simp] theorem gZipB_LL (xs ys : List D) : gZipB [.lst xs, .lst ys] = some ((xs.zip ys).map fun p => .tup [p.1, p.2]) := rfl
@[simp] theorem gZipB_TT (xs ys : List D) : gZipB [.tup xs, .tup ys] = some ((xs.zip ys).map fun p => .tup [p.1, p.2]) := rfl
@[simp] theorem gZipB_LT (xs ys : List D) : gZipB [.lst xs, .tup ys] = some ((xs.zip ys).map fun p => .tup [p.1, p.2]) := rfl
theorem seqB {B : Bs} {r : Addr} {O : List Addr} {H : Hp} {v : V} {x : D} {xs : List D} (e : seqD x = some xs) (rp : Rep B r (hid H O) v x) : ∃ (c : Bool) (a : Addr) (vs : List V), v = .ref a ∧ Reps B r (hid H O) vs xs ∧ SqB B.K c H a vs ∧ ∀ H' O', Same (hid H O) (hid H' O') → SqB B.K c H' a vs := by
  cases x <;> simp [seqD] at e
  · subst e
    obtain ⟨a, vs, rfl, h1, h2⟩ := rp.inv_tup
    exact ⟨false, a, vs, rfl, h2, sqT_le h1, fun H' O' sm => sqT_le (same_t sm h1)⟩
  · subst e
    obtain ⟨a, vs, rfl, h1, h2⟩ := rp.inv_lst
    exact ⟨true, a, vs, rfl, h2, SqL.of (hid_le _ _ h1), fun H' O' sm => SqL.of (hid_le _ _ (sm _ _ h1))⟩
theorem ri_zipB {B : Bs} {W : List Nat} {E : Option XK} {ta : TA} {f : En → M (List D)} (ha : RdA B W E ta f) : RdI B W E (iZipB B.K ta) (cItA gZipB f) := by
  intro r sa H0 O0 O σ δ s H gd R h
  refine ha gd _ (post_mono (post_bind h) (fun x s1 hx v H1 st ra rp => ?_) (fun _ _ z => z))
  obtain ⟨ds, e, hd⟩ := post_lift hx
  unfold gZipB at e
  split at e
  · rename_i x y
    split at e
    · rename_i xs ys ex ey
      cases e
      obtain ⟨v1, v2, rfl, r1, r2⟩ := rp.two
      obtain ⟨c, a, vs, rfl, h2, q1, k1⟩ := seqB ex r1
      obtain ⟨d, b, ws, rfl, h4, q2, k2⟩ := seqB ey r2
      have l1 := h2.length
      have l2 := h4.length
      refine ⟨c, d, a, b, vs, ws, rfl, q1, q2, hd _ H1 st ra ?_⟩
      intro O' H2 sm hdm
      have e1 := k1 _ _ sm
      have e2 := k2 _ _ sm
      have hn : ((xs.zip ys).map fun p => D.tup [p.1, p.2]).length = min vs.length ws.length := by rw [List.length_map, List.length_zip]; omega
      refine ⟨fun i hi => ?_, ⟨hn, vs, ws, e1, e2, rfl⟩, fun i x H3 d hi hy => ?_⟩
      · rw [hn] at hi
        exact ⟨hi, vs, ws, vs[i]'(by omega), ws[i]'(by omega), e1, e2, rfl, by simp [show i < vs.length by omega], by simp [show i < ws.length by omega]⟩
      · obtain ⟨T, x', y', rfl, hT, rfl, z1, z2⟩ := hy
        obtain ⟨dx, dy, i1, i2, rfl⟩ := zip_get hi
        obtain ⟨u1, u2, u3⟩ := h2.get i dx i1
        obtain ⟨w1, w2, w3⟩ := h4.get i dy i2
        have ex := (z1 vs e1).symm.trans u2; cases ex
        have ey := (z2 ws e2).symm.trans w2; cases ey
        exact new_pair hT hdm (u3.mono sm) (w3.mono sm)
    · cases e
  · cases e
/-! ### sorted of a tuple of ints -/
section
open PyProof.Rows
theorem sortTup {pr : Program} {ww : World} {AA : Around} {EE : Value → Shared → Prop} {ss : Shared} {aa : Addr} {vv : List Value} {nn : List Int} {QQ : Value → Shared → Prop} (ht : ss.heap.IsTuple aa vv.toArray) (zz : vv.length ≤ sizeLine) (ii : IntsAre vv nn)
    (fin : ∀ (h1 h' : Heap) (e : Nat) (out : List Value) (ms : List Int), (∀ b o, ss.heap.get? b = some o → h1.get? b = some o) → (∀ b o, h1.get? b = some o → h'.get? b = some o) → h'.get? h1.objs.size = some (seqObj "list" out.toArray e) → IntsAre out ms → ms.Perm nn → ms.Pairwise (· ≤ ·) → QQ (.ref h1.objs.size) { ss with heap := h' }) :
    wpAny (model pr ww) AA (call (.builtin "sorted") [.ref aa]) QQ EE ss := by
  obtain ⟨oo, ho, hc, nx, hd⟩ := ht
  refine Calls.call_function_entry kind_sorted plain_sorted entry_sorted (args_sorted1 _) (by
    unfold Builtin.«sorted»
    refine wpAny_bind (m := checkCount "sorted" 1 1 _) (wpAny_pure (wpAny_bind (wpAny_collect_seq aa (.inr rfl) ho hc hd (fun h1 k1 => ?_) (by simpa using zz))))
    refine wpAny_bind (wpAny_newList ?_ (by simpa using zz))
    have new : (h1.push (seqObj "list" vv.toArray 0)).get? h1.objs.size = some (seqObj "list" vv.toArray 0) := Heap.get?_push_size _ rfl
    refine wpAny_bind (wpAny_holding (wpAny_call_entry slot_list_sort ⟨_, new, rfl⟩ entry_list_sort (SrtO.list_sort_ord SrtO.swo_int new zz (fun two => SrtO.ints_sortable ii two) fun out g1 g2 => ⟨_, rfl, wpAny_pure ⟨_, rfl, ?_⟩⟩) (args_list_sort _)))
    obtain ⟨m1, m2, m3⟩ := SrtO.ints_out ii g1 g2
    obtain ⟨ep, he⟩ := sortedHeap_at (vs := vv) (out := out.toArray) new
    refine fin h1 _ ep out _ k1 (fun b o e => ?_) he m1 m2 m3
    have lt := Heap.lt_size e
    rw [sortedHeap_old (Nat.ne_of_lt lt) (by rw [size_push']; exact Nat.lt_succ_of_lt lt)]
    exact Heap.get?_push_of_some _ e)
end
def rSortedTI (K : PySem.W.Frag) : List V → Hp → VK → Prop := fun vs H Q => ∃ (a : Addr) (ns : List Int), vs = [V.ref a] ∧ SqT K H a (ns.map V.int) ∧
  ∀ (ms : List Int) (p : Addr), ms.Perm ns → ms.Pairwise (· ≤ ·) → H p = none → Q (.ref p) (upd H p (.lst (ms.map V.int)))
theorem cr_sortedTI {X : Cx} : CallR X (.builtin "sorted") (rSortedTI X.K) := by
  intro pins s σ H vs us Q I r h
  obtain ⟨a, ns, rfl, hs, q⟩ := h
  obtain ⟨its, rv, ht, hz⟩ := I.tuple hs
  obtain ⟨u, rfl, ru⟩ := vals1 r
  obtain rfl : u = Value.ref a := ru
  refine sortTup ht (by rw [← rv.length]; exact hz) rv.ints fun h1 h' e out ms k1 k2 hp m1 m2 m3 => ?_
  have I1 : Inv X pins σ H { s with heap := h1 } := I.kept (t' := s.toks) k1
  have len : (ms.map V.int).length ≤ sizeLine := by
    rw [List.length_map, m2.length_eq]
    simpa using hz
  exact ⟨.ref _, upd H h1.objs.size (.lst (ms.map V.int)), I1.laid (t' := s.toks) k2 (Nat.le_refl _) ⟨len, out, e, vals_of_ints m1, hp⟩, rfl, q _ _ m2 m3 (I1.hok.fresh (Nat.le_refl _))⟩
def rSortedV (K : PySem.W.Frag) : List V → Hp → VK → Prop := fun vs H Q => rSortedU K vs H Q ∨ rSortedTI K vs H Q
theorem cr_sortedV {X : Cx} : CallR X (.builtin "sorted") (rSortedV X.K) := by
  intro pins s σ H vs us Q I r h
  rcases h with h | h
  · exact cr_sortedU pins s σ H vs us Q I r h
  · exact cr_sortedTI pins s σ H vs us Q I r h
def gSortedV : List D → Option D
  | [.tup ds] => match asInts ds with
    | some ns => some (.lst ((sortI ns).map D.int))
    | none => none
  | l => gSorted l
@[simp] theorem gSortedV_L (ds : List D) : gSortedV [.lst ds] = gSorted [.lst ds] := rfl
theorem g_sortTI (ns : List Int) : gSortedV [.tup (ns.map D.int)] = some (.lst ((sortI ns).map D.int)) := by simp [gSortedV]
theorem cs_sortedV {B : Bs} : CaS B (rSortedV B.K) gSortedV := by
  intro r O H xs ds d Q hd rp e q
  unfold gSortedV at e
  split at e
  · rename_i ds
    obtain ⟨v, rfl, rq⟩ := rp.one
    obtain ⟨a, vs, rfl, h3, h4⟩ := rq.inv_tup
    split at e
    · rename_i ns h1
      cases e
      rw [asInts_some h1] at h4
      rw [h4.ints] at h3
      refine .inr ⟨a, ns, rfl, sqT_le h3, fun ns' p hp hs hn => ?_⟩
      have e := sortI_uniq hp hs
      subst e
      exact q _ _ (same_new hn) (new_lst hn hd (Reps.of_ints _))
    · cases e
  · exact .inl (cs_sorted _ _ _ _ _ _ _ hd rp e q)
end PV

namespace PV
open PySem L2
/-! ### no error comes out -/
def quiet {α : Type} : Out α → Out α
  | .err _ _ => .stuck
  | .ok a s => .ok a s
  | .stuck => .stuck
def cQ {α : Type} (f : En → M α) : En → M α := fun δ s => quiet (f δ s)
@[simp] theorem quiet_ok {α : Type} (a : α) (s : S) : quiet (.ok a s) = .ok a s := rfl
@[simp] theorem quiet_stuck {α : Type} : quiet (.stuck : Out α) = .stuck := rfl
@[simp] theorem quiet_err {α : Type} (e : Err) (s : S) : quiet (.err e s : Out α) = .stuck := rfl
@[simp] theorem e_q {α : Type} (f : En → M α) (δ : En) (s : S) : cQ f δ s = quiet (f δ s) := rfl
theorem post_quiet {α : Type} {o : Out α} {P : α → S → Prop} {R R' : Err → S → Prop} (h : (quiet o).post P R) : o.post P R' := by
  cases o with
  | stuck => exact h
  | ok a s => exact h
  | err e s => exact h.elim
section
variable {B : Bs} {W : List Nat} {E : Option XK}
theorem rd_q {t : TE} {f : En → M D} (h : RdE B W none t f) : RdE B W E t (cQ f) := by
  intro r sa H0 O0 O σ δ s H gd Q hp
  exact h gd Q (post_quiet hp)
theorem rt_q {t : TT} {f : En → M Bool} (h : RdT B W none t f) : RdT B W E t (cQ f) := by
  intro r sa H0 O0 O σ δ s H gd Q hp
  exact h gd Q (post_quiet hp)
theorem ra_q {t : TA} {f : En → M (List D)} (h : RdA B W none t f) : RdA B W E t (cQ f) := by
  intro r sa H0 O0 O σ δ s H gd Q hp
  exact h gd Q (post_quiet hp)
theorem ri_q {t : TI} {f : En → M (List D)} (h : RdI B W none t f) : RdI B W E t (cQ f) := by
  intro r sa H0 O0 O σ δ s H gd Q hp
  exact h gd Q (post_quiet hp)
theorem rl_q {t : TE} {f : En → M (List D)} (h : RdL B W none t f) : RdL B W E t (cQ f) := by
  intro r sa H0 O0 O σ δ s H gd Q hp
  exact h gd Q (post_quiet hp)
theorem rs_q {t : TS} {F : En → M Fl} (h : RdS B W none t F) : RdS B W E t (cQ F) := by
  intro r sa H0 O0 O σ δ s H gd D hp
  exact h gd D (post_quiet hp)
/-! ### defs that may raise -/
def spX (B : Bs) (np : Nat) (F : List D → M D) : Sp := fun vs H Q E => vs.length = np ∧ ∃ (r sa : Addr) (O : List Addr) (ds : List D) (s : S), RowAt B r sa H s ∧ r ∈ O ∧ (∀ p ∈ O, H p ≠ none) ∧ Reps B r (hid H O) vs ds ∧ (F ds s).post (OkV B r sa H O Q) (EPost B (some E) r sa H O)
/-- called where nothing is let out -/
theorem rd_callX {np : Nat} {F : List D → M D} {tr : TA} {fr : En → M (List D)} (ha : RdA B W none tr fr) : RdE B W none (tCall (spX B np F) [] E0 tr) (cCall np F fr) := by
  intro r sa H0 O0 O σ δ s H gd Q h
  refine ha gd _ (post_mono (post_bind h) (fun x s1 hx v H1 st ra rp => ?_) (fun _ _ z => z))
  split at hx
  · rename_i hl
    rw [List.append_nil]
    exact ⟨by rw [rp.length]; exact hl, r, sa, O, x, s1, ra, gd.rO, (gd.step st ra).dom, rp, post_mono hx (fun d s2 q w H2 st2 ra2 rp2 => q w H2 (st.trans st2) ra2 rp2) (fun _ _ z => z.elim)⟩
  · exact hx.elim
/-- called where it is let out -/
theorem rd_callS {np : Nat} {F : List D → M D} {tr : TA} {fr : En → M (List D)} {E : XK} (ha : RdA B W (some E) tr fr) : RdE B W (some E) (tCallS (spX B np F) (fun _ => E) tr) (cCall np F fr) := by
  intro r sa H0 O0 O σ δ s H gd Q h
  refine ha gd _ (post_mono (post_bind h) (fun x s1 hx v H1 st ra rp => ?_) (fun _ _ z => z))
  split at hx
  · rename_i hl
    exact ⟨by rw [rp.length]; exact hl, r, sa, O, x, s1, ra, gd.rO, (gd.step st ra).dom, rp, post_mono hx (fun d s2 q w H2 st2 ra2 rp2 => q w H2 (st.trans st2) ra2 rp2) (fun _ _ z => z.mono st)⟩
  · exact hx.elim
/-- a def that raises nothing, its arguments may -/
def cCallQ (np : Nat) (F : List D → M D) (fr : En → M (List D)) : En → M D := fun δ s => (fr δ s).bind fun ds s1 => if ds.length = np then quiet (F ds s1) else .stuck
theorem rd_callQ {np : Nat} {F : List D → M D} {tr : TA} {fr : En → M (List D)} (ha : RdA B W E tr fr) : RdE B W E (tCall (spD B np F) [] E0 tr) (cCallQ np F fr) := by
  intro r sa H0 O0 O σ δ s H gd Q h
  refine ha gd _ (post_mono (post_bind h) (fun x s1 hx v H1 st ra rp => ?_) (fun _ _ z => z))
  split at hx
  · rename_i hl
    rw [List.append_nil]
    exact ⟨by rw [rp.length]; exact hl, r, sa, O, x, s1, ra, gd.rO, (gd.step st ra).dom, rp, post_mono (post_quiet (R' := fun _ _ => False) hx) (fun d s2 q w H2 st2 ra2 rp2 => q w H2 (st.trans st2) ra2 rp2) (fun _ _ z => z)⟩
  · exact hx.elim
theorem fnx_ok {P : Program} {w : World} {mg : Str → Option Value} {base : Heap} {x qual : Str} {st : Stmt} {f : Addr} {fd : FuncData} {N ps : List Str} {k : Nat} {body : En → M Fl} (F : Fun B.K x qual st f fd) (Sc : FnScope N ps (defScope st)) (hW : (W.all fun i => decide (ps.length ≤ i)) = true)
    (hb : ∀ (cdv : Value) (A : Around) (outer : List Env) (s : Shared) (H : Hp) (E : XK), Room k (A.deeper (PyProof.Rows.envOfC qual (defScope st) s.heap.objs.size f cdv)) →
      ∃ t, PSs (cxOf (L2.CX P w) P w B.K mg base N qual (defScope st) f cdv A outer s H E) (defBody st) t ∧ RdS B W (some E) t body) : FnOk P w B.K mg base (L2.CX P w) (k + 1) f fd ps (spX B ps.length (runD ps.length N.length body)) := by
  refine F.okX Sc (fun vs H Q E h => h.1) (fun cdv A outer s H vs Q E hr h => ?_)
  obtain ⟨t, hP, hR⟩ := hb cdv A outer s H E hr
  obtain ⟨hl, r, sa, O, ds, s0, ra, hrO, hdom, rp, hp⟩ := h
  refine ⟨t, hP, ?_⟩
  have hds : ds.length = ps.length := by rw [← rp.length]; exact hl
  have hp : ((body (startD N.length ds) s0).bind endD).post (OkV B r sa H O Q) (EPost B (some E) r sa H O) := by
    have e : runD ps.length N.length body ds s0 = (body (startD N.length ds) s0).bind endD := by unfold runD; rw [if_pos hds]
    rw [← e]; exact hp
  have gd : Gd B r sa H O W O (L2.start N vs) (startD N.length ds) s0 H := by
    refine ⟨?_, ra, hrO, hdom, hdom, fun _ h => h, fun _ h => .inl h, Stp.refl H, fun i d hi q => ?_, fun i d hi q => ?_, fun i j p d e hi hj ne q => ?_⟩
    · unfold L2.start startD; simp [rp.length]
    · obtain ⟨v, h1, h2⟩ := rp.get i d (startD_some q)
      refine ⟨v, ?_, h2⟩
      rw [start_get, if_pos (List.getElem?_eq_some_iff.mp h1).1, h1]; rfl
    · have h1 := startD_some q
      have h2 := (List.getElem?_eq_some_iff.mp h1).1
      have h3 := of_decide_eq_true (List.all_eq_true.mp hW i hi)
      omega
    · have h1 := startD_some q
      have h2 := (List.getElem?_eq_some_iff.mp h1).1
      have h3 := of_decide_eq_true (List.all_eq_true.mp hW i hi)
      omega
  refine hR gd _ (post_mono (post_bind hp) (fun fl s1 hx => ?_) (fun _ _ z => z))
  cases fl with
  | next δ' => exact fun O' σ' H' g' _ => hx .non H' g'.stp g'.row .non
  | ret d => exact fun v H' st' ra' rp' => hx v H' st' ra' rp'
  | brk δ' => exact hx.elim
  | cont δ' => exact hx.elim
/-! ### raise -/
def cRaise (c : Str) (fr : En → M (List D)) : En → M Fl := fun δ s => (fr δ s).bind fun ds s1 => .err ⟨c, ds.reverse⟩ s1
@[simp] theorem e_raise (c : Str) (fr : En → M (List D)) (δ : En) (s : S) : cRaise c fr δ s = (fr δ s).bind fun ds s1 => .err ⟨c, ds.reverse⟩ s1 := rfl
theorem rs_raise0 {c : Str} {E : XK} : RdS B W (some E) (fun _ σ H => E (.ref (B.xc c)) none H) (cRaise c cNil) := by
  intro r sa H0 O0 O σ δ s H gd D h
  exact h _ _ H gd.stp gd.row ⟨rfl, .inl rfl⟩
end
/-! ### an own error class is made -/
/-- C.__init__(self), which calls its base's alone -/
def spI0 (C : Addr) : Sp := fun vs H Q _ => ∃ a : Addr, vs = [.ref a] ∧ H a = some (exo a C none) ∧ Q .non H
/-- C.__init__(self, f), which keeps f -/
def spI1 (C : Addr) (f : Str) : Sp := fun vs H Q _ => ∃ (a : Addr) (y : V), vs = [.ref a, y] ∧ H a = some (exo a C none) ∧ ∀ dx, H dx = none → dx ≠ a → Q .non (upd (upd H dx (exd dx [(f, y)])) a (exo a C (some dx)))
open PySem.Spec PyProof.Rows in
theorem pe_clinit {X : Cx} {e : Expr} {es : List Expr} {ta : TA} {p1 p2 pos : Pos} {x : Str} {CF : Addr} {pl : Sem Bool} (hg : Gl X x) (hm : X.mg x = some (.ref CF)) (hsp : PySem.W.specialIn X.K (.ref CF) "__getattribute__" = some (some (.builtin "type.__getattribute__")))
    (hty : PySem.W.typeIn X.K (.ref CF) = some (.type "type")) (hrd : PySem.W.readsIn X.K CF (.type "type") = true) (hfc : PySem.W.findCls X.K (.ref CF) (.type "type") "__init__" = some (.val (.builtin "ValueError.__init__"))) (ha : PA X (e :: es) ta)
    (hc : eval (.Call (.Attribute (.Name x p1) "__init__" p2) (e :: es) [] pos) X.env = (do
      let ov ← eval (.Name x p1) X.env
      standAt p2.atName
      let (f, first) ← holding [ov] (getMethod ov "__init__" pl)
      callWith pos f first (backTo pos (starEach (e :: es) X.env)) (backToKw pos (keywordEach [] X.env))) := by rfl)
    (hdb : (x == ("__debug__" : Str)) = false := by decide) (he : starEach (e :: es) X.env = (false, eval e X.env) :: starEach es X.env := by rfl) (hpl : (backTo pos (starEach es X.env)).any (·.1) = false := by rfl) :
    PE X (.Call (.Attribute (.Name x p1) "__init__" p2) (e :: es) [] pos) (tVeI X.K ta) := by
  refine ⟨fun pins s σ H Q I h => PySem.W.methodCall_KW (ld_glob I hg hm ?_ hdb) hc⟩
  obtain ⟨m, fr⟩ := I.fr
  refine PySem.W.method_of_cls fr I.ok.mod.kin hsp (PySem.W.cls_val fr I.ok.mod.kin hty hrd hfc (by decide +kernel) ?_)
  show wpAny _ _ (callWith pos (Value.builtin "ValueError.__init__") [] (backTo pos (starEach (e :: es) X.env)) []) _ _ _
  refine PyProof.Rows.callWith_method1 (thn (ha.run pos pins _ σ H _ (I.tok _) h) fun us s1 hz => ?_) he hpl
  obtain ⟨vs, H1, I1, r1, a, C, ws, ev, hl, T, ea, q⟩ := hz
  subst ev
  cases r1 with
  | @cons _ u0 _ ur ra rw' =>
    obtain rfl : u0 = Value.ref a := ra
    have hlen : ur.length ≤ sizeLine := by rw [← Paired.length rw', sizeLine_eq]; omega
    exact oinit_ok T I1 ea hlen fun s' J => ⟨.non, H1, J, rfl, q⟩
open PySem.Spec PyProof.Rows in
theorem pmk_x0 {X : Cx} {x : Str} {C fI : Addr} {k : Nat} {fd : FuncData} {ps : List Str} {p pos : Pos} (T : OexC X.K C) (iC : PySem.W.findIn X.K (.ref C) "__init__" = some (some (.ref fI))) (tI : PySem.W.typeIn X.K (.ref fI) = some (.type "function"))
    (F1 : FnOk X.prog X.w X.K X.mg X.base CX0 k fI fd ps (spI0 C)) (hr : Room (k + 1) X.A) (hb : Binds X.K fd ps []) (hg : Gl X x) (hm : X.mg x = some (.ref C)) (hdb : (x == ("__debug__" : Str)) = false := by decide) :
    PMk X (.Call (.Name x p) [] [] pos) (fun _ H Q => Q (.ref C) none H) := by
  intro pins s σ H Q I h
  obtain ⟨nm, q, N, bs, bm, sn, sub, ab, col, dd, k0, k1, k2, k3, k5, hC, hbm⟩ := T.cls
  refine wpAny_Call_Name_kw (ld_glob I hg hm ?_ hdb)
  refine PySem.W.callWith_K0 I.kIn T.kC ?_
  show wpAny _ _ (call (.ref C) []) _ _ _
  obtain ⟨hp, g, dr, tk, os⟩ := s
  have hsz : hp.objs.size ≤ hp.objs.size + 1 := Nat.le_succ _
  have hn : H (hp.objs.size + 1) = none := I.hok.fresh hsz
  have kk : ∀ b o, hp.get? b = some o → ((hp.push (PySem.W.kdv_tup [])).push (PySem.HandSPX.excO C hp.objs.size)).get? b = some o := fun b o e => Heap.get?_push_of_some _ (Heap.get?_push_of_some _ e)
  have hget : ((hp.push (PySem.W.kdv_tup [])).push (PySem.HandSPX.excO C hp.objs.size)).get? (hp.objs.size + 1) = some (PySem.HandSPX.excO C hp.objs.size) := by heap_get
  have I2 : Inv X pins σ (upd H (hp.objs.size + 1) (exo (hp.objs.size + 1) C none)) ⟨(hp.push (PySem.W.kdv_tup [])).push (PySem.HandSPX.excO C hp.objs.size), g, dr, tk, os⟩ :=
    I.laid (t' := tk) (a := hp.objs.size + 1) (o := exo (hp.objs.size + 1) C none) (h' := (hp.push (PySem.W.kdv_tup [])).push (PySem.HandSPX.excO C hp.objs.size)) kk hsz (exo_ok hget)
  have r2 : Vals [V.ref (hp.objs.size + 1)] [Value.ref (hp.objs.size + 1)] := .cons rfl .nil
  have hq : spI0 C [V.ref (hp.objs.size + 1)] (upd H (hp.objs.size + 1) (exo (hp.objs.size + 1) C none)) (fun v H2 => v = .non ∧ H2 = upd H (hp.objs.size + 1) (exo (hp.objs.size + 1) C none)) (fun _ _ _ => False) := ⟨_, rfl, upd_same, rfl, rfl⟩
  have hl : [Value.ref (hp.objs.size + 1)].length = ps.length := F1.len _ _ _ _ hq
  refine wpAny_call (PySem.HandSPX.call_own F.excBase_ValueError (fun Y => PySem.HandSPX.refsVE_contains Y bm hbm) (I.kIn _ _ hC) (PySem.W.looks_findIn I.kIn iC) (fun self => PySem.W.bind_fn I.kIn self tI) (by show 0 ≤ _; exact Nat.zero_le _)
    (codeAny_mono (F1.run _ X.stack _ _ ⟨[Value.ref (hp.objs.size + 1)], []⟩ [Value.ref (hp.objs.size + 1)] _ _ (fun _ _ _ => False) (hr.make C [] []) (I2.env0.make C [] []) (by have := hb _ [Value.ref (hp.objs.size + 1)] I2.kIn (by simpa using hl); simpa using this) r2 hq) fun r s' hq' => ?_))
  cases r with
  | error er => exact hq'.elim
  | ok fl =>
    cases fl with
    | ret u =>
      obtain ⟨v, H2, os2, bare2, un2, hok2, rv, ev, eH⟩ := hq'
      subst ev
      subst eH
      obtain ⟨h2, g2, d2, t2, os'⟩ := s'
      refine ⟨rv, ?_⟩
      generalize hea : hp.objs.size + 1 = a at *
      have ea : upd H a (exo a C none) a = some (exo a C none) := upd_same
      obtain ⟨t0, hoe⟩ := exo_at hok2 ea
      obtain ⟨G, g1', g2'⟩ := restrict h2 fun b => decide (b ≠ a)
      have gk : ∀ b, b ≠ a → G.get? b = h2.get? b := fun b hb => g1' b (decide_eq_true hb)
      have ge : G.get? a = none := g2' a (by simp)
      have nha : ∀ {b : Addr} {o : Obj}, hp.get? b = some o → b ≠ a := fun {b o} z => Nat.ne_of_lt (Nat.lt_of_lt_of_le (Heap.lt_size z) hsz)
      have up : ∀ {b : Addr}, b ≠ a → H b = none → upd H a (exo a C none) b = none := fun {b} hb n => by rw [upd_ne hb]; exact n
      have U : Un (frs X.stack) [] H H hp G := {
        keep := fun b o z n hf hx => by rw [gk b (nha z)]; exact un2.keep b o (kk b o z) (up (nha z) n) hf hx
        slot := fun b o z n hf hx => by rw [gk b (nha z)]; exact un2.slot b o (kk b o z) (up (nha z) n) hf hx
        free := fun b o z n hx => n
        there := fun b o z hx => by rw [gk b (nha z)]; exact un2.there b o (kk b o z) hx
        tups := fun b xs z => z
        frzs := fun b o v z => z
        tbls := fun b ps z => ⟨#[], by rw [z]; simp⟩ }
      have hok3 : HOk X.prog X.w H G := fun b o z => by
        have hba : b ≠ a := fun e => by rw [e, hn] at z; cases z
        have z' : upd H a (exo a C none) b = some o := by rw [upd_ne hba]; exact z
        have noa : ∀ {c : Addr}, upd H a (exo a C none) c = some (.own b) → c ≠ a := fun {c} hc => at_ne ea hc exo_own
        refine (hok2 b o z').stay (fun c v hc y => ?_) (fun c hc => ?_) (fun c xs hc => ?_)
        · have hca : c ≠ a := hc.elim (fun e => by rw [e]; exact hba) noa
          rw [gk c hca]; exact y
        · rw [upd_ne (noa hc)] at hc; exact hc
        · rw [upd_ne (at_ne ea hc exo_tup)] at hc; exact hc
      have J : Inv X pins σ H ⟨G, g2, d2, t2, os'⟩ := I.call' (ch := []) os2 U hok3 bare2 (fun b z => absurd z (by simp))
      exact ⟨a, _, _, ⟨G, g2, d2, t2, os'⟩, H, .ref C, none, rfl, J, fun b o z => by
        by_cases hba : b = a
        · rw [hba, ge] at z; cases z
        · exact (gk b hba).symm.trans z, ge, hoe, ⟨rfl, rfl⟩, rfl, rfl, hn, rfl, bare2, raises_own T.exC T.tyC, h⟩
    | next => exact hq'.elim
    | brk => exact hq'.elim
    | cont => exact hq'.elim
end PV

namespace PV
open PySem L2
/-! ### a statement that lets nothing out -/
theorem ps_nox {X : Cx} {st : Stmt} {t : TS} (h : PS X.nox st t) : PS X st t := ⟨fun pins s σ H D I hw =>
  wpAny_mono (h.run pins s σ H D (I.wish _) hw) (fun f s1 q => q.unwish) fun e s1 z => z.elim⟩
/-! ### the error classes -/
section
variable {P : Program} {w : World} {K : PySem.W.Frag} {mg : Str → Option Value} {base : Heap} {x qual : Str} {st : Stmt} {f : Addr} {fd : FuncData} {N ps : List Str} {k : Nat} {C : Addr}
theorem init0_ok {m : Str} (F : Fun K x qual st f fd) (Sc : FnScope N ps (defScope st)) (hN : N.length = 1) (hp : ps.length = 1) (T : OexC K C)
    (hb : ∀ (cdv : Value) (A : Around) (outer : List Env) (s : Shared) (H : Hp) (E : XK), Room k (A.deeper (PyProof.Rows.envOfC qual (defScope st) s.heap.objs.size f cdv)) →
      PSs (cxOf CX0 P w K mg base N qual (defScope st) f cdv A outer s H E).nox (defBody st) (tDrop (tVeI K (tCons (tVar 0) (tCons (tC (.str m)) tNil))))) : FnOk P w K mg base CX0 (k + 1) f fd ps (spI0 C) := by
  refine F.ok Sc (fun vs H Q E h => ?_) (fun cdv A outer s H vs Q E hr h => ⟨_, hb cdv A outer s H E hr, ?_⟩)
  · obtain ⟨a, rfl, _⟩ := h; exact hp.symm
  · obtain ⟨a, rfl, ha, q⟩ := h
    have hs : L2.start N [V.ref a] = [some (.ref a)] := by unfold L2.start; rw [hN]; rfl
    rw [hs]
    exact ⟨_, rfl, a, C, _, rfl, (by show 1 ≤ 1000; decide), T, ha, q⟩
theorem init1_ok {m fl : Str} (F : Fun K x qual st f fd) (Sc : FnScope N ps (defScope st)) (hN : N.length = 2) (hp : ps.length = 2) (T : OexC K C) (hno : PySem.W.findIn K (.ref C) fl = some none)
    (hb : ∀ (cdv : Value) (A : Around) (outer : List Env) (s : Shared) (H : Hp) (E : XK), Room k (A.deeper (PyProof.Rows.envOfC qual (defScope st) s.heap.objs.size f cdv)) →
      PSs (cxOf CX0 P w K mg base N qual (defScope st) f cdv A outer s H E).nox (defBody st) (tSeq (tDrop (tVeI K (tCons (tVar 0) (tCons (tC (.str m)) tNil)))) (tOst K fl (tVar 0) (tVar 1)))) : FnOk P w K mg base CX0 (k + 1) f fd ps (spI1 C fl) := by
  refine F.ok Sc (fun vs H Q E h => ?_) (fun cdv A outer s H vs Q E hr h => ⟨_, hb cdv A outer s H E hr, ?_⟩)
  · obtain ⟨a, y, rfl, _⟩ := h; exact hp.symm
  · obtain ⟨a, y, rfl, ha, q⟩ := h
    have hs : L2.start N [V.ref a, y] = [some (.ref a), some y] := by unfold L2.start; rw [hN]; rfl
    rw [hs]
    exact ⟨_, rfl, a, C, _, rfl, (by show 1 ≤ 1000; decide), T, ha, _, rfl, _, rfl, a, C, rfl, T, hno, .inl ⟨ha, fun dx h1 h2 => q dx h1 h2⟩⟩
end
section
variable {B : Bs} {W : List Nat} {E : Option XK}
/-- raise C(e) -/
theorem rs_raise1 {c fl : Str} {E : XK} {fa : En → M D} {te : TE} (hf : xFl c = [fl]) (ha : RdE B W none te fa) : RdS B W (some E) (fun _ σ H => tMkO (B.xc c) (spI1 (B.xc c) fl) [] (tCons te tNil) σ H fun cls d H' => E cls d H') (cRaise c (cQ (cCons fa cNil))) := by
  intro r sa H0 O0 O σ δ s H gd D h
  have h := post_quiet (o := cCons fa cNil δ s) (R' := fun _ _ => False) (P := fun (ds : List PV.D) s1 => (Out.err ⟨c, ds.reverse⟩ s1 : Out Fl).post (FlP B r sa H0 O0 W O H D) (EPost B (some E) r sa H0 O0)) (R := fun _ _ => False) (by
    cases q : cCons fa cNil δ s with
    | stuck => have z : (cRaise c (cQ (cCons fa cNil)) δ s) = .stuck := by unfold cRaise cQ; rw [q]; rfl
               rw [z] at h; exact h.elim
    | err e s1 => have z : (cRaise c (cQ (cCons fa cNil)) δ s) = .stuck := by unfold cRaise cQ; rw [q]; rfl
                  rw [z] at h; exact h.elim
    | ok ds s1 => have z : (cRaise c (cQ (cCons fa cNil)) δ s) = .err ⟨c, ds.reverse⟩ s1 := by unfold cRaise cQ; rw [q]; rfl
                  rw [z] at h; exact h)
  refine ha gd _ (post_mono (post_bind h) (fun x s1 hx v H1 st ra rp => ?_) (fun _ _ z => z))
  have hx : EPost B (some E) r sa H0 O0 ⟨c, [x]⟩ s1 := hx
  have gd1 := gd.step st ra
  refine ⟨(by show 1 ≤ 1000; decide), fun a hn => ⟨a, v, rfl, upd_same, fun dx h1 h2 => ⟨rfl, dx, [(fl, v)], upd_same, ?_, ?_, ?_⟩⟩⟩
  · rw [upd_ne h2, upd_same]
  · rw [upd_ne h2] at h1; exact h1
  · have n1 : H1 dx = none := by rw [upd_ne h2] at h1; exact h1
    have eH : upd (L2.del (upd (upd (upd H1 a (exo a (B.xc c) none)) dx (exd dx [(fl, v)])) a (exo a (B.xc c) (some dx))) a) dx (.xd [(fl, v)]) = upd H1 dx (.xd [(fl, v)]) := by
      funext b
      by_cases hb : b = dx
      · rw [hb, upd_same, upd_same]
      · rw [upd_ne hb, upd_ne hb]
        by_cases hb2 : b = a
        · rw [hb2, del_same, hn]
        · rw [del_ne hb2, upd_ne hb2, upd_ne hb, upd_ne hb2]
    have dO : dx ∉ O0 := fun z => gd1.dom dx (gd1.sub dx z) n1
    have dr : dx ≠ r := fun z => dO (z ▸ gd.r0)
    show E (.ref (B.xc c)) (some dx) _
    rw [eH]
    have st1 : Stp r H0 (upd H1 dx (.xd [(fl, v)])) := (gd.stp.trans st).trans (Stp.new n1)
    refine hx _ _ _ st1 (ra.new n1) ⟨rfl, .inr ⟨dx, _, [v], rfl, by rw [hid_out dO, upd_same], by rw [hf]; rfl, .cons (rp.mono ?_) .nil⟩⟩
    exact (hid_sub gd1.sub).trans (hid_same (same_new n1))
end
/-! ### try: .. except C: .. except D as n: .. -/
abbrev endAs (D : Ends) (i : Nat) : Ends := { nx := fun σ' H' => D.nx (σ'.set i none) H', rt := D.rt, bk := fun σ' H' => D.bk (σ'.set i none) H', ct := fun σ' H' => D.ct (σ'.set i none) H' }
abbrev Hd1 := Value × Option Nat × (Addr → Value → Option Addr → TS)
def hdGo (ts : Addr → Value → Option Addr → TS) (D : Ends) (a : Addr) (cls : Value) (d : Option Addr) (σ : St) (H : Hp) : Option Nat → Prop
  | none => ts a cls d D σ H
  | some i => ts a cls d (endAs D i) (σ.set i (some (.ref a))) H
def wMix (K : PySem.W.Frag) (Wo : WX) (D : Ends) : List Hd1 → WX
  | [] => Wo
  | h :: r => fun cls d σ H => ∃ b, PySem.W.exmOne K cls h.1 = some b ∧ (b = true → ∀ a, H a = none → hdGo h.2.2 D a cls d σ H h.2.1) ∧ (b = false → wMix K Wo D r cls d σ H)
inductive HdX (X : Cx) : List ExceptHandler → List Hd1 → Prop
  | nil : HdX X [] []
  | bare {x : Str} {c : Value} {ts : Addr → Value → Option Addr → TS} {b0 : Stmt} {su : List Stmt} {np pp : Pos} {hds : List ExceptHandler} {l : List Hd1} (hc : Names X x c)
      (hsu : ∀ (a : Addr) (oe : Obj) (cls : Value) (d : Option Addr) (pn : List (Addr × Obj)), Zc cls d oe → (∃ vs, oe.data = .fields vs) → PSs (X.suite a ((a, oe) :: pn)) (b0 :: su) (ts a cls d)) (r : HdX X hds l) :
      HdX X (.ExceptHandler (some (.Name x np)) none (b0 :: su) pp :: hds) ((c, none, ts) :: l)
  | named {x n : Str} {i : Nat} {c : Value} {ts : Addr → Value → Option Addr → TS} {b0 : Stmt} {su : List Stmt} {np pp : Pos} {hds : List ExceptHandler} {l : List Hd1} (hN : X.N.Nodup) (hi : X.N[i]? = some n) (hln : X.env.kindOf n = some .local) (hc : Names X x c)
      (hsu : ∀ (a : Addr) (oe : Obj) (cls : Value) (d : Option Addr) (pn : List (Addr × Obj)), Zc cls d oe → (∃ vs, oe.data = .fields vs) → PSs (X.suite a ((a, oe) :: pn)) (b0 :: su) (ts a cls d)) (r : HdX X hds l) :
      HdX X (.ExceptHandler (some (.Name x np)) (some n) (b0 :: su) pp :: hds) ((c, some i, ts) :: l)
open PySem.Spec PyProof.Rows in
theorem ps_try_mix {X : Cx} {body : List Stmt} {h0 : ExceptHandler} {hds : List ExceptHandler} {l : List Hd1} {pos : Pos} {tb : WX → TS} {Wo : WX} (hs : X.stack = X.env :: X.outer) (hf : X.env.frame = some X.env.locals) (tk : Takes X Wo)
    (hb : ∀ (W : WX) (pn : List (Addr × Obj)) (xe : Value → Shared → Prop), Takes (X.tr pn xe) W → PassesOwn (model X.prog X.w) X.A X.env xe → PSs (X.tr pn xe) body (tb W))
    (hh : HdX X (h0 :: hds) l) : PS X (.Try body (h0 :: hds) [] [] pos) (fun D σ H => tb (wMix X.K Wo D l) D σ H) := by
  refine ⟨fun pins s σ H D I h => ?_⟩
  have ok := I.ok
  have hfr : X.A.frames = some (X.env :: X.outer) := by rw [ok.frames, hs]
  refine wpAny_Try_except (wpAny_mono ((hb (wMix X.K Wo D l) (X.pn ++ pins) (fun e t1 => wpAny (model X.prog X.w) X.A (noteFrame e X.env) (fun _ t2 => wpAny (model X.prog X.w) X.A (setFlight e none) (fun _ t3 =>
    wpAny (model X.prog X.w) X.A (handleBy e X.env (h0 :: hds)) (SP X pins D) X.xe t3) X.xe t2) X.xe t1) (fun u s' xx => ?_) PassesOwn.looking).run [] s σ H D (I.toTry _) h) (fun f s1 hsp => ?_) (fun e s1 he => he))
  · obtain ⟨a, G, sI, pins', σ', H', cls, d, rfl, J', nb, up, sky, na, os, ag, w⟩ := xx
    have J : Inv X pins σ' H' sI := J'.ofTry ok
    have skyX : Sky G (X.env :: X.outer) a (Zc cls d) X.env.locals s'.heap := by rw [← hs]; exact sky
    show wpAny (model X.prog X.w) X.A (noteFrame (.ref a) X.env) _ _ _
    refine Sky.land Zc.steady hfr hf skyX fun g3 ff3 uu3 => ?_
    have J3 : Inv X pins σ' H' { s' with heap := g3 } := J.landed nb ff3.1 (up.trans uu3) os ag
    obtain ⟨oe3, vs3, he3, hz3, hd3⟩ := ff3.there
    have nfr : a ∉ frs (X.env :: X.outer) := fun hm => by
      obtain ⟨_, o', e', hnf⟩ := Heap.FunFrames.mem ff3.2.2.1 hm
      rw [he3] at e'; cases e'
      exact hnf _ hd3
    have nL : a ≠ X.env.locals := fun z => nfr (List.mem_filterMap.mpr ⟨X.env, List.mem_cons_self, by rw [hf, z]⟩)
    have nF : a ∉ X.fs := fun hm => by
      obtain ⟨e, he, q⟩ := List.mem_filterMap.mp hm
      exact nfr (List.mem_filterMap.mpr ⟨e, List.mem_cons_of_mem _ he, q⟩)
    have S3 := J3.suite he3 hd3 na nL nF
    have LT : PySem.W.Looks (model X.prog X.w) g3 (typeOf (.ref a)) cls := fun A Q E s k q => wpAny_typeOf_ref (k _ _ he3) (by rw [hz3.1]; exact q)
    have test : ∀ {x : Str} {c : Value} {np : Pos}, Names X x c → ∀ {Q : Value → Shared → Prop} {E : Value → Shared → Prop}, Q c { s' with heap := g3 } → wpAny (model X.prog X.w) (X.A.mark (some (.ref a))) (eval (.Name x np) X.env) Q E { s' with heap := g3 } := fun {x c np} hc {Q E} q => by
      obtain ⟨hg, hdbg, hm | ⟨hm, hv, hnn⟩⟩ := hc
      · exact ld_glob (X := X.suite a ((a, oe3) :: (X.pn ++ pins))) S3 hg hm q hdbg
      · exact ld_blt (X := X.suite a ((a, oe3) :: (X.pn ++ pins))) S3 hg hm hv q hnn hdbg
    have go : ∀ {hs2 : List ExceptHandler} {l2 : List Hd1}, HdX X hs2 l2 → wMix X.K Wo D l2 cls d σ' H' → wpAny (model X.prog X.w) X.A (handleBy (.ref a) X.env hs2) (SP X pins D) X.xe { s' with heap := g3 } := by
      intro hs2 l2 hk
      induction hk with
      | nil =>
        intro w
        refine wpAny_handleBy_nil ?_
        obtain ⟨k1, k2, k3, oe, vs, T, oT, tz, he, hz, hd, h1, hr⟩ := id ff3
        unfold PySem.passOn
        refine wpAny_bind (wpAny_field he hd h1 ?_)
        rw [if_neg (show ¬ ((Value.ref T == Value.none) = true) from by simp)]
        have fin : wpAny (model X.prog X.w) X.A (setFlight (.ref a) X.env.frame) (fun _ s4 => wpAny (model X.prog X.w) X.A (throw (.ref a) : Sem Flow) (SP X pins D) X.xe s4) X.xe { s' with heap := g3 } := by
          rw [hf]
          exact HandSPX.setFlight_upZ ff3 fun h4 hh4 up4 => wpAny_throw (tk _ _ ⟨a, G, sI, pins, σ', H', cls, d, rfl, J, nb, (up.trans uu3).trans up4, .inr (.inr (by rw [hs]; exact hh4)), na, os, ag, w⟩)
        first
          | exact wpAny_bind (wpAny_pure (wpAny_bind fin))
          | exact wpAny_bind fin
      | @bare x c ts b0 su np pp hds2 l3 hc hsu r ih =>
        intro w
        obtain ⟨b, hb1, hyes, hno⟩ := w
        refine wpAny_handleBy_cons (codeAny_handlers_test ?_) (by intro q; cases q)
        refine test hc ((PySem.W.exm_one (M := model X.prog X.w) (J3.kIn) LT hb1).here ?_)
        cases b with
        | false => exact ih (hno rfl)
        | true =>
          refine codeAny_handlers_suite (HandSPX.lands_againZ ff3 fun g4 ff4 uu4 => ?_)
          have J4 : Inv X pins σ' H' { s' with heap := g4 } := J.landed nb ff4.1 ((up.trans uu3).trans uu4) os ag
          obtain ⟨oe4, vs4, he4, hz4, hd4⟩ := ff4.there
          refine wpAny_mono ((hsu a oe4 cls d (X.pn ++ pins) hz4 ⟨_, hd4⟩).run [] _ _ H' _ (J4.suite he4 hd4 na nL nF) (hyes rfl a na)) (fun f s6 hsp => ?_) (fun _ _ z => False.elim z)
          cases f with
          | next => obtain ⟨σ6, H6, S6, q6⟩ := hsp; exact ⟨_, _, S6.unsuite ok, q6⟩
          | brk => obtain ⟨σ6, H6, S6, q6⟩ := hsp; exact ⟨_, _, S6.unsuite ok, q6⟩
          | cont => obtain ⟨σ6, H6, S6, q6⟩ := hsp; exact ⟨_, _, S6.unsuite ok, q6⟩
          | ret u => obtain ⟨v6, σ6, H6, S6, r6, q6⟩ := hsp; exact ⟨_, _, _, S6.unsuite ok, r6, q6⟩
      | @named x n i c ts b0 su np pp hds2 l3 hN hi hln hc hsu r ih =>
        intro w
        obtain ⟨b, hb1, hyes, hno⟩ := w
        refine wpAny_handleBy_cons (codeAny_handlers_test ?_) (by intro q; cases q)
        refine test hc ((PySem.W.exm_one (M := model X.prog X.w) (J3.kIn) LT hb1).here ?_)
        cases b with
        | false => exact ih (hno rfl)
        | true =>
          have hloc : Loc X.env.scope n := .inl hln
          refine codeAny_handlers_suite_as (HandSPX.lands_againZ ff3 fun g4 ff4 uu4 => ?_)
          have J4 : Inv X pins σ' H' { s' with heap := g4 } := J.landed nb ff4.1 ((up.trans uu3).trans uu4) os ag
          obtain ⟨oe4, vs4, he4, hz4, hd4⟩ := ff4.there
          refine store_ok (X := X.suite a ((a, oe4) :: (X.pn ++ pins))) (v := .ref a) (J4.suite he4 hd4 na nL nF) hN hi hloc rfl (fun s5 S5 => ?_) (.inr hln)
          refine wpAny_mono ((hsu a oe4 cls d (X.pn ++ pins) hz4 ⟨_, hd4⟩).run [] s5 _ H' _ S5 (hyes rfl a na)) (fun f s6 hsp => ?_) (fun _ _ z => False.elim z)
          have goes : ∀ {σ6 : L2.St} {H6 : Hp} {Q : Shared → Prop}, Inv (X.suite a ((a, oe4) :: (X.pn ++ pins))) [] σ6 H6 s6 → (∀ s7, Inv X pins (σ6.set i none) H6 s7 → Q s7) →
              wpAny (model X.prog X.w) X.A (do bindName X.env n .none; unbindBehindTheSuite X.env n pp) (fun _ s7 => Q s7) X.xe s6 := fun {σ6 H6 Q} S6 hq => gone_ok (S6.unsuite ok) hN hi hln hq
          cases f with
          | next => obtain ⟨σ6, H6, S6, q6⟩ := hsp; exact goes S6 fun s7 J7 => ⟨_, _, J7, q6⟩
          | brk => obtain ⟨σ6, H6, S6, q6⟩ := hsp; exact goes S6 fun s7 J7 => ⟨_, _, J7, q6⟩
          | cont => obtain ⟨σ6, H6, S6, q6⟩ := hsp; exact goes S6 fun s7 J7 => ⟨_, _, J7, q6⟩
          | ret u => obtain ⟨v6, σ6, H6, S6, r6, q6⟩ := hsp; exact goes S6 fun s7 J7 => ⟨_, _, _, J7, r6, q6⟩
    exact go hh w
  · cases f with
    | next => obtain ⟨σ', H', J', q⟩ := hsp; exact wpAny_execs_nil ⟨σ', H', J'.ofTry ok, q⟩
    | brk => obtain ⟨σ', H', J', q⟩ := hsp; exact ⟨σ', H', J'.ofTry ok, q⟩
    | cont => obtain ⟨σ', H', J', q⟩ := hsp; exact ⟨σ', H', J'.ofTry ok, q⟩
    | ret u => obtain ⟨v, σ', H', J', r, q⟩ := hsp; exact ⟨v, σ', H', J'.ofTry ok, r, q⟩
end PV

namespace PV
open PySem L2
/-! ### errors caught -/
def isA (x c : Str) : Bool := decide (x = c) || decide (c = "FloorError")
structure ExmF (B : Bs) (XS CS : List Str) : Prop where
  ex : ∀ x ∈ XS, ∀ c ∈ CS, PySem.W.exmOne B.K (.ref (B.xc x)) (.ref (B.xc c)) = some (isA x c)
abbrev HL := List (Str × (Err → En → M Fl))
def tryH : HL → Err → En → M Fl
  | [], _, _, _ => .stuck
  | (c, F) :: r, e, δ, s => if isA e.cls c then F e δ s else tryH r e δ s
def tryO (XS : List Str) (hl : HL) (δ : En) : Out D → Out Fl
  | .stuck => .stuck
  | .ok _ s1 => .ok (.next δ) s1
  | .err e s1 => if e.cls ∈ XS then tryH hl e δ s1 else .stuck
def cTry (XS : List Str) (f : En → M D) (hl : HL) : En → M Fl := fun δ s => tryO XS hl δ (f δ s)
@[simp] theorem e_try (XS : List Str) (f : En → M D) (hl : HL) (δ : En) (s : S) : cTry XS f hl δ s = tryO XS hl δ (f δ s) := rfl
@[simp] theorem tryO_ok (XS : List Str) (hl : HL) (δ : En) (d : D) (s : S) : tryO XS hl δ (.ok d s) = .ok (.next δ) s := rfl
@[simp] theorem tryO_err (XS : List Str) (hl : HL) (δ : En) (e : Err) (s : S) : tryO XS hl δ (.err e s) = if e.cls ∈ XS then tryH hl e δ s else .stuck := rfl
@[simp] theorem tryH_cons (c : Str) (F : Err → En → M Fl) (r : HL) (e : Err) (δ : En) (s : S) : tryH ((c, F) :: r) e δ s = if isA e.cls c then F e δ s else tryH r e δ s := rfl
section
variable {B : Bs} {W : List Nat}
/-- an except suite -/
def RdH (B : Bs) (W : List Nat) (o : Option Nat) (ts : Addr → Value → Option Addr → TS) (F : Err → En → M Fl) : Prop :=
  ∀ {r sa : Addr} {H0 : Hp} {O0 O : List Addr} {σ : St} {δ : En} {s : S} {H : Hp} (a : Addr) (cls : Value) (d : Option Addr) (e : Err), Gd B r sa H0 O0 W O σ δ s H → H a = none → XRep B r (hid H O) e cls d →
    ∀ D : Ends, (F e δ s).post (FlP B r sa H0 O0 W O H D) (fun _ _ => False) → hdGo ts D a cls d σ H o
inductive RdHs (B : Bs) (W : List Nat) (CS : List Str) : List Hd1 → HL → Prop
  | nil : RdHs B W CS [] []
  | cons {c : Str} {o : Option Nat} {ts : Addr → Value → Option Addr → TS} {F : Err → En → M Fl} {l : List Hd1} {hl : HL} : RdH B W o ts F → RdHs B W CS l hl → (hc : decide (c ∈ CS) = true := by decide) → RdHs B W CS ((.ref (B.xc c), o, ts) :: l) ((c, F) :: hl)
theorem wmix_of {XS CS : List Str} (X : ExmF B XS CS) {r sa : Addr} {H0 : Hp} {O0 O : List Addr} {σ : St} {δ : En} {s : S} {H H1 : Hp} {d : Option Addr} {e : Err} {D : Ends} (gd : Gd B r sa H0 O0 W O σ δ s H) (sm : Same (hid H1 O) (hid H O)) (he : e.cls ∈ XS) (xr : XRep B r (hid H O) e (.ref (B.xc e.cls)) d) :
    ∀ {l : List Hd1} {hl : HL}, RdHs B W CS l hl → (tryH hl e δ s).post (FlP B r sa H0 O0 W O H1 D) (fun _ _ => False) → wMix B.K (fun _ _ _ _ => False) D l (.ref (B.xc e.cls)) d σ H
  | _, _, .nil, h => h
  | _, _, .cons (c := c) hF hr hc, h => by
    refine ⟨isA e.cls c, X.ex _ he _ (of_decide_eq_true hc), fun q a na => ?_, fun q => ?_⟩
    · rw [tryH_cons, if_pos q] at h
      exact hF a _ d e gd na xr D (post_mono h (fun fl s1 z => z.mono sm) (fun _ _ z => z))
    · rw [tryH_cons, if_neg (by rw [q]; decide)] at h
      exact wmix_of X gd sm he xr hr h
theorem rs_try {XS CS : List Str} {l : List Hd1} {hl : HL} {f : En → M D} {te : XK → TE} {tE : (St → XK) → TE} (X : ExmF B XS CS) (hE : ∀ (Wx : St → XK) σ H Q, te (Wx σ) σ H Q → tE Wx σ H Q) (hb : ∀ E : XK, RdE B W (some E) (te E) f) (hh : RdHs B W CS l hl) :
    RdS B W none (fun D σ H => tDrop (tE (WE (wMix B.K (fun _ _ _ _ => False) D l))) D σ H) (cTry XS f hl) := by
  intro r sa H0 O0 O σ δ s H gd D h
  refine hE _ σ H _ (hb _ gd _ ?_)
  have h : (tryO XS hl δ (f δ s)).post (FlP B r sa H0 O0 W O H D) (EPost B none r sa H0 O0) := h
  cases q : f δ s with
  | stuck => rw [q] at h; exact h
  | ok x s1 =>
    rw [q] at h
    exact fun v H1 st ra rp => h O σ H1 (gd.step st ra) (st.hid gd.rO)
  | err e s1 =>
    rw [q, tryO_err] at h
    intro cl d H1 st ra xr
    split at h
    · rename_i he
      have ec := xr.1
      subst ec
      exact wmix_of X (gd.step st ra) (st.hid gd.rO) he xr hh (post_mono h (fun _ _ z => z) (fun _ _ z => z))
    · exact h.elim
theorem rh_s {t : TS} {F : En → M Fl} (h : RdS B W none t F) : RdH B W none (fun _ _ _ => t) (fun _ => F) := by
  intro r sa H0 O0 O σ δ s H a cls d e gd na xr D hp
  exact h gd D (post_mono hp (fun _ _ z => z) (fun _ _ z => z))
/-- a slot that holds nothing told -/
theorem Gd.hole {r sa : Addr} {H0 : Hp} {O0 O : List Addr} {σ : St} {δ : En} {s : S} {H : Hp} {i : Nat} {x : Option V} (g : Gd B r sa H0 O0 W O σ δ s H) (hd : ∀ d, δ[i]? ≠ some (some d)) : Gd B r sa H0 O0 W O (σ.set i x) δ s H := by
  have key : ∀ j d, δ[j]? = some (some d) → (σ.set i x)[j]? = σ[j]? := fun j d q => List.getElem?_set_ne (fun z => by subst z; exact hd d q)
  refine ⟨by rw [List.length_set]; exact g.len, g.row, g.r0, g.dom, g.dom0, g.sub, g.frsh, g.stp, fun j d hj q => ?_, fun j d hj q => ?_, fun j k p d e hj hk ne q1 q2 q3 q4 => ?_⟩
  · rw [key j d q]; exact g.val j d hj q
  · rw [key j d q]; exact g.own j d hj q
  · rw [key j d q1] at q3
    rw [key k e q2] at q4
    exact g.inj j k p d e hj hk ne q1 q2 q3 q4
theorem Gd.drop {r sa : Addr} {H0 : Hp} {O0 O : List Addr} {σ : St} {δ : En} {s : S} {H : Hp} {i : Nat} (g : Gd B r sa H0 O0 W O σ δ s H) : Gd B r sa H0 O0 W O σ (δ.set i none) s H := by
  have key : ∀ j d, (δ.set i none)[j]? = some (some d) → δ[j]? = some (some d) := fun j d q => by
    by_cases z : i = j
    · subst z
      rw [List.getElem?_set] at q
      split at q
      · split at q <;> cases q
      · rename_i z; exact absurd rfl z
    · rw [List.getElem?_set_ne z] at q; exact q
  exact ⟨by rw [List.length_set]; exact g.len, g.row, g.r0, g.dom, g.dom0, g.sub, g.frsh, g.stp, fun j d hj q => g.val j d hj (key j d q), fun j d hj q => g.own j d hj (key j d q), fun j k p d e hj hk ne q1 q2 q3 q4 => g.inj j k p d e hj hk ne (key j d q1) (key k e q2) q3 q4⟩
theorem set_hole {δ : En} {i : Nat} (d : D) : (δ.set i none)[i]? ≠ some (some d) := fun q => by
  rw [List.getElem?_set] at q
  split at q
  · split at q <;> cases q
  · rename_i z; exact absurd rfl z
/-- an expression of a suite that knows its error -/
def RdX (B : Bs) (W : List Nat) (i : Nat) (a : Addr) (cls : Value) (d : Option Addr) (t : TE) (f : Err → En → M D) : Prop :=
  ∀ {r sa : Addr} {H0 : Hp} {O0 O : List Addr} {σ : St} {δ : En} {s : S} {H : Hp} {e : Err}, Gd B r sa H0 O0 W O σ δ s H → σ[i]? = some (some (.ref a)) → XRep B r (hid H O) e cls d → ∀ Q : VK, (f e δ s).post (OkV B r sa H O Q) (fun _ _ => False) → t σ H Q
def RdXA (B : Bs) (W : List Nat) (i : Nat) (a : Addr) (cls : Value) (d : Option Addr) (t : TA) (f : Err → En → M (List D)) : Prop :=
  ∀ {r sa : Addr} {H0 : Hp} {O0 O : List Addr} {σ : St} {δ : En} {s : S} {H : Hp} {e : Err}, Gd B r sa H0 O0 W O σ δ s H → σ[i]? = some (some (.ref a)) → XRep B r (hid H O) e cls d → ∀ Q : List V → Hp → Prop, (f e δ s).post (OkA B r sa H O Q) (fun _ _ => False) → t σ H Q
variable {i : Nat} {a : Addr} {cls : Value} {d : Option Addr}
theorem rx_e {t : TE} {f : En → M D} (h : RdE B W none t f) : RdX B W i a cls d t (fun _ => f) := by
  intro r sa H0 O0 O σ δ s H e gd hi xr Q hp
  exact h gd Q (post_mono hp (fun _ _ z => z) (fun _ _ z => z))
def fldOf (fl : Str) (e : Err) : Option D := ((xFl e.cls).zip e.val).lookup fl
theorem lookup_zip {r : Addr} {H : Hp} {fl : Str} {y : D} : ∀ {ns : List Str} {vs : List V} {ds : List D}, Reps B r H vs ds → (ns.zip ds).lookup fl = some y → ∃ v, (ns.zip vs).lookup fl = some v ∧ Rep B r H v y
  | [], _, _, _, e => by simp at e
  | n :: ns, _, _, .nil, e => by simp at e
  | n :: ns, _, _, .cons (v := v) (d := dd) h hs, e => by
    rw [List.zip_cons_cons, List.lookup_cons] at e
    rw [List.zip_cons_cons, List.lookup_cons]
    cases q : fl == n with
    | true => rw [q] at e; cases e; exact ⟨v, rfl, h⟩
    | false => rw [q] at e; exact lookup_zip hs e
def cFld (c fl : Str) : Err → En → M D := fun e _ s => if e.cls = c then lift (fldOf fl e) s else .stuck
@[simp] theorem e_fld (c fl : Str) (e : Err) (δ : En) (s : S) : cFld c fl e δ s = if e.cls = c then lift (fldOf fl e) s else .stuck := rfl
theorem rx_fld {c fl : Str} : RdX B W i a cls d (tXf a cls d (B.xc c) fl (tVar i)) (cFld c fl) := by
  intro r sa H0 O0 O σ δ s H e gd hi xr Q hp
  rw [e_fld] at hp
  split at hp
  · rename_i he
    obtain ⟨y, ey, hp⟩ := post_lift hp
    obtain ⟨ec, xr⟩ := xr
    rcases xr with z | ⟨dx, fs, vs, h1, h2, h3, h4⟩
    · unfold fldOf at ey; rw [z] at ey; simp at ey
    · obtain ⟨v, q1, q2⟩ := lookup_zip h4 ey
      exact ⟨_, hi, rfl, by rw [ec, he], dx, fs, v, h1, hid_le _ _ h2, by rw [h3]; exact q1, hp v H (Stp.refl H) gd.row q2⟩
  · exact hp.elim
def xNil : Err → En → M (List D) := fun _ _ s => .ok [] s
def xCons (f : Err → En → M D) (g : Err → En → M (List D)) : Err → En → M (List D) := fun e δ s => (f e δ s).bind fun x s1 => (g e δ s1).bind fun xs s2 => .ok (x :: xs) s2
def xLst (g : Err → En → M (List D)) : Err → En → M D := fun e δ s => (g e δ s).bind fun ds s1 => if ds.length ≤ 100000 then .ok (.lst ds) s1 else .stuck
@[simp] theorem e_xnil (e : Err) (δ : En) (s : S) : xNil e δ s = .ok [] s := rfl
@[simp] theorem e_xcons (f : Err → En → M D) (g : Err → En → M (List D)) (e : Err) (δ : En) (s : S) : xCons f g e δ s = (f e δ s).bind fun x s1 => (g e δ s1).bind fun xs s2 => .ok (x :: xs) s2 := rfl
@[simp] theorem e_xlst (g : Err → En → M (List D)) (e : Err) (δ : En) (s : S) : xLst g e δ s = (g e δ s).bind fun ds s1 => if ds.length ≤ 100000 then .ok (.lst ds) s1 else .stuck := rfl
theorem rx_nil : RdXA B W i a cls d tNil xNil := by
  intro r sa H0 O0 O σ δ s H e gd hi xr Q hp
  exact hp [] H (Stp.refl H) gd.row .nil
theorem rx_cons {te : TE} {tr : TA} {f : Err → En → M D} {g : Err → En → M (List D)} (h : RdX B W i a cls d te f) (h' : RdXA B W i a cls d tr g) : RdXA B W i a cls d (tCons te tr) (xCons f g) := by
  intro r sa H0 O0 O σ δ s H e gd hi xr Q hp
  refine h gd hi xr _ (post_mono (post_bind hp) (fun x s1 hx v H1 st ra rp => ?_) (fun _ _ z => z))
  refine h' (gd.step st ra) hi (xr.mono (st.hid gd.rO)) _ (post_mono (post_bind hx) (fun y s2 hy w H2 st2 ra2 rp2 => ?_) (fun _ _ z => z))
  exact hy _ _ (st.trans st2) ra2 (.cons (rp.mono (st2.hid gd.rO)) rp2)
theorem rx_lst {tr : TA} {g : Err → En → M (List D)} (h : RdXA B W i a cls d tr g) : RdX B W i a cls d (tLst tr) (xLst g) := by
  intro r sa H0 O0 O σ δ s H e gd hi xr Q hp
  refine h gd hi xr _ (post_mono (post_bind hp) (fun x s1 hx v H1 st ra rp => ?_) (fun _ _ z => z))
  split at hx
  · rename_i hl
    refine ⟨Evl.sz_of (by rw [rp.length]; exact hl), fun p hp => ?_⟩
    have ⟨a1, a2⟩ := hid_new (O := O) (o := .lst v) hp (gd.step st ra).dom
    exact hx _ _ (st.trans (Stp.new hp)) (ra.new hp) (.lst a2 (rp.mono a1))
  · exact hx.elim
def cHdAs (i j : Nat) (f : Err → En → M D) : Err → En → M Fl := fun e δ s => if i < δ.length then (f e (δ.set i none) s).bind fun x s1 => .ok (.next ((δ.set i none).set j (some x))) s1 else .stuck
@[simp] theorem e_hdAs (i j : Nat) (f : Err → En → M D) (e : Err) (δ : En) (s : S) : cHdAs i j f e δ s = if i < δ.length then (f e (δ.set i none) s).bind fun x s1 => .ok (.next ((δ.set i none).set j (some x))) s1 else .stuck := rfl
theorem rh_as {i j : Nat} {te : Addr → Value → Option Addr → TE} {f : Err → En → M D} (h : ∀ a cls d, RdX B W i a cls d (te a cls d) f) (hij : decide (i ≠ j ∧ j ∉ W) = true := by decide) : RdH B W (some i) (fun a cls d => tAsg (te a cls d) (gName j)) (cHdAs i j f) := by
  intro r sa H0 O0 O σ δ s H a cls d e gd na xr D hp
  obtain ⟨nij, jW⟩ := of_decide_eq_true hij
  rw [e_hdAs] at hp
  split at hp
  · rename_i hlt
    have g1 : Gd B r sa H0 O0 W O (σ.set i (some (.ref a))) (δ.set i none) s H := (gd.drop (i := i)).hole set_hole
    refine h a cls d g1 (by rw [List.getElem?_set_self (by rw [gd.len]; exact hlt)]) xr _ (post_mono (post_bind hp) (fun x s1 hx v H1 st ra rp => ?_) (fun _ _ z => z))
    have g2 := (g1.step st ra).set (i := j) jW rp
    have g3 := g2.hole (i := i) (x := none) (fun d q => set_hole d (by rw [List.getElem?_set_ne (Ne.symm nij)] at q; exact q))
    exact hx O _ H1 g3 (st.hid gd.rO)
  · exact hp.elim
/-! ### a def picked out of some -/
end
open PySem.Spec PyProof.Rows in
/-- f(e, ..), f an expression that gives a def -/
def tPick (Tb : Addr → Sp → Prop) (E : L2.St → XK) (tf : TE) (t : TA) : TE := fun σ H Q => tf σ H fun y H1 => ∃ (f : Addr) (sp : Sp), y = .ref f ∧ Tb f sp ∧ t σ H1 fun vs H2 => sp vs H2 Q (E σ)
structure HeldX (P : Program) (w : World) (K : PySem.W.Frag) (mg : Str → Option Value) (base : Heap) (k : Nat) (f : Addr) (sp : Sp) : Prop where
  ex : ∃ (fd : FuncData) (ps : List Str), FnOk P w K mg base (L2.CX P w) k f fd ps sp ∧ PySem.W.keepIn K (.ref f) = true ∧ Binds K fd ps []
open PySem.Spec PyProof.Rows in
theorem pe_pick {X : Cx} {fe e : Expr} {es : List Expr} {pos : Pos} {tf : TE} {t : TA} {k : Nat} {Tb : Addr → Sp → Prop} {E : L2.St → XK} (hf : PE X fe tf) (A : ∀ f sp, Tb f sp → HeldX X.prog X.w X.K X.mg X.base k f sp) (hr : Room k X.A) (hx : ∀ σ, PassesAt (L2.CX X.prog X.w) X σ (E σ)) (ha : PA X (e :: es) t)
    (ht : eval (.Call fe (e :: es) [] pos) X.env = (do callWith pos (← eval fe X.env) [] (backTo pos (starEach (e :: es) X.env)) (backToKw pos (keywordEach [] X.env))) := by rfl)
    (he : starEach (e :: es) X.env = (false, eval e X.env) :: starEach es X.env := by rfl) (hpl : (backTo pos (starEach es X.env)).any (·.1) = false := by rfl) : PE X (.Call fe (e :: es) [] pos) (tPick Tb E tf t) := by
  refine ⟨fun pins s σ H Q I h => Call_ (thn (hf.run pins s σ H _ I h) fun u s1 hz => ?_) ht⟩
  obtain ⟨y, H1, I1, ry, f, sp, ey, tb, q⟩ := hz
  subst ey
  obtain rfl : u = Value.ref f := ry
  obtain ⟨fd, ps, F, hk, hb⟩ := (A f sp tb).ex
  refine PySem.W.callWith_K (h₀ := X.base) I1.ok.mod.kin hk (thn (ha.run pos pins s1 σ H1 _ I1 q) fun us s2 hz => ?_) he hpl
  obtain ⟨vs, H2, I2, r, q2⟩ := hz
  exact ⟨I2.kIn, run_fnS F hr hb (hx σ) I2 r q2⟩
section
variable {B : Bs} {W : List Nat}
abbrev FT := List (Str × (List D → M D))
def pickF (ft : FT) : D → Option (List D → M D) | .fn x => ft.lookup x | _ => none
@[simp] theorem pickF_fn (ft : FT) (x : Str) : pickF ft (.fn x) = ft.lookup x := rfl
def cPick (np : Nat) (ft : FT) (ff : En → M D) (fr : En → M (List D)) : En → M D := fun δ s => (ff δ s).bind fun d s1 => (lift (pickF ft d) s1).bind fun F s2 => (fr δ s2).bind fun ds s3 => if ds.length = np then F ds s3 else .stuck
@[simp] theorem e_pick (np : Nat) (ft : FT) (ff : En → M D) (fr : En → M (List D)) (δ : En) (s : S) : cPick np ft ff fr δ s = (ff δ s).bind fun d s1 => (lift (pickF ft d) s1).bind fun F s2 => (fr δ s2).bind fun ds s3 => if ds.length = np then F ds s3 else .stuck := rfl
def tabX (B : Bs) (np : Nat) (ft : FT) : Addr → Sp → Prop := fun a sp => ∃ x F, ft.lookup x = some F ∧ a = B.xc x ∧ sp = spX B np F
theorem rd_pick {np : Nat} {ft : FT} {tf : TE} {tr : TA} {ff : En → M D} {fr : En → M (List D)} {E : XK} (hf : RdE B W (some E) tf ff) (ha : RdA B W (some E) tr fr) : RdE B W (some E) (tPick (tabX B np ft) (fun _ => E) tf tr) (cPick np ft ff fr) := by
  intro r sa H0 O0 O σ δ s H gd Q h
  refine hf gd _ (post_mono (post_bind h) (fun d s1 hx v H1 st ra rp => ?_) (fun _ _ z => z))
  obtain ⟨F, e, hz⟩ := post_lift (post_bind hx)
  clear hx
  cases d with
  | fn x =>
    cases rp
    refine ⟨_, _, rfl, ⟨x, F, e, rfl, rfl⟩, ha (gd.step st ra) _ (post_mono (post_bind hz) (fun ds s2 hy w H2 st2 ra2 rp2 => ?_) (fun _ _ z => EPost.mono st z))⟩
    split at hy
    · rename_i hl
      have st12 := st.trans st2
      exact ⟨by rw [rp2.length]; exact hl, r, sa, O, ds, s2, ra2, gd.rO, (gd.step st12 ra2).dom, rp2, post_mono hy (fun d s3 q w' H3 st3 ra3 rp3 => q w' H3 (st12.trans st3) ra3 rp3) (fun _ _ z => z.mono st12)⟩
    · exact hy.elim
  | _ => cases e
/-- the table holds -/
theorem tabX_nil {P : Program} {w : World} {mg : Str → Option Value} {base : Heap} {k np : Nat} : ∀ f sp, tabX B np [] f sp → HeldX P w B.K mg base k f sp := fun _ _ ⟨x, F, e, _⟩ => by cases e
theorem tabX_cons {P : Program} {w : World} {mg : Str → Option Value} {base : Heap} {j k np : Nat} {x : Str} {F : List D → M D} {ft : FT} {f : Addr} {fd : FuncData} {ps : List Str} (G : FnOk P w B.K mg base (L2.CX P w) j f fd ps (spX B np F)) (hj : j ≤ k) (hk : PySem.W.keepIn B.K (.ref f) = true) (hb : Binds B.K fd ps []) (hf : f = B.xc x)
    (hr : ∀ f sp, tabX B np ft f sp → HeldX P w B.K mg base k f sp) : ∀ f sp, tabX B np ((x, F) :: ft) f sp → HeldX P w B.K mg base k f sp := fun g sp ⟨y, F', e, ea, es⟩ => by
  rw [List.lookup_cons] at e
  cases q : y == x with
  | true =>
    rw [q] at e
    cases e
    have : y = x := by simpa using q
    subst this
    subst es ea
    rw [← hf]
    exact ⟨fd, ps, G.mono hj, hk, hb⟩
  | false =>
    rw [q] at e
    exact hr g sp ⟨y, F', e, ea, es⟩
end
end PV

namespace PV
open PySem L2
theorem ca_nil {P : Str → Prop} : ∀ c ∈ ([] : List Str), P c := fun _ h => by cases h
theorem ca_cons {P : Str → Prop} {x : Str} {l : List Str} (h : P x) (r : ∀ c ∈ l, P c) : ∀ c ∈ x :: l, P c := fun c hc => (List.mem_cons.mp hc).elim (fun e => by rw [e]; exact h) (r c)
/-- a map of names -/
theorem xc_ex : ∀ l : List (Str × Addr), (l.map (·.1)).Nodup → ∃ xc : Str → Addr, ∀ p ∈ l, xc p.1 = p.2
  | [], _ => ⟨fun _ => 0, fun _ h => by cases h⟩
  | (n, a) :: l, h => by
    obtain ⟨h1, h2⟩ := List.nodup_cons.mp h
    obtain ⟨xc, q⟩ := xc_ex l h2
    refine ⟨fun x => if x = n then a else xc x, fun p hp => ?_⟩
    rcases List.mem_cons.mp hp with e | e
    · subst e; simp
    · have : p.1 ≠ n := fun z => h1 (z ▸ List.mem_map.mpr ⟨p, e, rfl⟩)
      show (if p.1 = n then a else xc p.1) = p.2
      rw [if_neg this]; exact q p e
/-! ### facts of the error classes -/
structure XcF (B : Bs) (mg : Str → Option Value) (x q : Str) (st : Stmt) (ps : List Str) where
  f : Addr
  d : FuncData
  F : Fun B.K "__init__" q st f d
  m : mg x = some (.ref (B.xc x))
  o : OexC B.K (B.xc x)
  i : PySem.W.findIn B.K (.ref (B.xc x)) "__init__" = some (some (.ref f))
  t : PySem.W.typeIn B.K (.ref f) = some (.type "function")
  b : Binds B.K d ps []
structure FeF (B : Bs) (mg : Str → Option Value) : Prop where
  m : mg "FloorError" = some (.ref (B.xc "FloorError"))
  sp : PySem.W.specialIn B.K (.ref (B.xc "FloorError")) "__getattribute__" = some (some (.builtin "type.__getattribute__"))
  ty : PySem.W.typeIn B.K (.ref (B.xc "FloorError")) = some (.type "type")
  rd : PySem.W.readsIn B.K (B.xc "FloorError") (.type "type") = true
  fc : PySem.W.findCls B.K (.ref (B.xc "FloorError")) (.type "type") "__init__" = some (.val (.builtin "ValueError.__init__"))
theorem exm_pair {K : PySem.W.Frag} {x c : Addr} {b : Bool} (h1 : PySem.W.subIn K (.ref c) (.type "BaseException") = some true) (h2 : PySem.W.isClsIn K c = true) (h3 : PySem.W.typeIn K (.ref c) = some (.type "type")) (h4 : PySem.W.subIn K (.ref x) (.ref c) = some b) :
    PySem.W.exmOne K (.ref x) (.ref c) = some b := by
  have e1 : (PySem.W.subIn K (.ref c) (.type "BaseException") == some true) = true := by rw [h1] <;> rfl
  have h2' : (PySem.W.clsIn K c).isSome = true := h2
  have e2 : ((PySem.W.clsIn K c).isSome && PySem.W.typeIn K (.ref c) == some (.type "type")) = true := by rw [h2', h3] <;> rfl
  show (if (PySem.W.subIn K (.ref c) (.type "BaseException") == some true) = true then (if ((PySem.W.clsIn K c).isSome && PySem.W.typeIn K (.ref c) == some (.type "type")) = true then PySem.W.subIn K (.ref x) (.ref c) else none) else none) = some b
  rw [if_pos e1, if_pos e2]; exact h4
/-- a table of classes -/
theorem ExmF.nil {B : Bs} {CS : List Str} : ExmF B [] CS := ⟨fun x hx => by cases hx⟩
theorem ExmF.row {B : Bs} {x : Str} {XS CS : List Str} (h : ∀ c ∈ CS, PySem.W.exmOne B.K (.ref (B.xc x)) (.ref (B.xc c)) = some (isA x c)) (r : ExmF B XS CS) : ExmF B (x :: XS) CS := ⟨fun y hy c hc => by
  rcases List.mem_cons.mp hy with e | e
  · subst e; exact h c hc
  · exact r.ex y e c hc⟩
section
variable {B : Bs} {W : List Nat} {E : Option XK}
theorem rs_tryC {XS CS : List Str} {l : List Hd1} {hl : HL} {np : Nat} {F : List D → M D} {tr : TA} {fr : En → M (List D)} (X : ExmF B XS CS) (ha : ∀ E : XK, RdA B W (some E) tr fr) (hh : RdHs B W CS l hl) :
    RdS B W none (fun D σ H => tDrop (tCallS (spX B np F) (WE (wMix B.K (fun _ _ _ _ => False) D l)) tr) D σ H) (cTry XS (cCall np F fr) hl) :=
  rs_try (te := fun E => tCallS (spX B np F) (fun _ => E) tr) (tE := fun Wx => tCallS (spX B np F) Wx tr) X (fun _ _ _ _ h => h) (fun E => rd_callS (ha E)) hh
theorem rs_tryP {XS CS : List Str} {l : List Hd1} {hl : HL} {np : Nat} {ft : FT} {tf : TE} {ff : En → M D} {tr : TA} {fr : En → M (List D)} (X : ExmF B XS CS) (hf : ∀ E : XK, RdE B W (some E) tf ff) (ha : ∀ E : XK, RdA B W (some E) tr fr) (hh : RdHs B W CS l hl) :
    RdS B W none (fun D σ H => tDrop (tPick (tabX B np ft) (WE (wMix B.K (fun _ _ _ _ => False) D l)) tf tr) D σ H) (cTry XS (cPick np ft ff fr) hl) :=
  rs_try (te := fun E => tPick (tabX B np ft) (fun _ => E) tf tr) (tE := fun Wx => tPick (tabX B np ft) Wx tf tr) X (fun _ _ _ _ h => h) (fun E => rd_pick (hf E) (ha E)) hh
/-! ### {} -/
def cDic0 : En → M D := fun _ s => .ok (.dic [] []) s
@[simp] theorem e_dic0 (δ : En) (s : S) : cDic0 δ s = .ok (.dic [] []) s := rfl
theorem rd_dic0 : RdE B W E tDNewK cDic0 := by
  intro r sa H0 O0 O σ δ s H gd Q h p hp
  have ⟨a1, a2⟩ := hid_new (O := O) (o := .dK []) hp gd.dom
  exact h _ _ (Stp.new hp) (gd.row.new hp) (.dic a2 rfl rfl .nil)
/-! ### list(range(..)), tuple(range(..)) -/
def gLR1 : List D → Option D | [.int j] => if -(2 ^ 62) ≤ j ∧ j < 2 ^ 62 ∧ j.toNat ≤ 100000 then some (.lst (upto 0 j.toNat)) else none | _ => none
def gTR1 : List D → Option D | [.int j] => if -(2 ^ 62) ≤ j ∧ j < 2 ^ 62 ∧ j.toNat ≤ 100000 then some (.tup (upto 0 j.toNat)) else none | _ => none
def gTR2 : List D → Option D | [.int i, .int j] => if -(2 ^ 62) ≤ i ∧ i < 2 ^ 62 ∧ -(2 ^ 62) ≤ j ∧ j < 2 ^ 62 ∧ (j - i).toNat ≤ 100000 then some (.tup (upto i (j - i).toNat)) else none | _ => none
theorem rg_reps {r : Addr} {H : Hp} (a b : Int) : Reps B r H (rgV a b) (upto a (b - a).toNat) := by
  unfold rgV upto
  generalize (b - a).toNat = n
  have key : ∀ l : List Nat, Reps B r H (l.map fun (i : Nat) => V.int (a + (i : Int))) (l.map fun (i : Nat) => D.int (a + (i : Int))) := by
    intro l
    induction l with
    | nil => exact .nil
    | cons i l ih => exact .cons (.int _) ih
  exact key _
theorem rd_lr1 {te : TE} {f : En → M D} (ha : RdE B W E te f) : RdE B W E (tLstRg (tRg1 te)) (cB gLR1 (cCons f cNil)) := by
  intro r sa H0 O0 O σ δ s H gd Q h
  refine ha gd _ (post_mono (post_bind (post_bind h)) (fun x s1 hx v H1 st ra rp => ?_) (fun _ _ z => z))
  obtain ⟨d, e, hd⟩ := post_lift hx
  unfold gLR1 at e
  split at e
  · rename_i j hz
    cases hz
    cases rp
    split at e
    · rename_i hj
      cases e
      refine ⟨_, rfl, ⟨by decide, by decide, hj.1, hj.2.1, by have := hj.2.2; simp; omega⟩, fun p hp => ?_⟩
      have := new_lst (B := B) (r := r) (O := O) hp (gd.step st ra).dom (rg_reps 0 j)
      rw [Int.sub_zero] at this
      exact hd _ _ (st.trans (Stp.new hp)) (ra.new hp) this
    · cases e
  · cases e
theorem rd_tr1 {te : TE} {f : En → M D} (ha : RdE B W E te f) : RdE B W E (tTupRg (tRg1 te)) (cB gTR1 (cCons f cNil)) := by
  intro r sa H0 O0 O σ δ s H gd Q h
  refine ha gd _ (post_mono (post_bind (post_bind h)) (fun x s1 hx v H1 st ra rp => ?_) (fun _ _ z => z))
  obtain ⟨d, e, hd⟩ := post_lift hx
  unfold gTR1 at e
  split at e
  · rename_i j hz
    cases hz
    cases rp
    split at e
    · rename_i hj
      cases e
      refine ⟨_, rfl, ⟨by decide, by decide, hj.1, hj.2.1, by have := hj.2.2; simp; omega⟩, fun p hp => ?_⟩
      have := new_tup (B := B) (r := r) (O := O) hp (gd.step st ra).dom (rg_reps 0 j)
      rw [Int.sub_zero] at this
      exact hd _ _ (st.trans (Stp.new hp)) (ra.new hp) this
    · cases e
  · cases e
end
/-! ### isinstance, by kinds -/
@[simp] theorem isi_int_non  : gIsi "int" .non = some (.bl false) := by rfl
@[simp] theorem isi_int_bl (b : Bool) : gIsi "int" (.bl b) = some (.bl true) := by rfl
@[simp] theorem isi_int_int (i : Int) : gIsi "int" (.int i) = some (.bl true) := by rfl
@[simp] theorem isi_int_str (x : Str) : gIsi "int" (.str x) = some (.bl false) := by rfl
@[simp] theorem isi_int_tup (l : List D) : gIsi "int" (.tup l) = some (.bl false) := by rfl
@[simp] theorem isi_int_lst (l : List D) : gIsi "int" (.lst l) = some (.bl false) := by rfl
@[simp] theorem isi_int_dic (k : List Str) (l : List D) : gIsi "int" (.dic k l) = some (.bl false) := by rfl
@[simp] theorem isi_bool_non  : gIsi "bool" .non = some (.bl false) := by rfl
@[simp] theorem isi_bool_bl (b : Bool) : gIsi "bool" (.bl b) = some (.bl true) := by rfl
@[simp] theorem isi_bool_int (i : Int) : gIsi "bool" (.int i) = some (.bl false) := by rfl
@[simp] theorem isi_bool_str (x : Str) : gIsi "bool" (.str x) = some (.bl false) := by rfl
@[simp] theorem isi_bool_tup (l : List D) : gIsi "bool" (.tup l) = some (.bl false) := by rfl
@[simp] theorem isi_bool_lst (l : List D) : gIsi "bool" (.lst l) = some (.bl false) := by rfl
@[simp] theorem isi_bool_dic (k : List Str) (l : List D) : gIsi "bool" (.dic k l) = some (.bl false) := by rfl
@[simp] theorem isi_tuple_non  : gIsi "tuple" .non = some (.bl false) := by rfl
@[simp] theorem isi_tuple_bl (b : Bool) : gIsi "tuple" (.bl b) = some (.bl false) := by rfl
@[simp] theorem isi_tuple_int (i : Int) : gIsi "tuple" (.int i) = some (.bl false) := by rfl
@[simp] theorem isi_tuple_str (x : Str) : gIsi "tuple" (.str x) = some (.bl false) := by rfl
@[simp] theorem isi_tuple_tup (l : List D) : gIsi "tuple" (.tup l) = some (.bl true) := by rfl
@[simp] theorem isi_tuple_lst (l : List D) : gIsi "tuple" (.lst l) = some (.bl false) := by rfl
@[simp] theorem isi_tuple_dic (k : List Str) (l : List D) : gIsi "tuple" (.dic k l) = some (.bl false) := by rfl
@[simp] theorem isi_list_non  : gIsi "list" .non = some (.bl false) := by rfl
@[simp] theorem isi_list_bl (b : Bool) : gIsi "list" (.bl b) = some (.bl false) := by rfl
@[simp] theorem isi_list_int (i : Int) : gIsi "list" (.int i) = some (.bl false) := by rfl
@[simp] theorem isi_list_str (x : Str) : gIsi "list" (.str x) = some (.bl false) := by rfl
@[simp] theorem isi_list_tup (l : List D) : gIsi "list" (.tup l) = some (.bl false) := by rfl
@[simp] theorem isi_list_lst (l : List D) : gIsi "list" (.lst l) = some (.bl true) := by rfl
@[simp] theorem isi_list_dic (k : List Str) (l : List D) : gIsi "list" (.dic k l) = some (.bl false) := by rfl
@[simp] theorem isi_str_non  : gIsi "str" .non = some (.bl false) := by rfl
@[simp] theorem isi_str_bl (b : Bool) : gIsi "str" (.bl b) = some (.bl false) := by rfl
@[simp] theorem isi_str_int (i : Int) : gIsi "str" (.int i) = some (.bl false) := by rfl
@[simp] theorem isi_str_str (x : Str) : gIsi "str" (.str x) = some (.bl true) := by rfl
@[simp] theorem isi_str_tup (l : List D) : gIsi "str" (.tup l) = some (.bl false) := by rfl
@[simp] theorem isi_str_lst (l : List D) : gIsi "str" (.lst l) = some (.bl false) := by rfl
@[simp] theorem isi_str_dic (k : List Str) (l : List D) : gIsi "str" (.dic k l) = some (.bl false) := by rfl
end PV

namespace PV
open PySem L2
/-! ### Sale(..) that may be refused -/
section
variable {B : Bs} {W : List Nat}
def spInitX (B : Bs) (F : Addr → List D → M D) : Sp := fun vs H Q E => ∃ (x : Addr) (vs' : List V), vs = .ref x :: vs' ∧ vs'.length = 2 ∧ ∃ (r sa : Addr) (O : List Addr) (ds : List D) (s : S) (dx : Addr), H x = some (.ins B.cs dx []) ∧ x ∉ O ∧ RowAt B r sa H s ∧ r ∈ O ∧ (∀ p ∈ O, H p ≠ none) ∧ Reps B r (hid H (x :: O)) vs' ds ∧
  (F x ds s).post (fun d s' => ∀ H', (∀ a o, a ≠ r → a ≠ x → H a = some o → H' a = some o) → RowAt B r sa H' s' → Rep B r (hid H' O) (.ref x) d → Q .non H') (EPost B (some E) r sa H (x :: O))
theorem init_okX {P : Program} {w : World} {mg : Str → Option Value} {base : Heap} {x qual : Str} {st : Stmt} {f : Addr} {fd : FuncData} {N ps : List Str} {k : Nat} {b1 b2 b3 : En → M Fl} (F : Fun B.K x qual st f fd) (Sc : FnScope N ps (defScope st)) (hN : 3 ≤ N.length) (hps : ps.length = 3) (SF : SaleF B) (hW : W = [])
    (hb : ∀ (cdv : Value) (A : Around) (outer : List Env) (s : Shared) (H : Hp) (E : XK), Room k (A.deeper (PyProof.Rows.envOfC qual (defScope st) s.heap.objs.size f cdv)) →
      ∃ t1 t2 t3, PSs (cxOf (L2.CX P w) P w B.K mg base N qual (defScope st) f cdv A outer s H E) (defBody st) (tSeq t1 (tSeq t2 (tSeq t3 (tSeq (sFld B.K (tVar 0) (tVar 1) "crowd") (sFld B.K (tVar 0) (tVar 2) "stock"))))) ∧ RdS B W (some E) t1 b1 ∧ RdS B W (some E) t2 b2 ∧ RdS B W (some E) t3 b3) :
    FnOk P w B.K mg base (L2.CX P w) (k + 1) f fd ps (spInitX B (saleX N.length (cSeq b1 (cSeq b2 b3)))) := by
  refine F.okX Sc (fun vs H Q E h => ?_) (fun cdv A outer s H vs Q E hr h => ?_)
  · obtain ⟨a, vs', rfl, hl, _⟩ := h; simp [hl, hps]
  obtain ⟨t1, t2, t3, hP, h1, h2, h3⟩ := hb cdv A outer s H E hr
  obtain ⟨a, vs', rfl, hl, r, sa, O, ds, s0, dx, hx, nO, ra, hrO, hdom, rp, hp⟩ := h
  refine ⟨_, hP, ?_⟩
  have hR : RdS B W (some E) (tSeq t1 (tSeq t2 t3)) (cSeq b1 (cSeq b2 b3)) := rs_seq h1 (rs_seq h2 h3)
  have nar : a ≠ r := fun z => nO (z ▸ hrO)
  have hds : ds.length = 2 := by rw [← rp.length]; exact hl
  subst hW
  have gd : Gd B r sa H (a :: O) [] (a :: O) (L2.start N (.ref a :: vs')) (startD N.length (.obj a :: ds)) s0 H := by
    refine ⟨?_, ra, List.mem_cons_of_mem _ hrO, fun p hp => ?_, fun p hp => ?_, fun _ h => h, fun _ h => .inl h, Stp.refl H, fun i d hi q => ?_, fun i d hi q => (by cases hi), fun i j p d e hi hj ne q => (by cases hi)⟩
    · unfold L2.start startD; simp [rp.length]
    · rcases List.mem_cons.mp hp with z | z
      · rw [z, hx]; exact fun z => nomatch z
      · exact hdom p z
    · rcases List.mem_cons.mp hp with z | z
      · rw [z, hx]; exact fun z => nomatch z
      · exact hdom p z
    · obtain ⟨v, h1, h2⟩ := (Reps.cons (Rep.obj a) rp).get i d (startD_some q)
      refine ⟨v, ?_, h2⟩
      rw [start_get, if_pos (List.getElem?_eq_some_iff.mp h1).1, h1]; rfl
  show (tSeq t1 (tSeq t2 t3)) { nx := fun σ' H' => (tSeq (sFld B.K (tVar 0) (tVar 1) "crowd") (sFld B.K (tVar 0) (tVar 2) "stock")) { nx := fun _ H' => Q .non H', rt := Q } σ' H', rt := Q } _ H
  refine hR gd _ ?_
  have e : saleX N.length (cSeq b1 (cSeq b2 b3)) a ds s0 = (cSeq b1 (cSeq b2 b3) (startD N.length (.obj a :: ds)) s0).bind (saleE a) := by unfold saleX; rw [if_pos hds]
  rw [e] at hp
  refine post_mono (post_bind hp) (fun fl s1 hq => ?_) (fun _ _ z => z)
  cases fl with
  | ret d => exact hq.elim
  | brk d => exact hq.elim
  | cont d => exact hq.elim
  | next δ' =>
    intro O' σ' H' g' sm
    obtain ⟨_, e0, hq⟩ := post_lift (post_bind hq)
    obtain ⟨c, e1, hq⟩ := post_lift (post_bind hq)
    obtain ⟨n, e2, hq⟩ := post_lift (post_bind hq)
    obtain ⟨d0, e00, e01⟩ := Option.bind_eq_some_iff.mp e0
    have hd0 : d0 = .obj a := by
      unfold isOb at e01
      split at e01
      · split at e01
        · rename_i z; rw [z]
        · cases e01
      · cases e01
    subst hd0
    obtain ⟨v0, s00, r0⟩ := g'.val 0 _ (by simp) (join_some e00)
    obtain ⟨v1, s01, r1⟩ := g'.val 1 _ (by simp) (join_some e1)
    obtain ⟨v2, s02, r2⟩ := g'.val 2 _ (by simp) (join_some e2)
    cases r0
    have hx' : H' a = some (.ins B.cs dx []) := g'.stp a _ nar hx
    refine ⟨v1, s01, _, s00, a, B.cs, dx, [], rfl, hx', SF.cl, SF.nc, by decide, ?_⟩
    refine ⟨v2, s02, _, s00, a, B.cs, dx, _, rfl, upd_same, SF.cl, SF.ns, (by show 1 < 1000; decide), ?_⟩
    have aO : a ∈ O' := g'.sub a List.mem_cons_self
    have sm2 : ∀ u u', Same (hid H' O') (hid (upd (upd H' a u) a u') O) := fun u u' b o e => by
      have ⟨h1, h2⟩ := hid_some e
      have nb : b ≠ a := fun z => h1 (z ▸ aO)
      rw [hid_out (fun z => h1 (g'.sub b (List.mem_cons_of_mem _ z))), upd_ne nb, upd_ne nb]; exact h2
    refine hq _ (fun b o n1 n2 e => ?_) ⟨?_, ?_⟩ (.sal (dx := dx) (by rw [hid_out nO, upd_same]; rfl) (r1.mono (sm2 _ _)) (r2.mono (sm2 _ _)))
    · rw [upd_ne n2, upd_ne n2]; exact g'.stp b o n1 e
    · rw [upd_ne (Ne.symm nar), upd_ne (Ne.symm nar)]; exact g'.row.1
    · exact g'.row.2.elim (fun ⟨o, q⟩ => .inl ⟨o, by rw [upd_ne (ne_of q hx' (fun z => nomatch z)), upd_ne (ne_of q hx' (fun z => nomatch z))]; exact q⟩) .inr
theorem rd_makeS {F : Addr → List D → M D} {tr : TA} {fr : En → M (List D)} {E : XK} (hx : ∀ x ds s, F x ds s = F 0 ds s) (ha : RdA B W (some E) tr fr) : RdE B W (some E) (tMake B.cs (spInitX B F) [] E tr) (cCall 2 (F 0) fr) := by
  intro r sa H0 O0 O σ δ s H gd Q h
  refine ha gd _ (post_mono (post_bind h) (fun ds s1 hd v H1 st ra rp => ?_) (fun _ _ z => z))
  split at hd
  · rename_i hl
    intro x dx nx ndx ne
    have gd1 := gd.step st ra
    have xO : x ∉ O := fun z => gd1.dom x z nx
    have hnew : ∀ a o, H1 a = some o → upd (upd H1 dx (.own x)) x (.ins B.cs dx []) a = some o := fun a o e => by
      rw [upd_ne (ne_of_none e nx), upd_ne (ne_of_none e ndx)]; exact e
    rw [List.append_nil]
    refine ⟨x, v, rfl, by rw [rp.length]; exact hl, r, sa, O, ds, s1, dx, upd_same, xO, ra.same hnew, gd.rO, fun p hp => ?_, rp.mono fun a o e => ?_, ?_⟩
    · cases q : H1 p with
      | none => exact absurd q (gd1.dom p hp)
      | some o => rw [hnew p o q]; exact fun z => nomatch z
    · have ⟨h1, h2⟩ := hid_some e
      have na : a ≠ x := ne_of_none h2 nx
      rw [hid_out (by simp [na, h1])]; exact hnew a o h2
    · rw [hx]
      refine post_mono hd (fun d s2 q H' k ra' rp' => ⟨rfl, q _ H' (fun a o na e => ?_) ra' rp'⟩) (fun e s2 z cl d H' st' ra' xr => z cl d H' (fun a o na e => ?_) ra' (xr.mono (hid_sub fun a h => List.mem_cons_of_mem _ h)))
      · have e1 := st a o na e
        exact k a o na (ne_of_none e1 nx) (hnew a o e1)
      · exact st' a o na (hnew a o (st a o na e))
  · exact hd.elim
theorem rd_makeX {F : Addr → List D → M D} {tr : TA} {fr : En → M (List D)} (hx : ∀ x ds s, F x ds s = F 0 ds s) (ha : RdA B W none tr fr) : RdE B W none (tMake B.cs (spInitX B F) [] E0 tr) (cCall 2 (F 0) fr) := by
  intro r sa H0 O0 O σ δ s H gd Q h
  have ha' : RdA B W (some E0) tr (cQ fr) := ra_q ha
  refine rd_makeS (E := E0) hx ha' gd Q ?_
  show ((cCall 2 (F 0) (cQ fr)) δ s).post _ _
  have h : ((fr δ s).bind fun ds s1 => if ds.length = 2 then F 0 ds s1 else .stuck).post (OkV B r sa H O Q) (fun _ _ => False) := h
  show ((quiet (fr δ s)).bind fun ds s1 => if ds.length = 2 then F 0 ds s1 else .stuck).post _ _
  cases q : fr δ s with
  | stuck => rw [q] at h; exact h
  | err e s1 => rw [q] at h; exact h.elim
  | ok ds s1 => rw [q] at h; exact post_mono h (fun _ _ z => z) (fun _ _ z => z.elim)
end
/-! ### where self stands tells nothing -/
def Blind {α : Type} (f : En → M α) : Prop := ∀ (a b : Option D) (δ : En) (s : S), f (a :: δ) s = f (b :: δ) s
def R0 (x y : Addr) (o o' : Out Fl) : Prop := (∃ δ s, o = .ok (.next (some (.obj x) :: δ)) s ∧ o' = .ok (.next (some (.obj y) :: δ)) s) ∨ (o = .stuck ∧ o' = .stuck) ∨ ∃ e s, o = .err e s ∧ o' = .err e s
def Ins0 (F : En → M Fl) : Prop := ∀ (x y : Addr) (δ : En) (s : S), R0 x y (F (some (.obj x) :: δ) s) (F (some (.obj y) :: δ) s)
def TgB (tg : D → En → Option En) : Prop := ∀ (d : D) (a b : Option D) (δ : En), (tg d (a :: δ) = none ∧ tg d (b :: δ) = none) ∨ ∃ δ', tg d (a :: δ) = some (a :: δ') ∧ tg d (b :: δ) = some (b :: δ')
def TgBs (tg : List D → En → Option En) : Prop := ∀ (d : List D) (a b : Option D) (δ : En), (tg d (a :: δ) = none ∧ tg d (b :: δ) = none) ∨ ∃ δ', tg d (a :: δ) = some (a :: δ') ∧ tg d (b :: δ) = some (b :: δ')
theorem tgb_name {i : Nat} : TgB (tgName (i + 1)) := fun d a b δ => .inr ⟨δ.set i (some d), rfl, rfl⟩
theorem tgb_nil : TgBs tgNil := fun d a b δ => by cases d with | nil => exact .inr ⟨δ, rfl, rfl⟩ | cons _ _ => exact .inl ⟨rfl, rfl⟩
theorem tgb_cons {t : D → En → Option En} {u : List D → En → Option En} (h : TgB t) (hs : TgBs u) : TgBs (tgCons t u) := fun d a b δ => by
  cases d with
  | nil => exact .inl ⟨rfl, rfl⟩
  | cons x xs =>
    show (((t x (a :: δ)).bind fun δ' => u xs δ') = none ∧ ((t x (b :: δ)).bind fun δ' => u xs δ') = none) ∨ ∃ δ', ((t x (a :: δ)).bind fun δ' => u xs δ') = some (a :: δ') ∧ ((t x (b :: δ)).bind fun δ' => u xs δ') = some (b :: δ')
    rcases h x a b δ with ⟨h1, h2⟩ | ⟨δ', h1, h2⟩
    · rw [h1, h2]; exact .inl ⟨rfl, rfl⟩
    · rw [h1, h2]; exact hs xs a b δ'
theorem tgb_tup {n : Nat} {u : List D → En → Option En} (hs : TgBs u) : TgB (tgTup n u) := fun d a b δ => by
  unfold tgTup
  cases d with
  | tup l =>
    dsimp only
    split
    · exact hs l a b δ
    · exact .inl ⟨rfl, rfl⟩
  | lst l =>
    dsimp only
    split
    · exact hs l a b δ
    · exact .inl ⟨rfl, rfl⟩
  | _ => exact .inl ⟨rfl, rfl⟩
theorem ins_next : Ins0 cNext := fun x y δ s => .inl ⟨δ, s, rfl, rfl⟩
theorem ins_stuck : Ins0 cStuck := fun x y δ s => .inr (.inl ⟨rfl, rfl⟩)
theorem ins_q {F : En → M Fl} (h : Ins0 F) : Ins0 (cQ F) := fun x y δ s => by
  show R0 x y (quiet (F (some (.obj x) :: δ) s)) (quiet (F (some (.obj y) :: δ) s))
  rcases h x y δ s with ⟨δ', s', h1, h2⟩ | ⟨h1, h2⟩ | ⟨e, s', h1, h2⟩
  · rw [h1, h2]; exact .inl ⟨δ', s', rfl, rfl⟩
  · rw [h1, h2]; exact .inr (.inl ⟨rfl, rfl⟩)
  · rw [h1, h2]; exact .inr (.inl ⟨rfl, rfl⟩)
theorem ins_raise {c : Str} {fr : En → M (List D)} (h : Blind fr) : Ins0 (cRaise c fr) := fun x y δ s => by
  show R0 x y ((fr (some (.obj x) :: δ) s).bind fun ds s1 => .err ⟨c, ds.reverse⟩ s1) ((fr (some (.obj y) :: δ) s).bind fun ds s1 => .err ⟨c, ds.reverse⟩ s1)
  rw [h (some (.obj x)) (some (.obj y)) δ s]
  cases fr (some (.obj y) :: δ) s with
  | stuck => exact .inr (.inl ⟨rfl, rfl⟩)
  | ok a s1 => exact .inr (.inr ⟨_, _, rfl, rfl⟩)
  | err e s1 => exact .inr (.inr ⟨_, _, rfl, rfl⟩)
theorem ins_ite {c : En → M Bool} {F G : En → M Fl} (hc : Blind c) (h1 : Ins0 F) (h2 : Ins0 G) : Ins0 (cIte c F G) := fun x y δ s => by
  show R0 x y ((c (some (.obj x) :: δ) s).bind fun b s1 => if b then F (some (.obj x) :: δ) s1 else G (some (.obj x) :: δ) s1) ((c (some (.obj y) :: δ) s).bind fun b s1 => if b then F (some (.obj y) :: δ) s1 else G (some (.obj y) :: δ) s1)
  rw [hc (some (.obj x)) (some (.obj y)) δ s]
  cases c (some (.obj y) :: δ) s with
  | stuck => exact .inr (.inl ⟨rfl, rfl⟩)
  | err e s1 => exact .inr (.inr ⟨_, _, rfl, rfl⟩)
  | ok b s1 =>
    cases b with
    | true => exact h1 x y δ s1
    | false => exact h2 x y δ s1
theorem ins_seq {F G : En → M Fl} (h1 : Ins0 F) (h2 : Ins0 G) : Ins0 (cSeq F G) := fun x y δ s => by
  unfold cSeq
  rcases h1 x y δ s with ⟨δ', s', e1, e2⟩ | ⟨e1, e2⟩ | ⟨e, s', e1, e2⟩
  · rw [e1, e2]; exact h2 x y δ' s'
  · rw [e1, e2]; exact .inr (.inl ⟨rfl, rfl⟩)
  · rw [e1, e2]; exact .inr (.inr ⟨e, s', rfl, rfl⟩)
theorem ins_forL {tg : D → En → Option En} {F : En → M Fl} (ht : TgB tg) (h : Ins0 F) (x y : Addr) : ∀ (ds : List D) (δ : En) (s : S), R0 x y (forL tg F ds (some (.obj x) :: δ) s) (forL tg F ds (some (.obj y) :: δ) s)
  | [], δ, s => .inl ⟨δ, s, rfl, rfl⟩
  | d :: ds, δ, s => by
    unfold forL
    rcases ht d (some (.obj x)) (some (.obj y)) δ with ⟨h1, h2⟩ | ⟨δ', h1, h2⟩
    · rw [h1, h2]; exact .inr (.inl ⟨rfl, rfl⟩)
    · rw [h1, h2, lift_some, bind_ok, lift_some, bind_ok]
      rcases h x y δ' s with ⟨δ2, s', e1, e2⟩ | ⟨e1, e2⟩ | ⟨e, s', e1, e2⟩
      · rw [e1, e2, bind_ok, bind_ok]; exact ins_forL ht h x y ds δ2 s'
      · rw [e1, e2]; exact .inr (.inl ⟨rfl, rfl⟩)
      · rw [e1, e2]; exact .inr (.inr ⟨e, s', rfl, rfl⟩)
theorem ins_for {src : En → M (List D)} {tg : D → En → Option En} {F : En → M Fl} (hs : Blind src) (ht : TgB tg) (h : Ins0 F) : Ins0 (cFor src tg F) := fun x y δ s => by
  show R0 x y ((src (some (.obj x) :: δ) s).bind fun ds s1 => forL tg F ds (some (.obj x) :: δ) s1) ((src (some (.obj y) :: δ) s).bind fun ds s1 => forL tg F ds (some (.obj y) :: δ) s1)
  rw [hs (some (.obj x)) (some (.obj y)) δ s]
  cases src (some (.obj y) :: δ) s with
  | stuck => exact .inr (.inl ⟨rfl, rfl⟩)
  | err e s1 => exact .inr (.inr ⟨_, _, rfl, rfl⟩)
  | ok ds s1 => exact ins_forL ht h x y ds δ s1
theorem sale_hx {n : Nat} {body : En → M Fl} (h : Ins0 body) (x : Addr) (ds : List D) (s : S) : saleX n body x ds s = saleX n body 0 ds s := by
  unfold saleX
  split
  · have e : ∀ z : Addr, startD n (.obj z :: ds) = some (.obj z) :: (ds.map some ++ List.replicate (n - (ds.length + 1)) none) := fun z => rfl
    rw [e, e]
    rcases h x 0 (ds.map some ++ List.replicate (n - (ds.length + 1)) none) s with ⟨δ', s', e1, e2⟩ | ⟨e1, e2⟩ | ⟨e, s', e1, e2⟩
    · rw [e1, e2, bind_ok, bind_ok]
      unfold saleE
      simp [isOb]
    · rw [e1, e2]; rfl
    · rw [e1, e2]; rfl
  · rfl
/-! ### an owned list is let go -/
def cEnd (F : En → M Fl) : En → M Fl := fun δ s => (match F δ s with | .ok (.ret d) s1 => .ok (.ret d) s1 | .err e s1 => .err e s1 | _ => .stuck)
def endO : Out Fl → Out Fl
  | .ok (.ret d) s1 => .ok (.ret d) s1
  | .err e s1 => .err e s1
  | _ => .stuck
@[simp] theorem e_end (F : En → M Fl) (δ : En) (s : S) : cEnd F δ s = endO (F δ s) := by
  unfold cEnd endO
  cases F δ s with
  | stuck => rfl
  | err e s1 => rfl
  | ok fl s1 => cases fl <;> rfl
@[simp] theorem endO_ret (d : D) (s : S) : endO (.ok (.ret d) s) = .ok (.ret d) s := rfl
section
variable {B : Bs} {W : List Nat} {E : Option XK}
theorem rs_rel {i : Nat} {W' : List Nat} {t : TS} {F : En → M Fl} (hW : W.filter (· != i) = W') (h : RdS B W' E t F) : RdS B W E t (cEnd F) := by
  intro r sa H0 O0 O σ δ s H gd D hp
  rw [e_end] at hp
  obtain ⟨O', gd', sub⟩ := gd.peek (i := i)
  rw [hW] at gd'
  refine h gd' D ?_
  cases q : F δ s with
  | stuck => rw [q] at hp; exact hp
  | err e s1 => rw [q] at hp; exact hp
  | ok fl s1 =>
    rw [q] at hp
    cases fl with
    | ret d => exact hp
    | next δ' => exact hp.elim
    | brk δ' => exact hp.elim
    | cont δ' => exact hp.elim
/-- x + e, x owned: a new list -/
def cAddO (i : Nat) (f : En → M D) : En → M (List D) := fun δ s => (lift (ownL δ i) s).bind fun ds s0 => (f δ s0).bind fun d s1 => (lift (asLst d) s1).bind fun es s2 => if ds.length + es.length ≤ 100000 then .ok (ds ++ es) s2 else .stuck
@[simp] theorem e_addO (i : Nat) (f : En → M D) (δ : En) (s : S) : cAddO i f δ s = (lift (ownL δ i) s).bind fun ds s0 => (f δ s0).bind fun d s1 => (lift (asLst d) s1).bind fun es s2 => if ds.length + es.length ≤ 100000 then .ok (ds ++ es) s2 else .stuck := rfl
theorem rl_addO {i : Nat} {te : TE} {f : En → M D} (h : RdE B W E te f) (hi : decide (i ∈ W) = true := by rfl) : RdL B W E (tOp (rAddU B.K) (tVar i) te) (cAddO i f) := by
  intro r sa H0 O0 O σ δ s H gd Q hp
  obtain ⟨ds, e0, hp⟩ := post_lift (post_bind hp)
  have e1 := ownL_some e0
  obtain ⟨p, vs, ds', h1, h2, h3, h4, h5, h6⟩ := gd.own i _ (of_decide_eq_true hi) e1
  cases h1
  refine ⟨_, h2, h gd _ (post_mono (post_bind hp) (fun d s1 hx v H1 st ra rp => ?_) (fun _ _ z => z))⟩
  obtain ⟨es, e2, hy⟩ := post_lift (post_bind hx)
  cases asLst_some e2
  obtain ⟨b, ws, rfl, hb, hw⟩ := rp.inv_lst
  split at hy
  · rename_i hl
    have h5' := st p _ (fun z => h4 (z ▸ gd.r0)) h5
    have sm := st.hid gd.rO
    refine .inr (.inl ⟨p, b, vs, ws, rfl, rfl, h5', hid_le _ _ hb, Evl.sz_of (by rw [h6.length, hw.length]; exact hl), fun q hq => ?_⟩)
    have n0 : H q = none := by
      cases z : H q with
      | none => rfl
      | some u =>
        by_cases w : q = r
        · subst w; rw [ra.1] at hq; cases hq
        · rw [st q u w z] at hq; cases hq
    refine hy q (vs ++ ws) _ (st.trans (Stp.new hq)) (ra.new hq) n0 upd_same (((h6.mono sm).append hw).mono fun a u e => ?_)
    have ⟨k1, k2⟩ := hid_some e
    have na : a ≠ q := ne_of_none k2 hq
    rw [hid_out (by simp [na, k1]), upd_ne na]; exact k2
  · exact hy.elim
/-! ### isinstance(x, (S, T)) -/
def gIsi2 (S T : String) (d : D) : Option D := match tyD d with | some t => (match kitB t S, kitB t T with | some a, some b => some (.bl (a || b)) | _, _ => none) | none => none
theorem rd_isi2 {ta : TE} {fa : En → M D} {S T : String} (ha : RdE B W E ta fa) : RdE B W E (tCB (rIsiT B.K) (tCons ta (tCons (tTup (tCons (tC (.ty S)) (tCons (tC (.ty T)) tNil))) tNil))) (cUn (gIsi2 S T) fa) := by
  intro r sa H0 O0 O σ δ s H gd Q h
  refine ha gd _ (post_mono (post_bind h) (fun x s1 hx v H1 st ra rp => ?_) (fun _ _ z => z))
  obtain ⟨d, e, hd⟩ := post_lift hx
  unfold gIsi2 at e
  split at e
  · rename_i t ht
    split at e
    · rename_i a b k1 k2
      cases e
      refine ⟨(by show 2 ≤ sizeLine; decide), fun p hp => ?_⟩
      have rp' := rp.mono (hid_new (O := O) (o := .tup [V.ty S, .ty T]) hp (gd.step st ra).dom).1
      refine ⟨v, p, [.ty S, .ty T], .type t, [.type S, .type T], a || b, rfl, upd_same, .cons (.ty S) (.cons (.ty T) .nil), rep_ty (rp'.mono hid_le) ht, ?_, hd _ _ (st.trans (Stp.new hp)) (ra.new hp) (.bl _)⟩
      refine kitAny_cons (kit_ty k1) (fun z => ?_) (fun z => by rw [z]; rfl)
      rw [z, Bool.false_or]
      refine kitAny_cons (kit_ty k2) (fun z => ?_) (fun z => z)
      rw [z]; exact kitAny_nil
    · cases e
  · cases e
end
end PV

namespace PV
open PySem L2
/-! ### range(i, j, -1) -/
def dwn (lo : Int) (n : Nat) : List D := (List.range n).map fun (i : Nat) => D.int (lo - (i : Int))
def gR3 : List D → Option (List D) | [.int i, .int j, .int k] => if -(2 ^ 62) ≤ i ∧ i < 2 ^ 62 ∧ -(2 ^ 62) ≤ j ∧ j < 2 ^ 62 ∧ k = -1 then some (dwn i (i - j).toNat) else none | _ => none
section
variable {B : Bs} {W : List Nat} {E : Option XK}
theorem dwn_get {lo : Int} {n i : Nat} {d : D} (h : (dwn lo n)[i]? = some d) : i < n ∧ d = .int (lo - (i : Int)) := by
  unfold dwn at h
  rw [List.getElem?_map] at h
  obtain ⟨j, h1, h2⟩ := Option.map_eq_some_iff.mp h
  obtain ⟨h3, h4⟩ := List.getElem?_eq_some_iff.mp h1
  rw [List.length_range] at h3
  rw [List.getElem_range] at h4
  subst h4
  exact ⟨h3, h2.symm⟩
@[simp] theorem dwn_len {lo : Int} {n : Nat} : (dwn lo n).length = n := by unfold dwn; simp
theorem wk_down {r : Addr} {O : List Addr} {H1 : Hp} {lo : Int} {n : Nat} : Wk B r O H1 (Itc lo (-1) n) (dwn lo n) := by
  intro O' H2 sm hd
  refine ⟨fun i hi => by rw [dwn_len] at hi; exact hi, by rw [dwn_len]; exact Nat.le_refl n, fun i x H3 d hi hy => ?_⟩
  obtain ⟨rfl, rfl⟩ := hy
  obtain ⟨_, rfl⟩ := dwn_get hi
  refine ⟨Same.refl _, ?_⟩
  rw [show lo + (i : Int) * (-1) = lo - (i : Int) by omega]
  exact .int _
theorem ri_r3 {ta : TA} {f : En → M (List D)} (ha : RdA B W E ta f) : RdI B W E (iRng3 ta) (cItA gR3 f) := by
  intro r sa H0 O0 O σ δ s H gd R h
  refine ha gd _ (post_mono (post_bind h) (fun x s1 hx v H1 st ra rp => ?_) (fun _ _ z => z))
  obtain ⟨ds, e, hd⟩ := post_lift hx
  unfold gR3 at e
  split at e
  · split at e
    · rename_i hj
      obtain ⟨h1, h2, h3, h4, rfl⟩ := hj
      cases e
      cases rp with | cons r1 r2 => cases r1; cases r2 with | cons r1 r2 => cases r1; cases r2 with | cons r1 r2 => cases r1; cases r2; exact ⟨_, _, _, _, rfl, RgC.neg h1 h2 h3 h4, hd _ H1 st ra wk_down⟩
    · cases e
  · cases e
/-! ### an owned list is let go, and its name is forgotten behind the rest of a loop's suite -/
def relO (i : Nat) : Out Fl → Out Fl
  | .ok (.next δ') s1 => .ok (.next (δ'.set i none)) s1
  | .ok (.ret d) s1 => .ok (.ret d) s1
  | .err e s1 => .err e s1
  | _ => .stuck
def cRelN (i : Nat) (F : En → M Fl) : En → M Fl := fun δ s => relO i (F δ s)
@[simp] theorem e_relN (i : Nat) (F : En → M Fl) (δ : En) (s : S) : cRelN i F δ s = relO i (F δ s) := rfl
@[simp] theorem relO_next (i : Nat) (δ : En) (s : S) : relO i (.ok (.next δ) s) = .ok (.next (δ.set i none)) s := rfl
@[simp] theorem relO_ret (i : Nat) (d : D) (s : S) : relO i (.ok (.ret d) s) = .ok (.ret d) s := rfl
theorem same_sub {H : Hp} {O O' : List Addr} (sub : ∀ a ∈ O', a ∈ O) : Same (hid H O) (hid H O') := by
  intro a o h
  unfold hid at h ⊢
  split at h
  · cases h
  · rename_i n
    rw [if_neg (fun z => n (sub a z))]; exact h
theorem Gd.unname {r sa : Addr} {H0 : Hp} {O0 O : List Addr} {σ : St} {δ : En} {s : S} {H : Hp} {i : Nat} (g : Gd B r sa H0 O0 (W.filter (· != i)) O σ δ s H) : Gd B r sa H0 O0 W O σ (δ.set i none) s H := by
  have key : ∀ j d, (δ.set i none)[j]? = some (some d) → j ≠ i ∧ δ[j]? = some (some d) := fun j d q => by
    by_cases z : i = j
    · subst z
      rw [List.getElem?_set] at q
      split at q
      · split at q <;> cases q
      · rename_i z; exact absurd rfl z
    · rw [List.getElem?_set_ne z] at q; exact ⟨fun w => z w.symm, q⟩
  refine ⟨by rw [List.length_set]; exact g.len, g.row, g.r0, g.dom, g.dom0, g.sub, g.frsh, g.stp, fun j d hj q => ?_, fun j d hj q => ?_, fun j k p d e hj hk ne q1 q2 q3 q4 => ?_⟩
  · obtain ⟨a, b⟩ := key j d q
    exact g.val j d (fun z => hj (List.mem_filter.mp z).1) b
  · obtain ⟨a, b⟩ := key j d q
    exact g.own j d (List.mem_filter.mpr ⟨hj, by simp [a]⟩) b
  · obtain ⟨a1, b1⟩ := key j d q1
    obtain ⟨a2, b2⟩ := key k e q2
    exact g.inj j k p d e (List.mem_filter.mpr ⟨hj, by simp [a1]⟩) (List.mem_filter.mpr ⟨hk, by simp [a2]⟩) ne b1 b2 q3 q4
theorem rs_relN {i : Nat} {W' : List Nat} {t : TS} {F : En → M Fl} (hW : W.filter (· != i) = W') (h : RdS B W' E t F) : RdS B W E t (cRelN i F) := by
  intro r sa H0 O0 O σ δ s H gd D hp
  rw [e_relN] at hp
  obtain ⟨O', gd', sub⟩ := gd.peek (i := i)
  rw [hW] at gd'
  refine h gd' D ?_
  cases q : F δ s with
  | stuck => rw [q] at hp; exact hp
  | err e s1 => rw [q] at hp; exact hp
  | ok fl s1 =>
    rw [q] at hp
    cases fl with
    | ret d => exact hp
    | next δ' =>
      intro O2 σ2 H2 g sm
      subst hW
      exact hp O2 σ2 H2 g.unname ((same_sub sub).trans sm)
    | brk δ' => exact hp.elim
    | cont δ' => exact hp.elim
end
end PV

namespace PV
open PySem L2
/-! ### a dict keyed by tuples of ints: reading -/
def intsD : List D → Option (List Int)
  | [] => some []
  | .int i :: ds => (intsD ds).map (i :: ·)
  | _ :: _ => none
theorem intsD_some : ∀ {ds : List D} {key : List Int}, intsD ds = some key → ds = key.map D.int
  | [], key, e => by cases e; rfl
  | d :: ds, key, e => by
    cases d with
    | int i =>
      obtain ⟨l, h1, h2⟩ := Option.map_eq_some_iff.mp (show (intsD ds).map (i :: ·) = some key from e)
      subst h2
      rw [intsD_some h1]; rfl
    | _ => cases e
@[simp] theorem intsD_map : ∀ (key : List Int), intsD (key.map D.int) = some key
  | [] => rfl
  | i :: key => by simp [intsD, intsD_map key]
def dGet : List (List Int) → List D → List Int → Option D
  | k :: ks, d :: ds, key => if k = key then some d else dGet ks ds key
  | _, _, _ => none
def gGetT : D → D → Option D
  | .dct ks ds, .tup es => (intsD es).bind fun key => dGet ks ds key
  | _, _ => none
section
variable {B : Bs} {W : List Nat} {E : Option XK}
theorem reps_ints {r : Addr} {H : Hp} : ∀ {key : List Int} {us : List V}, Reps B r H us (key.map D.int) → us = (kI key).map kV
  | [], _, .nil => rfl
  | i :: key, _, .cons h hs => by
    cases h
    rw [reps_ints hs]; rfl
theorem kI_inj : ∀ {a b : List Int}, kI a = kI b → a = b
  | [], [], _ => rfl
  | [], _ :: _, h => by cases h
  | _ :: _, [], h => by cases h
  | x :: a, y :: b, h => by
    have h' : (Sum.inl x : Key) :: kI a = Sum.inl y :: kI b := h
    injection h' with h1 h2
    injection h1 with h1
    rw [h1, kI_inj h2]
end
/-! ### such a dict in the heap: its keys may stand in the written part -/
abbrev DXs := List (List Key × Addr × Value)
def DXh (P : Program) (w : World) (a : Addr) (xs : DXs) (h : Heap) : Prop :=
  (a == sysModules) = false ∧ xs.length ≤ sizeLine ∧ ∃ o es ep, h.get? a = some o ∧ o.ExactDict ∧ o.data = .dict es ep ∧ es.toList = xs.map (PySem.entryOfKey (tupleKind (mixKind P w))) ∧ (xs.map (·.1)).Nodup
theorem dx_obj {P : Program} {w : World} {H : Hp} {h : Heap} {a : Addr} {xs : DXs} (z : DXh P w a xs h) : ObjOk P w H h a (.ext (DXh P w a xs)) := by
  obtain ⟨n1, n2, o, es, ep, e1, e2, e3, e4, e5⟩ := z
  refine ⟨⟨n1, n2, o, es, ep, e1, e2, e3, e4, e5⟩, ⟨o, e1⟩, fun h1 h2 p1 q => ?_⟩
  obtain ⟨n1, n2, o, es, ep, e1, e2, e3, e4, e5⟩ := p1
  exact ⟨n1, n2, o, es, ep, q o e1, e2, e3, e4, e5⟩
section
variable {X : Cx} {pins : List (Addr × Obj)} {σ : L2.St} {H : Hp} {s : Shared} {A : Around} {E : Value → Shared → Prop}
theorem key_at (I : L2.Inv X pins σ H s) {b : Addr} {k : List Key} (q : SqT X.K H b (k.map kV)) : (tupleKind (mixKind X.prog X.w)).is s.heap k b := by
  obtain ⟨us, ob, cnt, rel, g1, g2, g3⟩ := sqT_at I.hok I.kIn q
  have all := items_are (P := X.prog) (w := X.w) rel
  exact ⟨ob, us.toArray, cnt, g1, g2, g3, by simpa using all⟩
theorem dx_of (I : L2.Inv X pins σ H s) {a : Addr} {xs : DXs} (e : H a = some (.ext (DXh X.prog X.w a xs))) (ks : ∀ q ∈ xs, SqT X.K H q.2.1 (q.1.map kV)) :
    (a == sysModules) = false ∧ xs.length ≤ sizeLine ∧ s.heap.DictOfH (tupleKind (mixKind X.prog X.w)) a xs := by
  obtain ⟨⟨n1, n2, o, es, ep, e1, e2, e3, e4, e5⟩, _⟩ := (show ObjOk X.prog X.w H s.heap a (.ext (DXh X.prog X.w a xs)) from I.hok a _ e)
  exact ⟨n1, n2, o, es, ep, e1, e2, e3, e4, fun q hq => key_at I (ks q hq), e5⟩
theorem dx_put {D : Addr} {xs : DXs} {h' : Heap} {t' : Nat} {x : List Key × Addr × Value} (I : L2.Inv X pins σ H s) (e : H D = some (.ext (DXh X.prog X.w D xs))) (nsys : (D == sysModules) = false) (few : xs.length < sizeLine)
    (lies : h'.DictOfH (tupleKind (mixKind X.prog X.w)) D (xs ++ [x])) (same : Heap.SameBut D s.heap h') : L2.Inv X pins σ (upd H D (.ext (DXh X.prog X.w D (xs ++ [x])))) { s with heap := h', toks := t' } := by
  obtain ⟨o, es, ep, c1, c2, c3, c4, _, c5⟩ := lies
  exact d_write I (by rw [e]; trivial) same ⟨o, c1⟩ (dx_obj ⟨nsys, by simp; omega, o, es, ep, c1, c2, c3, c4, c5⟩)
theorem atKey_no {xs : DXs} {k : List Key} (h : k ∉ xs.map (·.1)) : atKey xs k = none := by
  unfold atKey
  rw [List.find?_eq_none.mpr]
  · rfl
  · intro x hx
    have : x.1 ≠ k := fun z => h (z ▸ List.mem_map.mpr ⟨x, hx, rfl⟩)
    simp [this]
theorem set_dX {D b : Addr} {xs : DXs} {k : List Key} {r : Value} {Q : Unit → Shared → Prop}
    (room : X.A.units < cLine) (inv : L2.Inv X pins σ H s) (here : H D = some (.ext (DXh X.prog X.w D xs))) (ks : ∀ q ∈ xs, SqT X.K H q.2.1 (q.1.map kV)) (tup : SqT X.K H b (k.map kV)) (few : xs.length < sizeLine) (nk : k ∉ xs.map (·.1))
    (go : ∀ t, L2.Inv X pins σ (upd H D (.ext (DXh X.prog X.w D (xs ++ [(k, b, r)])))) t → Q () t) : wpAny (model X.prog X.w) X.A (dictSet D (.ref b) r) Q E s := by
  obtain ⟨nsys, few', lies⟩ := dx_of inv here ks
  refine wpAny_dictSet_heap (hsz := few') (show (tupleKind (mixKind X.prog X.w)).room X.A from room) (key_at inv tup) lies ?_
  intro h' lies' same
  rw [storedH_new (atKey_no nk)] at lies'
  exact go _ (dx_put inv here nsys few lies' same)
theorem item_dX {D b : Addr} {xs : DXs} {k : List Key} {r : Value} {Q : Unit → Shared → Prop}
    (room : A.units + 1 < cLine) (inv : L2.Inv X pins σ H s) (here : H D = some (.ext (DXh X.prog X.w D xs))) (ks : ∀ q ∈ xs, SqT X.K H q.2.1 (q.1.map kV)) (tup : SqT X.K H b (k.map kV)) (few : xs.length < sizeLine) (nk : k ∉ xs.map (·.1))
    (go : ∀ t, L2.Inv X pins σ (upd H D (.ext (DXh X.prog X.w D (xs ++ [(k, b, r)])))) t → Q () t) : wpAny (model X.prog X.w) A (setItem (.ref D) (.ref b) r) Q E s := by
  obtain ⟨nsys, few', lies⟩ := dx_of inv here ks
  refine wpAny_setItem_heap (hsz := few') (tupleKind_room_in1 room) (key_at inv tup) lies ?_
  intro h' lies' same
  rw [storedH_new (atKey_no nk)] at lies'
  exact go _ (dx_put inv here nsys few lies' same)
theorem dx_empty {P : Program} {w : World} {H : Hp} (h : Heap) (hb : sysModules < h.objs.size) : ObjOk P w H (h.push { cls := .type "dict", data := .dict #[] }) h.objs.size (.ext (DXh P w h.objs.size [])) :=
  dx_obj ⟨beq_eq_false_iff_ne.mpr (Nat.ne_of_gt hb), Nat.zero_le _, { cls := .type "dict", data := .dict #[] }, #[], 0, Heap.get?_push_size h rfl, ⟨rfl, rfl, rfl⟩, rfl, rfl, by simp⟩
end
/-- {} -/
def tDNewX (dx : Addr → DXs → Heap → Prop) : TE := fun _ H Q => ∀ p, H p = none → Q (.ref p) (upd H p (.ext (dx p [])))
theorem pe_dnewX {X : Cx} {pos : Pos} : PE X (.Dict [] [] pos) (tDNewX (DXh X.prog X.w)) := by
  constructor
  intro pins s σ H Q I h
  refine wpAny_Dict_empty ⟨.ref s.heap.objs.size, upd H s.heap.objs.size (.ext (DXh X.prog X.w s.heap.objs.size [])), ?_, rfl, ?_⟩
  · exact I.laid (t' := s.toks) (fun b o q => Heap.get?_push_of_some _ q) (Nat.le_refl _) (dx_empty s.heap I.big)
  · exact h _ (I.hok.fresh (Nat.le_refl _))
/-- d[k] -/
def tDGetX (dx : Addr → DXs → Heap → Prop) (K : PySem.W.Frag) (td ty : TE) : TE := fun σ H Q => td σ H fun x H1 => ty σ H1 fun y H2 =>
  ∃ a b xs k p v, x = .ref a ∧ y = .ref b ∧ H2 a = some (.ext (dx a xs)) ∧ (∀ q ∈ xs, SqT K H2 q.2.1 (q.1.map kV)) ∧ SqT K H2 b (k.map kV) ∧ atKey xs k = some p ∧ RelV v p.2 ∧ Q v H2
theorem pe_dgetX {X : Cx} {o i : Expr} {pos : Pos} {td ty : TE} (room : X.A.units + 1 < cLine) (ho : PE X o td) (hi : PE X i ty) (hs : NoSl i) : PE X (.Subscript o i pos) (tDGetX (DXh X.prog X.w) X.K td ty) := by
  constructor
  intro pins s σ H Q I h
  refine subD_of PySem.F.slot_dict_getitem.lookup hs (thn (ho.run pins s σ H _ I h) fun u s1 hx => ?_)
  obtain ⟨x, H1, I1, rx, q1⟩ := hx
  refine thn (hi.run pins s1 σ H1 _ I1 q1) fun iv s2 hy => ?_
  obtain ⟨y, H2, I2, ry, a, b, xs, k, p, v, ex, ey, here, ks, tup, at_, rv, q2⟩ := hy
  subst ex ey
  have ru : u = Value.ref a := rx
  have ri : iv = Value.ref b := ry
  subst ru ri
  obtain ⟨_, _, lies⟩ := dx_of I2 here ks
  exact ⟨lies.typeIs, wpAny_getItem_heap (tupleKind_room_in1 room) (key_at I2 tup) lies at_ ⟨v, H2, I2.tok _, rv, q2⟩⟩
/-- d[k] = v, a new key -/
def sDPutX (dx : Addr → DXs → Heap → Prop) (K : PySem.W.Frag) (td ty tv : TE) : TS := fun D σ H => tv σ H fun v H1 => td σ H1 fun x H2 => ty σ H2 fun y H3 =>
  ∃ a b xs k, x = .ref a ∧ y = .ref b ∧ H3 a = some (.ext (dx a xs)) ∧ (∀ q ∈ xs, SqT K H3 q.2.1 (q.1.map kV)) ∧ SqT K H3 b (k.map kV) ∧ xs.length < sizeLine ∧ k ∉ xs.map (·.1) ∧ ∀ r, RelV v r → D.nx σ (upd H3 a (.ext (dx a (xs ++ [(k, b, r)]))))
theorem ps_dputX {X : Cx} {o i value : Expr} {pos pos' : Pos} {td ty tv : TE} (room : X.A.units + 1 < cLine) (ho : PE X o td) (hi : PE X i ty) (hv : PE X value tv) (hs : swapsWith value (some (.Subscript o i pos')) pos.line X.env = pure false) :
    PS X (.Assign [.Subscript o i pos'] value pos) (sDPutX (DXh X.prog X.w) X.K td ty tv) := by
  constructor
  intro pins s σ H D I h
  refine wpAny_Assign_Subscript (thn (hv.run pins s σ H _ I h) fun r s1 hr => ?_) hs
  obtain ⟨v, H1, I1, rv, q1⟩ := hr
  refine thn (ho.run pins s1 σ H1 _ I1 q1) fun u s2 hu => ?_
  obtain ⟨x, H2, I2, rx, q2⟩ := hu
  refine thn (hi.run pins s2 σ H2 _ I2 q2) fun iv s3 hy => ?_
  obtain ⟨y, H3, I3, ry, a, b, xs, k, ex, ey, here, ks, tup, few, nk, q3⟩ := hy
  subst ex ey
  have ru : u = Value.ref a := rx
  have ri : iv = Value.ref b := ry
  subst ru ri
  exact item_dX room I3 here ks tup few nk fun t I4 => ⟨σ, _, I4, q3 r rv⟩
section
variable {B : Bs} {W : List Nat} {E : Option XK}
theorem dGet_val {r : Addr} {H : Hp} {key : List Int} : ∀ {ks : List (List Int)} {xs : DXs} {vs : List V} {ds : List D} {d : D}, xs.map (·.1) = ks.map kI → Vals vs (xs.map (·.2.2)) → Reps B r H vs ds → dGet ks ds key = some d → ∃ p v, atKey xs (kI key) = some p ∧ RelV v p.2 ∧ Rep B r H v d
  | [], _, _, _, _, _, _, _, e => by cases e
  | _ :: _, [], _, _, _, h, _, _, _ => by cases h
  | k :: ks, x :: xs, vs, _, d, h, hv, hr, e => by
    rw [List.map_cons] at hv
    cases hv with
    | @cons v u vs us rv hv =>
      cases hr with
      | @cons _ d0 _ ds rd hr =>
        rw [List.map_cons, List.map_cons] at h
        injection h with h1 h2
        unfold dGet at e
        by_cases z : k = key
        · rw [if_pos z] at e
          cases e
          refine ⟨x.2, v, ?_, rv, rd⟩
          unfold atKey
          rw [List.find?_cons]
          simp [h1, z]
        · rw [if_neg z] at e
          obtain ⟨p, w, a1, a2, a3⟩ := dGet_val h2 hv hr e
          refine ⟨p, w, ?_, a2, a3⟩
          have ne : ¬ x.1 = kI key := fun q => z (kI_inj (h1 ▸ q))
          unfold atKey at a1 ⊢
          rw [List.find?_cons]
          simp only [decide_eq_true_eq, ne, decide_false]
          exact a1
theorem rd_dgetT {td ty : TE} {fa fb : En → M D} (ha : RdE B W E td fa) (hb : RdE B W E ty fb) : RdE B W E (tDGetX B.dx B.K td ty) (cOp gGetT fa fb) := by
  intro r sa H0 O0 O σ δ s H gd Q h
  refine ha gd _ (post_mono (post_bind h) (fun x s1 hx v H1 st ra rp => ?_) (fun _ _ z => z))
  have gd1 := gd.step st ra
  refine hb gd1 _ (post_mono (post_bind hx) (fun y s2 hy w H2 st2 ra2 rq => ?_) (fun _ _ z => z.mono st))
  obtain ⟨d, e, hd⟩ := post_lift hy
  have rp2 := rp.mono (st2.hid gd.rO)
  cases x with
  | dct ks ds =>
    cases y with
    | tup es =>
      obtain ⟨key, h1, h2⟩ := Option.bind_eq_some_iff.mp (show (intsD es).bind (fun key => dGet ks ds key) = some d from e)
      have he := intsD_some h1
      subst he
      obtain ⟨b, us, rfl, hA, hs⟩ := rq.inv_tup
      cases rp2 with
      | dct g1 g2 g3 g4 g5 =>
        obtain ⟨p, v', k1, k2, k3⟩ := dGet_val g2 g4 g5 h2
        refine ⟨_, b, _, kI key, p, v', rfl, rfl, hid_le _ _ g1, fun q hq => sqT_le (g3 q hq), ?_, k1, k2, hd v' H2 (st.trans st2) ra2 k3⟩
        rw [← reps_ints hs]
        exact sqT_le hA
    | _ => cases e
  | _ => cases e
/-! ### a dict that is filled in one loop -/
theorem Gd.takeIn {r sa : Addr} {H0 : Hp} {O0 O : List Addr} {σ : St} {δ : En} {s : S} {H : Hp} {p : Addr} {o : HO} (g : Gd B r sa H0 O0 W O σ δ s H) (hn : H p = none) : Gd B r sa H0 O0 W (p :: O) σ δ s (upd H p o) ∧ Same (hid H O) (hid (upd H p o) (p :: O)) := by
  have far : ∀ {a : Addr} {u : HO}, H a = some u → a ≠ p := fun e => ne_of_none e hn
  have sm : Same (hid H O) (hid (upd H p o) (p :: O)) := fun a u e => by
    have ⟨h1, h2⟩ := hid_some e
    have np := far h2
    rw [hid_out (fun z => by rcases List.mem_cons.mp z with z | z; exact np z; exact h1 z), upd_ne np]; exact h2
  refine ⟨⟨g.len, g.row.new hn, g.r0, fun q hq => ?_, g.dom0, fun q hq => List.mem_cons_of_mem _ (g.sub q hq), fun q hq => ?_, g.stp.trans (Stp.new hn), fun j d hj e => ?_, fun j d hj e => ?_, g.inj⟩, sm⟩
  · rcases List.mem_cons.mp hq with rfl | z
    · rw [upd_same]; simp
    · have np : q ≠ p := fun w => g.dom q z (w ▸ hn)
      rw [upd_ne np]; exact g.dom q z
  · rcases List.mem_cons.mp hq with rfl | z
    · refine .inr ?_
      cases e : H0 q with
      | none => rfl
      | some u =>
        have nr : q ≠ r := fun w => g.dom r g.rO (w ▸ hn)
        rw [g.stp q u nr e] at hn; cases hn
    · exact g.frsh q z
  · obtain ⟨v, h1, h2⟩ := g.val j d hj e
    exact ⟨v, h1, h2.mono sm⟩
  · obtain ⟨q, vs, ds, h1, h2, h3, h4, h5, h6⟩ := g.own j d hj e
    exact ⟨q, vs, ds, h1, h2, List.mem_cons_of_mem _ h3, h4, by rw [upd_ne (far h5)]; exact h5, h6.mono sm⟩
theorem Gd.rewrite {r sa : Addr} {H0 : Hp} {O0 O : List Addr} {σ : St} {δ : En} {s : S} {H : Hp} {p : Addr} {φ : Heap → Prop} (ψ : Heap → Prop) (g : Gd B r sa H0 O0 W O σ δ s H) (hp : p ∈ O) (h0 : p ∉ O0) (hk : H p = some (.ext φ)) : Gd B r sa H0 O0 W O σ δ s (upd H p (.ext ψ)) ∧ hid (upd H p (.ext ψ)) O = hid H O := by
  have eh : hid (upd H p (.ext ψ)) O = hid H O := hid_upd hp
  have npr : p ≠ r := fun z => h0 (z ▸ g.r0)
  refine ⟨⟨g.len, ⟨by rw [upd_ne (Ne.symm npr)]; exact g.row.1, g.row.2.elim (fun ⟨o, q⟩ => .inl ⟨o, by rw [upd_ne (ne_of q hk (fun z => nomatch z))]; exact q⟩) .inr⟩, g.r0, fun q hq => ?_, g.dom0, g.sub, g.frsh, fun a u na e => ?_, fun j d hj e => ?_, fun j d hj e => ?_, g.inj⟩, eh⟩
  · by_cases z : q = p
    · subst z; rw [upd_same]; simp
    · rw [upd_ne z]; exact g.dom q hq
  · have np : a ≠ p := fun z => by
      subst z
      rcases g.frsh a hp with w | w
      · exact h0 w
      · rw [w] at e; cases e
    rw [upd_ne np]; exact g.stp a u na e
  · rw [eh]; exact g.val j d hj e
  · obtain ⟨q, vs, ds, h1, h2, h3, h4, h5, h6⟩ := g.own j d hj e
    exact ⟨q, vs, ds, h1, h2, h3, h4, by rw [upd_ne (ne_of h5 hk (fun z => nomatch z))]; exact h5, by rw [eh]; exact h6⟩
theorem Gd.letOut {r sa : Addr} {H0 : Hp} {O0 O : List Addr} {σ : St} {δ : En} {s : S} {H : Hp} {p : Addr} {φ : Heap → Prop} (g : Gd B r sa H0 O0 W (p :: O) σ δ s H) (h0 : p ∉ O0) (hk : H p = some (.ext φ)) : Gd B r sa H0 O0 W O σ δ s H := by
  have sm : Same (hid H (p :: O)) (hid H O) := hid_sub fun a z => List.mem_cons_of_mem _ z
  refine ⟨g.len, g.row, g.r0, fun q hq => g.dom q (List.mem_cons_of_mem _ hq), g.dom0, fun q hq => ?_, fun q hq => g.frsh q (List.mem_cons_of_mem _ hq), g.stp, fun j d hj e => ?_, fun j d hj e => ?_, g.inj⟩
  · rcases List.mem_cons.mp (g.sub q hq) with z | z
    · exact absurd (z ▸ hq) h0
    · exact z
  · obtain ⟨v, h1, h2⟩ := g.val j d hj e
    exact ⟨v, h1, h2.mono sm⟩
  · obtain ⟨q, vs, ds, h1, h2, h3, h4, h5, h6⟩ := g.own j d hj e
    refine ⟨q, vs, ds, h1, h2, ?_, h4, h5, h6.mono sm⟩
    rcases List.mem_cons.mp h3 with z | z
    · subst z; rw [hk] at h5; cases h5
    · exact z
def asKey : D → Option (List Int)
  | .tup es => intsD es
  | _ => none
def fillL (tg : D → En → Option En) (fk fv : En → M D) : List D → List (List Int) → List D → En → M (En × List (List Int) × List D)
  | [], ks, ds, δ, s => .ok (δ, ks, ds) s
  | d :: xs, ks, ds, δ, s => (lift (tg d δ) s).bind fun δ1 s1 => (fv δ1 s1).bind fun v s2 => (fk δ1 s2).bind fun k s3 => (lift (asKey k) s3).bind fun key s4 => if key ∉ ks ∧ ks.length < 100000 then fillL tg fk fv xs (ks ++ [key]) (ds ++ [v]) δ1 s4 else .stuck
def cFill (i : Nat) (src : En → M (List D)) (tg : D → En → Option En) (fk fv : En → M D) : En → M Fl := fun δ s => if i < δ.length then (src (δ.set i none) s).bind fun xs s1 => (fillL tg fk fv xs [] [] (δ.set i none) s1).bind fun q s2 => .ok (.next (q.1.set i (some (.dct q.2.1 q.2.2)))) s2 else .stuck
theorem key_no {key : List Int} {ks : List (List Int)} {xs : DXs} (e : xs.map (·.1) = ks.map kI) (h : key ∉ ks) : kI key ∉ xs.map (·.1) := fun z => by
  rw [e] at z
  obtain ⟨k, hk, q⟩ := List.mem_map.mp z
  exact h (kI_inj q ▸ hk)
theorem vals_snoc {v : V} {r : Value} (h : RelV v r) : ∀ {vs : List V} {us : List Value}, Vals vs us → Vals (vs ++ [v]) (us ++ [r])
  | _, _, .nil => .cons h .nil
  | _, _, .cons a t => .cons a (vals_snoc h t)
theorem rs_fill {i : Nat} {wi : TI} {src : En → M (List D)} {ts : List Nat} {g : TG} {tg : D → En → Option En} {tk tv : TE} {fk fv : En → M D} (hi : RdI B W E wi src) (hg : RdG B W ts g tg) (hk : RdE B W E tk fk) (hv : RdE B W E tv fv) (hii : decide (i ∉ W ∧ i ∉ ts) = true := by decide) :
    RdS B W E (tSeq (tAsg (tDNewX B.dx) (gName i)) (tFor wi g (sDPutX B.dx B.K (tVar i) tk tv))) (cFill i src tg fk fv) := by
  intro r sa H0 O0 O σ δ s H gd D h
  obtain ⟨iW, its⟩ := of_decide_eq_true hii
  have h : (if i < δ.length then (src (δ.set i none) s).bind fun xs s1 => (fillL tg fk fv xs [] [] (δ.set i none) s1).bind fun q s2 => .ok (.next (q.1.set i (some (.dct q.2.1 q.2.2)))) s2 else .stuck : Out Fl).post (FlP B r sa H0 O0 W O H D) (EPost B E r sa H0 O0) := h
  split at h
  · rename_i hlen
    intro p hn
    obtain ⟨g1, sm1⟩ := gd.takeIn (o := .ext (B.dx p [])) hn
    have g2 := (g1.drop (i := i)).hole (i := i) (x := some (.ref p)) (fun d => set_hole d)
    have p0 : p ∉ O0 := (gd.fresh0 hn).2
    have pO : p ∉ O := (gd.fresh0 hn).1
    have npr : p ≠ r := fun z => p0 (z ▸ gd.r0)
    refine hi g2 _ (post_mono (post_bind h) (fun xs s1 hx J H1 st ra wk => ?_) (fun _ _ z => z.up g2))
    have g3 := g2.step st ra
    refine ⟨fun n mm σ2 H2 => mm = xs.length - n ∧ n ≤ xs.length ∧ ∃ δ2 s2 ks ys vs ds, Gd B r sa H0 O0 W (p :: O) σ2 δ2 s2 H2 ∧ Same (hid H1 (p :: O)) (hid H2 (p :: O)) ∧ H2 p = some (.ext (B.dx p ys)) ∧ (ys.map (·.1) = ks.map kI ∧ (∀ q ∈ ys, SqT B.K (hid H2 (p :: O)) q.2.1 (q.1.map kV)) ∧ Vals vs (ys.map (·.2.2))) ∧ Reps B r (hid H2 (p :: O)) vs ds ∧ σ2[i]? = some (some (.ref p)) ∧ (fillL tg fk fv (xs.drop n) ks ds δ2 s2).post (fun q s' => FlP B r sa H0 O0 W O H D (.next (q.1.set i (some (.dct q.2.1 q.2.2)))) s') (EPost B E r sa H0 O0),
      ⟨xs.length, by omega, by omega, δ.set i none, s1, [], [], [], [], g3, Same.refl _, st p _ npr upd_same, ⟨rfl, fun q hq => absurd hq (by simp), Paired.nil⟩, .nil, List.getElem?_set_self (by rw [gd.len]; exact hlen), by rw [List.drop_zero]; exact post_bind hx⟩, ?_⟩
    rintro n mm σ2 H2 ⟨rfl, hle, δ2, s2, ks, ys, vs, ds, gd2, sm, hD, ⟨hk1, hk2, hk3⟩, hr, hσ, hp⟩
    obtain ⟨w1, w2, w3⟩ := wk (p :: O) H2 sm gd2.dom
    by_cases hlt : n < xs.length
    · refine .inr ⟨w1 n hlt, fun σ' H' => ∃ δ3 s3 ks ys vs ds, Gd B r sa H0 O0 W (p :: O) σ' δ3 s3 H' ∧ Same (hid H1 (p :: O)) (hid H' (p :: O)) ∧ H' p = some (.ext (B.dx p ys)) ∧ (ys.map (·.1) = ks.map kI ∧ (∀ q ∈ ys, SqT B.K (hid H' (p :: O)) q.2.1 (q.1.map kV)) ∧ Vals vs (ys.map (·.2.2))) ∧ Reps B r (hid H' (p :: O)) vs ds ∧ σ'[i]? = some (some (.ref p)) ∧ (fillL tg fk fv (xs.drop (n + 1)) ks ds δ3 s3).post (fun q s' => FlP B r sa H0 O0 W O H D (.next (q.1.set i (some (.dct q.2.1 q.2.2)))) s') (EPost B E r sa H0 O0),
        fun σ' H' q => ⟨xs.length - (n + 1), by omega, rfl, by omega, q⟩, fun x H' hy => ?_⟩
      obtain ⟨sm3, rp⟩ := w3 n x H' xs[n] (by simp [hlt]) hy
      have gd3 := gd2.step (Stp.of sm3) (gd2.row.same sm3)
      have smh := hid_same (O := p :: O) sm3
      rw [List.drop_eq_getElem_cons hlt] at hp
      obtain ⟨δ3, e, hp⟩ := post_lift (post_bind hp)
      refine hg gd3 rp e _ fun σ3 gd4 keep _ => ?_
      have hσ3 : σ3[i]? = some (some (.ref p)) := (keep i its).trans hσ
      refine hv gd4 _ (post_mono (post_bind hp) (fun dv s4 hq v H4 st4 ra4 rv => ?_) (fun _ _ z => z.up gd4))
      refine ⟨.ref p, hσ3, ?_⟩
      have gd5 := gd4.step st4 ra4
      refine hk gd5 _ (post_mono (post_bind hq) (fun dk s5 hq2 y H5 st5 ra5 rk => ?_) (fun _ _ z => z.up gd5))
      obtain ⟨key, ek, hq3⟩ := post_lift (post_bind hq2)
      have gd6 := gd5.step st5 ra5
      split at hq3
      · rename_i hc
        cases dk with
        | tup es =>
          have he := intsD_some (show intsD es = some key from ek)
          subst he
          obtain ⟨b, us, rfl, hA, hs⟩ := rk.inv_tup
          rw [reps_ints hs] at hA
          have hD6 : H5 p = some (.ext (B.dx p ys)) := st5 p _ npr (st4 p _ npr (sm3 _ _ hD))
          have sm6 : Same (hid H2 (p :: O)) (hid H5 (p :: O)) := (smh.trans (st4.hid gd4.rO)).trans (st5.hid gd5.rO)
          have hr6 : Reps B r (hid H5 (p :: O)) vs ds := hr.mono sm6
          have rv6 := rv.mono (st5.hid gd5.rO)
          have hl : ys.length = ks.length := by have := congrArg List.length hk1; simpa using this
          have hz : ys.length < sizeLine := Evl.sz_lt (by rw [hl]; exact hc.2)
          have hq6 : ∀ q ∈ ys, SqT B.K (hid H5 (p :: O)) q.2.1 (q.1.map kV) := fun q hq => same_t sm6 (hk2 q hq)
          refine ⟨p, b, ys, kI key, rfl, rfl, hD6, fun q hq => sqT_le (hq6 q hq), sqT_le hA, hz, key_no hk1 hc.1, fun u ru => ?_⟩
          obtain ⟨g7, eh⟩ := gd6.rewrite (B.dx p (ys ++ [(kI key, b, u)])) (by simp) p0 hD6
          refine ⟨δ3, s5, ks ++ [key], ys ++ [(kI key, b, u)], vs ++ [v], ds ++ [dv], g7, ?_, upd_same, ⟨by rw [List.map_append, List.map_append, hk1]; rfl, fun q hq => ?_, by rw [List.map_append]; exact vals_snoc ru hk3⟩, ?_, hσ3, hq3⟩
          · rw [eh]; exact sm.trans sm6
          · rw [eh]
            rcases List.mem_append.mp hq with z | z
            · exact hq6 q z
            · rw [List.mem_singleton.mp z]; exact hA
          · rw [eh]; exact hr6.append (.cons rv6 .nil)
        | _ => cases ek
      · exact hq3.elim
    · have e : n = xs.length := by omega
      subst e
      rw [List.drop_length] at hp
      refine .inl ⟨w2, ?_⟩
      have gF := (gd2.letOut p0 hD).set (i := i) (v := .ref p) (d := .dct ks ds) iW (.dct (by rw [hid_out pO]; exact hD) hk1 (fun q hq => same_t (hid_sub fun a z => List.mem_cons_of_mem _ z) (hk2 q hq)) hk3 (hr.mono (hid_sub fun a z => List.mem_cons_of_mem _ z)))
      have es : σ2.set i (some (.ref p)) = σ2 := by
        refine List.ext_getElem? fun j => ?_
        rw [List.getElem?_set]
        split
        · rename_i z
          subst z
          rw [hσ]
          have : i < σ2.length := (List.getElem?_eq_some_iff.mp hσ).1
          rw [if_pos this]
        · rfl
      rw [es] at gF
      exact hp O σ2 H2 gF (((sm1.trans (st.hid g2.rO)).trans sm).trans (hid_sub fun a z => List.mem_cons_of_mem _ z))
  · exact h.elim
theorem rs_fill2 {i : Nat} {wi : TI} {src : En → M (List D)} {ts : List Nat} {g : TG} {tg : D → En → Option En} {tk tv : TE} {fk fv : En → M D} {t : TS} {F : En → M Fl} (hi : RdI B W E wi src) (hg : RdG B W ts g tg) (hk : RdE B W E tk fk) (hv : RdE B W E tv fv) (h : RdS B W E t F) (hii : decide (i ∉ W ∧ i ∉ ts) = true := by decide) :
    RdS B W E (tSeq (tAsg (tDNewX B.dx) (gName i)) (tSeq (tFor wi g (sDPutX B.dx B.K (tVar i) tk tv)) t)) (cSeq (cFill i src tg fk fv) F) := by
  have key : RdS B W E (tSeq (tSeq (tAsg (tDNewX B.dx) (gName i)) (tFor wi g (sDPutX B.dx B.K (tVar i) tk tv))) t) (cSeq (cFill i src tg fk fv) F) := rs_seq (rs_fill hi hg hk hv hii) h
  intro r sa H0 O0 O σ δ s H gd D hp
  exact key gd D hp
@[simp] theorem e_fill (i src tg fk fv) (δ : En) (s : S) : cFill i src tg fk fv δ s = if i < δ.length then (src (δ.set i none) s).bind fun xs s1 => (fillL tg fk fv xs [] [] (δ.set i none) s1).bind fun q s2 => .ok (.next (q.1.set i (some (.dct q.2.1 q.2.2)))) s2 else .stuck := rfl
end
end PV

namespace PV
open PySem L2 PySem.Spec
/-! ### {k: v for target in iter}, the keys being tuples -/
def tDcT (dx : Addr → DXs → Heap → Prop) (K : PySem.W.Frag) (wi : TI) (g : TG) (tk tv : TE) (vs : List Nat) : TE := fun σ H Q => wi σ H fun J H1 => ∀ D, H1 D = none →
  ∃ P : Nat → Nat → Hp → Prop, (∃ m, P 0 m (upd H1 D (.ext (dx D [])))) ∧ ∀ i m G, P i m G →
    (J.stop i G ∧ Q (.ref D) G) ∨ (J.go i G ∧ ∀ x G1, J.yld i G x G1 → g x (wipe σ vs) G1 fun σ1 G2 => wipe σ1 vs = wipe σ vs ∧
      tk σ1 G2 fun y G3 => tv σ1 G3 fun z G4 => ∃ b xs k, y = .ref b ∧ SqT K G4 b (k.map kV) ∧ (∀ q ∈ xs, SqT K G4 q.2.1 (q.1.map kV)) ∧ G4 D = some (.ext (dx D xs)) ∧ xs.length < sizeLine ∧ k ∉ xs.map (·.1) ∧
        ∀ r, RelV z r → ∃ m', m' < m ∧ P (i + 1) m' (upd G4 D (.ext (dx D (xs ++ [(k, b, r)])))))
section
variable {Y : Cx} {kx vx tg iter : Expr} {scope : Scope} {pos : Pos} {g : TG} {tk tv : TE} {vs : List Nat} {J : It} {fp : List Addr} {it D : Addr} {tn : Nat → Heap → Prop} {σ : L2.St} {Fin : Hp → Prop} {R : Result → Shared → Prop} {P : Nat → Nat → Hp → Prop}
/-- the turns of the block -/
theorem dcT_turns (room : Y.A.units < cLine) (calm : Y.calm = true) (quiet : Y.xe = fun _ _ => False) (T : Turn Y.prog Y.w Y.K tg J fp it tn) (tgt : PG Y tg g) (key : PE Y kx tk) (val : PE Y vx tv)
    (loose : ∀ {τ : L2.St} {G : Hp} {t : Shared}, L2.Inv Y [] τ G t → (∀ b ∈ fp, G b = none) → ∀ b ∈ fp, FpOk Y [] G b)
    (turn : ∀ i m G, P i m G → (J.stop i G ∧ Fin G) ∨ (J.go i G ∧ ∀ x G1, J.yld i G x G1 → g x (wipe σ vs) G1 fun σ1 G2 => wipe σ1 vs = wipe σ vs ∧
      tk σ1 G2 fun y G3 => tv σ1 G3 fun z G4 => ∃ b xs k, y = .ref b ∧ SqT Y.K G4 b (k.map kV) ∧ (∀ q ∈ xs, SqT Y.K G4 q.2.1 (q.1.map kV)) ∧ G4 D = some (.ext (DXh Y.prog Y.w D xs)) ∧ xs.length < sizeLine ∧ k ∉ xs.map (·.1) ∧
        ∀ r, RelV z r → ∃ m', m' < m ∧ P (i + 1) m' (upd G4 D (.ext (DXh Y.prog Y.w D (xs ++ [(k, b, r)]))))))
    (fin : ∀ G t, L2.Inv Y [] (wipe σ vs) G t → Fin G → R (.ok .next) t) {G0 : Hp} {t0 : Shared} {m0 : Nat} (p0 : P 0 m0 G0) (i0 : L2.Inv Y [] (wipe σ vs) G0 t0) (a0 : tn 0 t0.heap) (f0 : ∀ b ∈ fp, G0 b = none) :
    codeAny (model Y.prog Y.w) Y.A (.compLoop (.DictComp kx vx [⟨tg, iter, [], 0⟩] scope pos) 0 (.ref it) (.ref D) Y.env) R t0 := by
  apply compLoop_anyD (fun m t => ∃ i G, P i m G ∧ L2.Inv Y [] (wipe σ vs) G t ∧ tn i t.heap ∧ ∀ b ∈ fp, G b = none)
  case h => exact ⟨0, G0, p0, i0, a0, f0⟩
  rintro m t ⟨i, G, p, inv, at', free⟩
  cases turn i m G p with
  | inl over =>
    refine thnF (T.done Y rfl rfl rfl calm i [] t _ G (fun _ _ => False) inv (loose inv free) at' over.1) ?_
    rintro r t1 ⟨rfl, inv1⟩
    exact fin G t1 inv1 over.2
  | inr more =>
    refine thnF (T.item Y rfl rfl rfl calm i [] t _ G (fun _ _ => False) inv (loose inv free) at' more.1) ?_
    rintro r t1 ⟨u, rfl, rest⟩
    refine thnF rest ?_
    rintro _ t2 ⟨x, G1, inv2, ru, yl, at2, free2⟩
    have inv3 := inv2.pinned (loose inv2 free2) (T.obj _ _ at2)
    have stepT := tgt.run _ t2 _ G1 x u _ inv3 ru (more.2 x G1 yl)
    rw [quiet] at stepT
    refine thnF stepT ?_
    rintro _ t3 ⟨σ1, G2, inv4, wp, hk⟩
    refine wpAny_pure ?_
    rw [if_pos rfl]
    have stepK := key.run _ t3 σ1 G2 _ inv4 hk
    rw [quiet] at stepK
    refine thnF stepK ?_
    rintro kv t4 ⟨y, G3, inv5, rk, hv⟩
    have stepV := val.run _ t4 σ1 G3 _ inv5 hv
    rw [quiet] at stepV
    refine thnF stepV ?_
    rintro vv t5 ⟨z, G4, inv6, rz, b, xs, k, rfl, hb, hks, hD, few, nk, nxt⟩
    cases (show kv = Value.ref b from rk)
    obtain ⟨m', less, p'⟩ := nxt vv rz
    refine set_dX room inv6 hD hks hb few nk ?_
    intro t6 inv7
    have stays : ∀ c ∈ fp, ∀ o, t2.heap.get? c = some o → t6.heap.get? c = some o ∧ upd G4 D (.ext (DXh Y.prog Y.w D (xs ++ [(k, b, vv)]))) c = none := by
      intro c hc o e
      have := inv7.pin (c, o) (List.mem_append_right _ (List.mem_append_right _ (mem_pinsAt hc e)))
      exact ⟨this.1, this.2.1⟩
    refine ⟨m', less, i + 1, _, p', (inv7.unpinned (pins := [])).weak (by rw [← wp, wipe_length]) ?_, T.keep _ _ _ at2 fun c hc o e => (stays c hc o e).1, ?_⟩
    · intro j v e
      rw [← wp] at e
      exact (wipe_some e).1
    · intro c hc
      obtain ⟨o, e, _⟩ := T.obj _ _ at2 c hc
      exact (stays c hc o e).2
end
section
variable {X : Cx} {kx vx tg iter : Expr} {scope : Scope} {own : List (Str × Nat)} {pos : Pos} {wi : TI} {g : TG} {tk tv : TE}
/-- the block as a whole; use: what is done with the dict ahead of the block's end -/
theorem dcT_whole {at' : Pos} {use : Option (Value → Sem Unit)} {Out : Value → Shared → Prop} {pins : List (Addr × Obj)} {s : Shared} {σ : L2.St} {H : Hp} {Q : VK} (room : X.A.units + 1 < cLine) (calm : X.calm = true) (nd : X.N.Nodup) (src : PI X tg iter wi) (blk : BlkOk X.N X.env.scope scope own)
    (tgt : ∀ (t : Shared) (G : Hp) (L : Addr) (cs : List (Str × Addr)) (fp : List Addr), PG (X.blk t G scope (compEnvC scope cs L X.env) fp) tg g)
    (key : ∀ (t : Shared) (G : Hp) (L : Addr) (cs : List (Str × Addr)) (fp : List Addr), PE (X.blk t G scope (compEnvC scope cs L X.env) fp) kx tk)
    (val : ∀ (t : Shared) (G : Hp) (L : Addr) (cs : List (Str × Addr)) (fp : List Addr), PE (X.blk t G scope (compEnvC scope cs L X.env) fp) vx tv)
    (plain : ∀ x, foldedSetIterable iter X.env x = pure x) (inv : L2.Inv X pins σ H s) (h : tDcT (DXh X.prog X.w) X.K wi g tk tv (own.map (·.2)) σ H Q)
    (last : ∀ D L t ns G, L2.Inv X pins σ G t → Q (.ref D) G → t.heap.Ns L ns → FpOk X pins G L → compPost (model X.prog X.w) X.A X.xe use Out (.ref D) L (.ok .next) t) :
    wpAny (model X.prog X.w) X.A (comprehension (.DictComp kx vx [⟨tg, iter, [], 0⟩] scope pos) scope X.env at' newDict false (eval iter X.env) use) Out X.xe s := by
  have outs : ∀ y ∈ scope.names, y.2 = .free → ∃ c, X.env.cells.lookup y.1 = some c := fun y hy e => (blk.free y hy e).elim (fun k => inv.ok.has _ (.inl k)) (fun k => inv.ok.has _ (.inr k))
  refine wpAny_comprehension_free rfl plain (closure_ok outs) blk.kind (fun y hy e => (blk.uniq y hy).trans (congrArg some e)) ?_
  refine thn (src.run pins s σ H _ inv h) fun _ _ hx => thn hx fun _ s2 got => ?_
  obtain ⟨it, fp, tn, J, H2, rfl, I2, T, at0, away, q⟩ := got
  refine wpAny_newObj_type ?_
  refine newEnv_comp ?_
  have fresh : H2 s2.heap.objs.size = none := I2.hok.fresh (Nat.le_refl _)
  obtain ⟨P, ⟨m0, p0⟩, turn⟩ := q _ fresh
  suffices key' : ∀ t3 : Shared, t3 = { s2 with heap := s2.heap.push { cls := .type "dict", data := .dict #[] } } → codeAny (model X.prog X.w) X.A (.compStart (.DictComp kx vx [⟨tg, iter, [], 0⟩] scope pos) 0 (.ref it) (.ref s2.heap.objs.size) (compEnvC scope (cellsFrom (t3.heap.objs.size + 1) scope.names (cloFrom X.env.cells scope.names [])) t3.heap.objs.size X.env))
      (compPost (model X.prog X.w) X.A X.xe use Out (.ref s2.heap.objs.size) t3.heap.objs.size) { t3 with heap := pushCells (t3.heap.push { cls := .type "dict", data := .dict #[] }) scope.names } from key' _ rfl
  intro t3 e3
  have eh : t3.heap = s2.heap.push { cls := .type "dict", data := .dict #[] } := by rw [e3]
  have I3 : L2.Inv X pins σ (upd H2 s2.heap.objs.size (.ext (DXh X.prog X.w s2.heap.objs.size []))) t3 := by
    rw [e3]
    exact I2.laid (t' := s2.toks) (fun b o e => Heap.get?_push_of_some _ e) (Nat.le_refl _) (dx_empty s2.heap I2.big)
  have iter0 : ∀ b ∈ fp, FpOk X pins (upd H2 s2.heap.objs.size (.ext (DXh X.prog X.w s2.heap.objs.size []))) b ∧ b < t3.heap.objs.size := by
    intro b hb
    obtain ⟨o, e, _⟩ := T.obj _ _ at0 b hb
    have low := Heap.lt_size e
    refine ⟨⟨?_, (away b hb).2⟩, by rw [eh, Heap.size_push]; exact Nat.lt_succ_of_lt low⟩
    rw [upd_ne (Nat.ne_of_lt low)]; exact (away b hb).1
  have I4 := block_start I3 blk nd iter0
  have tg' := tgt t3 (upd H2 s2.heap.objs.size (.ext (DXh X.prog X.w s2.heap.objs.size []))) t3.heap.objs.size (cellsFrom (t3.heap.objs.size + 1) scope.names (cloFrom X.env.cells scope.names [])) fp
  have ky' := key t3 (upd H2 s2.heap.objs.size (.ext (DXh X.prog X.w s2.heap.objs.size []))) t3.heap.objs.size (cellsFrom (t3.heap.objs.size + 1) scope.names (cloFrom X.env.cells scope.names [])) fp
  have vl' := val t3 (upd H2 s2.heap.objs.size (.ext (DXh X.prog X.w s2.heap.objs.size []))) t3.heap.objs.size (cellsFrom (t3.heap.objs.size + 1) scope.names (cloFrom X.env.cells scope.names [])) fp
  have hL : (compEnvC scope (cellsFrom (t3.heap.objs.size + 1) scope.names (cloFrom X.env.cells scope.names [])) t3.heap.objs.size X.env).locals = t3.heap.objs.size := rfl
  generalize compEnvC scope (cellsFrom (t3.heap.objs.size + 1) scope.names (cloFrom X.env.cells scope.names [])) t3.heap.objs.size X.env = ce at *
  have at4 : tn 0 (pushCells (t3.heap.push { cls := .type "dict", data := .dict #[] }) scope.names) := T.keep _ _ _ at0 fun b _ o e => pushCells_keeps _ _ _ _ (Heap.get?_push_of_some _ (by rw [eh]; exact Heap.get?_push_of_some _ e))
  have turns := dcT_turns (Y := X.blk t3 (upd H2 s2.heap.objs.size (.ext (DXh X.prog X.w s2.heap.objs.size []))) scope ce fp) (iter := iter) (scope := scope) (pos := pos) (R := compPost (model X.prog X.w) X.A X.xe use Out (.ref s2.heap.objs.size) t3.heap.objs.size)
    (Nat.lt_of_succ_lt room) calm rfl T tg' ky' vl'
    (fun {τ G t} inv' gone b hb => ⟨gone b hb, (inv'.ok.exf b hb).1, inv'.ok.exfs b hb, .inl hb, fun x c e => (inv'.ok.exf b hb).2 x c e, fun p hp => absurd (show p ∈ ([] : List (Addr × Obj)) ++ [] from hp) (by simp)⟩)
    turn (fun G t inv' done => by
      have back : L2.Inv X pins σ G t := I3.call' (ch := fp) inv'.os inv'.base inv'.hok inv'.bare fun b hb => by
        obtain ⟨⟨_, c1, _, c2, c3, c4⟩, _⟩ := iter0 b hb
        exact ⟨c2, c1, c3, c4⟩
      obtain ⟨ns, hn, _⟩ := inv'.loc
      have hn : t.heap.Ns ce.locals ns := hn
      have none' : G ce.locals = none := inv'.free
      rw [hL] at hn none'
      exact last _ _ t ns G back done hn (I3.fpOk (H' := G) (Nat.le_refl _) none')) p0 I4 at4 fun b hb => (iter0 b hb).1.1
  exact codeAny_compStart_dict turns (T.self X.A 0 _ _ _ at4 turns)
theorem pe_dcT (room : X.A.units + 1 < cLine) (calm : X.calm = true) (nd : X.N.Nodup) (src : PI X tg iter wi) (blk : BlkOk X.N X.env.scope scope own)
    (tgt : ∀ (t : Shared) (G : Hp) (L : Addr) (cs : List (Str × Addr)) (fp : List Addr), PG (X.blk t G scope (compEnvC scope cs L X.env) fp) tg g)
    (key : ∀ (t : Shared) (G : Hp) (L : Addr) (cs : List (Str × Addr)) (fp : List Addr), PE (X.blk t G scope (compEnvC scope cs L X.env) fp) kx tk)
    (val : ∀ (t : Shared) (G : Hp) (L : Addr) (cs : List (Str × Addr)) (fp : List Addr), PE (X.blk t G scope (compEnvC scope cs L X.env) fp) vx tv)
    (plain : ∀ x, foldedSetIterable iter X.env x = pure x := by intro _; rfl) : PE X (.DictComp kx vx [⟨tg, iter, [], 0⟩] scope pos) (tDcT (DXh X.prog X.w) X.K wi g tk tv (own.map (·.2))) := by
  constructor
  intro pins s σ H Q inv h
  rw [arm_eval_DictComp]
  refine dcT_whole room calm nd src blk tgt key val plain inv h ?_
  rintro D L t ns G inv' q hn ⟨d0, d1, d2, d3, d4, d5⟩
  exact ⟨ns, hn, fun h2 sb => ⟨.ref D, G, inv'.turned (t' := t.toks) (fun b o hb e => (sb.2 b hb).trans e) d0 d1 d3 d4 d5, rfl, q⟩⟩
/-- y = {..}: the name is bound ahead of the block's end -/
theorem ps_setDcT {i : Nat} {y : Str} {py spos : Pos} (room : X.A.units + 1 < cLine) (calm : X.calm = true) (nd : X.N.Nodup) (hy : X.N[i]? = some y) (loc : X.env.scope.names.lookup y = some .local) (sw : swapsWith (.DictComp kx vx [⟨tg, iter, [], 0⟩] scope pos) (some (.Name y py)) spos.line X.env = pure true)
    (src : PI X tg iter wi) (blk : BlkOk X.N X.env.scope scope own)
    (tgt : ∀ (t : Shared) (G : Hp) (L : Addr) (cs : List (Str × Addr)) (fp : List Addr), PG (X.blk t G scope (compEnvC scope cs L X.env) fp) tg g)
    (key : ∀ (t : Shared) (G : Hp) (L : Addr) (cs : List (Str × Addr)) (fp : List Addr), PE (X.blk t G scope (compEnvC scope cs L X.env) fp) kx tk)
    (val : ∀ (t : Shared) (G : Hp) (L : Addr) (cs : List (Str × Addr)) (fp : List Addr), PE (X.blk t G scope (compEnvC scope cs L X.env) fp) vx tv)
    (plain : ∀ x, foldedSetIterable iter X.env x = pure x := by intro _; rfl) : PS X (.Assign [.Name y py] (.DictComp kx vx [⟨tg, iter, [], 0⟩] scope pos) spos) (tAsg (tDcT (DXh X.prog X.w) X.K wi g tk tv (own.map (·.2))) (gName i)) := by
  constructor
  intro pins s σ H D inv h
  rw [exec_Assign_Name_used _ _ _ _ sw]
  have h : tDcT (DXh X.prog X.w) X.K wi g tk tv (own.map (·.2)) σ H (fun x G => gName i x σ G D.nx) := h
  have whole := dcT_whole (pos := pos) (at' := firstIterPos [⟨tg, iter, [], 0⟩] pos) (use := some (assign (.Name y py) X.env)) (Out := fun _ t => SP X pins D .next t) room calm nd src blk tgt key val plain inv h (by
    rintro D' L t ns G inv' q hn ⟨d0, d1, d2, d3, d4, d5⟩
    show wpAny _ _ (assign (.Name y py) X.env (.ref D')) _ _ _
    apply wpAny_assign_Name
    refine store_ok2 (v := V.ref D') inv' nd hy (.inl loc) rfl ?_ (.inr loc)
    rintro t2 inv2 ⟨c, same, where'⟩
    have apart : L ≠ c := where'.elim (fun z => z ▸ d1) (fun z e => d4 y c z e.symm)
    exact ⟨ns, hn.sameBut same apart, fun h3 sb => ⟨_, G, inv2.turned (t' := t2.toks) (fun b o hb e => (sb.2 b hb).trans e) d0 d1 d3 d4 d5, q⟩⟩)
  apply wpAny_bind
  apply wpAny_standAt
  apply wpAny_bind
  show wpAny _ X.A (do let _ ← comprehension (.DictComp kx vx [⟨tg, iter, [], 0⟩] scope pos) scope X.env (firstIterPos [⟨tg, iter, [], 0⟩] pos) newDict false (eval iter X.env) (some (assign (.Name y py) X.env))) _ _ s
  exact wpAny_bind (thn whole fun _ t hq => wpAny_pure (wpAny_pure hq))
end
theorem swD {kx vx : Expr} {gs : List Comprehension} {scope : Scope} {pos py : Pos} {y : Str} {l : Nat} {env : Env} (fn : env.scope.kind = .function) (loc : env.scope.names.lookup y = some .local) (row : (py.line == pos.line) = true)
    (free : (scope.names.any fun (n, k) => n == y && (k == .local || k == .cell)) = false) : swapsWith (.DictComp kx vx gs scope pos) (some (.Name y py)) l env = pure true := by
  have k1 : env.kindOf y = some .local := loc
  have k2 : env.blockKind = .function := by rw [Env.blockKind, fn]; rfl
  simp only [swapsWith, k1, k2, free, Expr.pos, row]
  rfl
def dcL (tg : D → En → Option En) (fk fv : En → M D) (δ : En) : List D → List (List Int) → List D → M (List (List Int) × List D)
  | [], ks, ds, s => .ok (ks, ds) s
  | d :: xs, ks, ds, s => (lift (tg d δ) s).bind fun δ1 s1 => (fk δ1 s1).bind fun k s2 => (lift (asKey k) s2).bind fun key s3 => (fv δ1 s3).bind fun v s4 => if key ∉ ks ∧ ks.length < 100000 then dcL tg fk fv δ xs (ks ++ [key]) (ds ++ [v]) s4 else .stuck
def cDc (vs : List Nat) (src : En → M (List D)) (tg : D → En → Option En) (fk fv : En → M D) : En → M D := fun δ s => (src δ s).bind fun xs s1 => (dcL tg fk fv (wipeD δ vs) xs [] [] s1).bind fun q s2 => .ok (.dct q.1 q.2) s2
@[simp] theorem e_dc (vs src tg fk fv) (δ : En) (s : S) : cDc vs src tg fk fv δ s = (src δ s).bind fun xs s1 => (dcL tg fk fv (wipeD δ vs) xs [] [] s1).bind fun q s2 => .ok (.dct q.1 q.2) s2 := rfl
section
variable {B : Bs} {W : List Nat} {E : Option XK}
theorem rd_dc {wi : TI} {src : En → M (List D)} {ts vs : List Nat} {g : TG} {tg : D → En → Option En} {tk tv : TE} {fk fv : En → M D} (hi : RdI B W none wi src) (hg : RdG B W ts g tg) (hk : RdE B W none tk fk) (hv : RdE B W none tv fv) (hs : (ts.all fun i => decide (i ∈ vs)) = true := by rfl) :
    RdE B W none (tDcT B.dx B.K wi g tk tv vs) (cDc vs src tg fk fv) := by
  intro r sa H0 O0 O σ δ s H gd Q h
  refine hi gd _ (post_mono (post_bind h) (fun xs s1 hx J H1 st ra wk Dl hD => ?_) (fun _ _ z => z))
  have gd1 := gd.step st ra
  obtain ⟨g1, sm1⟩ := gd1.takeIn (o := .ext (B.dx Dl [])) hD
  have ⟨nO, n0⟩ := gd1.fresh0 hD
  have nr : Dl ≠ r := fun z => nO (z ▸ gd.rO)
  have nH : ∀ {a : Addr} {o : HO}, a ≠ r → H a = some o → a ≠ Dl := fun na e z => by
    have := st _ _ na e
    rw [z, hD] at this; cases this
  refine ⟨fun i m G => m = xs.length - i ∧ i ≤ xs.length ∧ ∃ s2 ks ys us ds, Gd B r sa H0 O0 W (Dl :: O) σ δ s2 G ∧ G Dl = some (.ext (B.dx Dl ys)) ∧ (ys.map (·.1) = ks.map kI ∧ (∀ q ∈ ys, SqT B.K (hid G (Dl :: O)) q.2.1 (q.1.map kV)) ∧ Vals us (ys.map (·.2.2))) ∧ Reps B r (hid G (Dl :: O)) us ds ∧ Same (hid H1 O) (hid G (Dl :: O)) ∧ Stp r H G ∧
      (dcL tg fk fv (wipeD δ vs) (xs.drop i) ks ds s2).post (fun q s' => OkV B r sa H O Q (.dct q.1 q.2) s') (fun _ _ => False),
    ⟨xs.length, by omega, by omega, s1, [], [], [], [], g1, upd_same, ⟨rfl, fun q hq => absurd hq (by simp), Paired.nil⟩, .nil, sm1, st.trans (Stp.new hD), by rw [List.drop_zero]; exact post_bind hx⟩, ?_⟩
  rintro i m G ⟨rfl, hle, s2, ks, ys, us, ds, g2, hD2, ⟨hk1, hk2, hk3⟩, hr, sm, st2, hp⟩
  obtain ⟨w1, w2, w3⟩ := wk (Dl :: O) G sm g2.dom
  by_cases hlt : i < xs.length
  · refine .inr ⟨w1 i hlt, fun x G1 hy => ?_⟩
    obtain ⟨sm3, rp⟩ := w3 i x G1 xs[i] (by simp [hlt]) hy
    have g3 := g2.step (Stp.of sm3) (g2.row.same sm3)
    rw [List.drop_eq_getElem_cons hlt] at hp
    obtain ⟨δ3, e, hp⟩ := post_lift (post_bind hp)
    refine hg (g3.wipe vs) rp e _ fun σ3 g4 ag lg => ?_
    refine ⟨by rw [wipe_ext lg fun j hj => ag j fun z => hj (of_decide_eq_true (List.all_eq_true.mp hs j z)), wipe_ext (wipe_length σ vs) fun j hj => wipe_get hj], ?_⟩
    refine hk g4 _ (post_mono (post_bind hp) (fun dk s3 hq y G3 st3 ra3 rk => ?_) (fun _ _ z => z))
    obtain ⟨key, ek, hq⟩ := post_lift (post_bind hq)
    have g5 := g4.step st3 ra3
    refine hv g5 _ (post_mono (post_bind hq) (fun dv s4 hq2 z G4 st4 ra4 rv => ?_) (fun _ _ z => z))
    have all : Stp r G G4 := ((Stp.of sm3).trans st3).trans st4
    have g6 := g2.step all ra4
    split at hq2
    · rename_i hc
      cases dk with
      | tup es =>
        have he := intsD_some (show intsD es = some key from ek)
        subst he
        obtain ⟨b, ws, rfl, hA, hs'⟩ := (rk.mono (st4.hid g4.rO)).inv_tup
        rw [reps_ints hs'] at hA
        have hD4 := all Dl _ nr hD2
        have hl : ys.length = ks.length := by have := congrArg List.length hk1; simpa using this
        have hz : ys.length < sizeLine := Evl.sz_lt (by rw [hl]; exact hc.2)
        have smA : Same (hid G (Dl :: O)) (hid G4 (Dl :: O)) := all.hid g2.rO
        have hq6 : ∀ q ∈ ys, SqT B.K (hid G4 (Dl :: O)) q.2.1 (q.1.map kV) := fun q hq => same_t smA (hk2 q hq)
        refine ⟨b, ys, kI key, rfl, sqT_le hA, fun q hq => sqT_le (hq6 q hq), hD4, hz, key_no hk1 hc.1, fun u ru => ⟨xs.length - (i + 1), by omega, rfl, by omega, ?_⟩⟩
        obtain ⟨g7, eh⟩ := g6.rewrite (B.dx Dl (ys ++ [(kI key, b, u)])) (by simp) n0 hD4
        refine ⟨s4, ks ++ [key], ys ++ [(kI key, b, u)], us ++ [z], ds ++ [dv], g7, upd_same, ⟨by rw [List.map_append, List.map_append, hk1]; rfl, fun q hq => ?_, by rw [List.map_append]; exact vals_snoc ru hk3⟩, ?_, ?_, ?_, hq2⟩
        · rw [eh]
          rcases List.mem_append.mp hq with w | w
          · exact hq6 q w
          · rw [List.mem_singleton.mp w]; exact hA
        · rw [eh]; exact (hr.mono smA).append (.cons rv .nil)
        · rw [eh]; exact sm.trans smA
        · intro a o na ha
          rw [upd_ne (nH na ha)]
          exact (st2.trans all) a o na ha
      | _ => cases ek
    · exact hq2.elim
  · have atEnd : i = xs.length := by omega
    subst atEnd
    rw [List.drop_length] at hp
    refine .inl ⟨w2, hp (.ref Dl) G st2 g2.row (.dct (by rw [hid_out nO]; exact hD2) hk1 (fun q hq => same_t (hid_sub fun a z => List.mem_cons_of_mem _ z) (hk2 q hq)) hk3 (hr.mono (hid_sub fun a z => List.mem_cons_of_mem _ z)))⟩
end
/-- the dicts of this program in this world -/
class DxF (B : Bs) (P : Program) (w : World) : Prop where
  e : B.dx = DXh P w
section
variable {B : Bs} {P : Program} {w : World} [q : DxF B P w] {W : List Nat} {E : Option XK}
theorem rd_dgetW {td ty : TE} {fa fb : En → M D} (ha : RdE B W E td fa) (hb : RdE B W E ty fb) : RdE B W E (tDGetX (DXh P w) B.K td ty) (cOp gGetT fa fb) := by
  rw [← q.e]; exact rd_dgetT ha hb
theorem rd_dcW {wi : TI} {src : En → M (List D)} {ts vs : List Nat} {g : TG} {tg : D → En → Option En} {tk tv : TE} {fk fv : En → M D} (hi : RdI B W none wi src) (hg : RdG B W ts g tg) (hk : RdE B W none tk fk) (hv : RdE B W none tv fv) (hs : (ts.all fun i => decide (i ∈ vs)) = true := by rfl) :
    RdE B W none (tDcT (DXh P w) B.K wi g tk tv vs) (cDc vs src tg fk fv) := by
  rw [← q.e]; exact rd_dc hi hg hk hv hs
theorem rs_fillW {i : Nat} {wi : TI} {src : En → M (List D)} {ts : List Nat} {g : TG} {tg : D → En → Option En} {tk tv : TE} {fk fv : En → M D} {t : TS} {F : En → M Fl} (hi : RdI B W E wi src) (hg : RdG B W ts g tg) (hk : RdE B W E tk fk) (hv : RdE B W E tv fv) (h : RdS B W E t F) (hii : decide (i ∉ W ∧ i ∉ ts) = true := by decide) :
    RdS B W E (tSeq (tAsg (tDNewX (DXh P w)) (gName i)) (tSeq (tFor wi g (sDPutX (DXh P w) B.K (tVar i) tk tv)) t)) (cSeq (cFill i src tg fk fv) F) := by
  rw [← q.e]; exact rs_fill2 hi hg hk hv h hii
end
/-! ### list(x) as a list of one's own -/
def seqA : List D → Option (List D) | [.lst es] => some es | [.tup es] => some es | _ => none
def cListL (fr : En → M (List D)) : En → M (List D) := fun δ s => (fr δ s).bind fun ds s1 => lift (seqA ds) s1
@[simp] theorem e_listL (fr : En → M (List D)) (δ : En) (s : S) : cListL fr δ s = (fr δ s).bind fun ds s1 => lift (seqA ds) s1 := rfl
@[simp] theorem seqA_lst (es : List D) : seqA [.lst es] = some es := rfl
@[simp] theorem seqA_tup (es : List D) : seqA [.tup es] = some es := rfl
theorem rl_list {B : Bs} {W : List Nat} {E : Option XK} {tr : TA} {fr : En → M (List D)} (ha : RdA B W E tr fr) :
    RdL B W E (tCB (fun xs H Q => ∃ p ys, xs = [.ref p] ∧ (SqL B.K H p ys ∨ SqT B.K H p ys) ∧ ∀ l, H l = none → Q (.ref l) (upd H l (.lst ys))) tr) (cListL fr) := by
  intro r sa H0 O0 O σ δ s H gd Q h
  refine ha gd _ (post_mono (post_bind h) (fun xs s1 hx v H1 st ra rp => ?_) (fun _ _ z => z))
  obtain ⟨es, e, hx⟩ := post_lift hx
  have gd1 := gd.step st ra
  have far : ∀ l, H1 l = none → H l = none := fun l hl => by
    cases q : H l with
    | none => rfl
    | some u =>
      have nr : l ≠ r := fun z => by rw [z, ra.1] at hl; cases hl
      rw [st l u nr q] at hl; cases hl
  have fin : ∀ (ys : List V), Reps B r (hid H1 O) ys es → ∀ l, H1 l = none → Q (.ref l) (upd H1 l (.lst ys)) := fun ys hr l hl =>
    hx l ys _ (st.trans (Stp.new hl)) (ra.new hl) (far l hl) upd_same (hr.mono (gd1.takeIn (o := .lst ys) hl).2)
  unfold seqA at e
  split at e
  · cases e
    obtain ⟨w, rfl, rq⟩ := rp.one
    obtain ⟨a, vs, rfl, h3, h4⟩ := rq.inv_lst
    exact ⟨a, vs, rfl, .inl (SqL.of (hid_le _ _ h3)), fin vs h4⟩
  · cases e
    obtain ⟨w, rfl, rq⟩ := rp.one
    obtain ⟨a, vs, rfl, h3, h4⟩ := rq.inv_tup
    exact ⟨a, vs, rfl, .inr (sqT_le h3), fin vs h4⟩
  · cases e
/-! ### tuple(range(i, j)) -/
theorem rd_tr2 {B : Bs} {W : List Nat} {E : Option XK} {ta tb : TE} {fa fb : En → M D} (ha : RdE B W E ta fa) (hb : RdE B W E tb fb) : RdE B W E (tTupRg (tRg2 ta tb)) (cB gTR2 (cCons fa (cCons fb cNil))) := by
  intro r sa H0 O0 O σ δ s H gd Q h
  have h : (((fa δ s).bind fun x s1 => ((fb δ s1).bind fun y s2 => Out.ok [y] s2).bind fun ys s2 => Out.ok (x :: ys) s2).bind fun ds s3 => lift (gTR2 ds) s3).post (OkV B r sa H O Q) (EPost B E r sa H O) := h
  refine ha gd _ (post_mono (post_bind (post_bind h)) (fun x s1 hx v H1 st ra rp => ?_) (fun _ _ z => z))
  have gd1 := gd.step st ra
  refine hb gd1 _ (post_mono (post_bind (post_bind hx)) (fun y s2 hy u H2 st2 ra2 rq => ?_) (fun _ _ z => z.mono st))
  obtain ⟨d, e, hd⟩ := post_lift hy
  unfold gTR2 at e
  split at e
  · rename_i i j hz
    cases hz
    cases rp
    cases rq
    split at e
    · rename_i hj
      cases e
      refine ⟨_, _, rfl, rfl, ⟨hj.1, hj.2.1, hj.2.2.1, hj.2.2.2.1, Evl.sz_of hj.2.2.2.2⟩, fun p hp => ?_⟩
      have := new_tup (B := B) (r := r) (O := O) hp (gd1.step st2 ra2).dom (rg_reps i j)
      exact hd _ _ ((st.trans st2).trans (Stp.new hp)) (ra2.new hp) this
    · cases e
  · cases e
end PV

namespace PV
open PySem L2
/-! ### owned lists that are read: an item, a slice, turned round; sums and multiples as lists of one's own -/
section
variable {B : Bs} {W : List Nat} {E : Option XK}
def cIxO (i : Nat) (f : En → M D) : En → M D := fun δ s => (lift (ownL δ i) s).bind fun ds s0 => (f δ s0).bind fun k s1 => lift (gIx (.lst ds) k) s1
def cSlO (i : Nat) (fl fh : En → M (Option Int)) : En → M D := fun δ s => (lift (ownL δ i) s).bind fun ds s0 => (fl δ s0).bind fun lo s1 => (fh δ s1).bind fun hi s2 => .ok (.lst (cutD ds lo hi)) s2
def cRevO (i : Nat) : En → M (List D) := fun δ s => (lift (ownL δ i) s).bind fun ds s0 => .ok ds.reverse s0
def cAddL (fa fb : En → M D) : En → M (List D) := fun δ s => (fa δ s).bind fun x s1 => (fb δ s1).bind fun y s2 => (lift (asLst x) s2).bind fun xs s3 => (lift (asLst y) s3).bind fun ys s4 => if xs.length + ys.length ≤ 100000 then .ok (xs ++ ys) s4 else .stuck
@[simp] theorem e_ixO (i : Nat) (f : En → M D) (δ : En) (s : S) : cIxO i f δ s = (lift (ownL δ i) s).bind fun ds s0 => (f δ s0).bind fun k s1 => lift (gIx (.lst ds) k) s1 := rfl
@[simp] theorem e_slO (i : Nat) (fl fh) (δ : En) (s : S) : cSlO i fl fh δ s = (lift (ownL δ i) s).bind fun ds s0 => (fl δ s0).bind fun lo s1 => (fh δ s1).bind fun hi s2 => .ok (.lst (cutD ds lo hi)) s2 := rfl
@[simp] theorem e_revO (i : Nat) (δ : En) (s : S) : cRevO i δ s = (lift (ownL δ i) s).bind fun ds s0 => .ok ds.reverse s0 := rfl
@[simp] theorem e_addL (fa fb : En → M D) (δ : En) (s : S) : cAddL fa fb δ s = (fa δ s).bind fun x s1 => (fb δ s1).bind fun y s2 => (lift (asLst x) s2).bind fun xs s3 => (lift (asLst y) s3).bind fun ys s4 => if xs.length + ys.length ≤ 100000 then .ok (xs ++ ys) s4 else .stuck := rfl
/-- an address that is free behind a step was free ahead of it -/
theorem free_ahead {r sa : Addr} {H H1 : Hp} {s : S} {q : Addr} (st : Stp r H H1) (ra : RowAt B r sa H1 s) (hq : H1 q = none) : H q = none := by
  cases z : H q with
  | none => rfl
  | some u =>
    by_cases w : q = r
    · subst w; rw [ra.1] at hq; cases hq
    · rw [st q u w z] at hq; cases hq
theorem hid_push {H : Hp} {O : List Addr} {q : Addr} {o : HO} (hq : H q = none) : Same (hid H O) (hid (upd H q o) (q :: O)) := fun a u e => by
  have ⟨k1, k2⟩ := hid_some e
  have na : a ≠ q := ne_of_none k2 hq
  rw [hid_out (by simp [na, k1]), upd_ne na]; exact k2
theorem rd_ixO {i : Nat} {tk : TE} {f : En → M D} (h : RdE B W E tk f) (hi : decide (i ∈ W) = true := by rfl) : RdE B W E (tOp (rIx B.K) (tVar i) tk) (cIxO i f) := by
  intro r sa H0 O0 O σ δ s H gd Q hp
  obtain ⟨ds, e0, hp⟩ := post_lift (post_bind hp)
  obtain ⟨p, vs, ds', h1, h2, h3, h4, h5, h6⟩ := gd.own i _ (of_decide_eq_true hi) (ownL_some e0)
  cases h1
  refine ⟨_, h2, h gd _ (post_mono (post_bind hp) (fun k s1 hx v H1 st ra rp => ?_) (fun _ _ z => z))⟩
  obtain ⟨d, e, hd⟩ := post_lift hx
  cases k with
  | int j =>
    cases rp
    obtain ⟨w, w1, w2⟩ := reps_at h6 e
    exact .inl ⟨p, vs, _, w, rfl, rfl, SqL.of (st p _ (fun z => h4 (z ▸ gd.r0)) h5), w1, hd _ H1 st ra (w2.mono (st.hid gd.rO))⟩
  | _ => cases e
theorem rd_slO {i : Nat} {tl th : TO} {fl fh : En → M (Option Int)} (hl : RdO B W E tl fl) (hh : RdO B W E th fh) (hi : decide (i ∈ W) = true := by rfl) : RdE B W E (tSl (rSlU B.K) (tVar i) tl th) (cSlO i fl fh) := by
  intro r sa H0 O0 O σ δ s H gd Q hp
  obtain ⟨ds, e0, hp⟩ := post_lift (post_bind hp)
  obtain ⟨p, vs, ds', h1, h2, h3, h4, h5, h6⟩ := gd.own i _ (of_decide_eq_true hi) (ownL_some e0)
  cases h1
  refine ⟨_, h2, hl gd _ (post_mono (post_bind hp) (fun lo s1 hx H1 st ra => ?_) (fun _ _ z => z))⟩
  have gd1 := gd.step st ra
  refine hh gd1 _ (post_mono (post_bind hx) (fun hi' s2 hx H2 st2 ra2 => ?_) (fun _ _ z => z.mono st))
  have gd2 := gd1.step st2 ra2
  have st' := st.trans st2
  exact .inl ⟨p, vs, rfl, SqL.of (st' p _ (fun z => h4 (z ▸ gd.r0)) h5), fun q hq => hx _ _ (st'.trans (Stp.new hq)) (ra2.new hq) (new_lst hq gd2.dom (h6.mono (st'.hid gd.rO)).cut)⟩
theorem rl_revO {i : Nat} (hi : decide (i ∈ W) = true := by rfl) : RdL B W E (tRevU B.K (tVar i)) (cRevO i) := by
  intro r sa H0 O0 O σ δ s H gd Q hp
  obtain ⟨ds, e0, hp⟩ := post_lift (post_bind hp)
  obtain ⟨p, vs, ds', h1, h2, h3, h4, h5, h6⟩ := gd.own i _ (of_decide_eq_true hi) (ownL_some e0)
  cases h1
  exact ⟨_, h2, p, vs, rfl, .inl ⟨SqL.of h5, fun q hq => hp q _ _ (Stp.new hq) (gd.row.new hq) hq upd_same (h6.reverse.mono (hid_push hq))⟩⟩
theorem rl_addE {ta tb : TE} {fa fb : En → M D} (ha : RdE B W E ta fa) (hb : RdE B W E tb fb) : RdL B W E (tOp (rAddU B.K) ta tb) (cAddL fa fb) := by
  intro r sa H0 O0 O σ δ s H gd Q hp
  refine ha gd _ (post_mono (post_bind hp) (fun x s1 hx v H1 st ra rp => ?_) (fun _ _ z => z))
  have gd1 := gd.step st ra
  refine hb gd1 _ (post_mono (post_bind hx) (fun y s2 hy w H2 st2 ra2 rq => ?_) (fun _ _ z => z.mono st))
  obtain ⟨xs, e1, hz⟩ := post_lift (post_bind hy)
  obtain ⟨ys, e2, hw⟩ := post_lift (post_bind hz)
  clear hy hz
  cases asLst_some e1
  cases asLst_some e2
  obtain ⟨a, us, rfl, h1, h2⟩ := rp.inv_lst
  obtain ⟨b, ws, rfl, h3, h4⟩ := rq.inv_lst
  split at hw
  · rename_i hl
    have sm := st2.hid gd.rO
    have st' := st.trans st2
    refine .inr (.inl ⟨a, b, us, ws, rfl, rfl, hid_le _ _ (sm _ _ h1), hid_le _ _ h3, Evl.sz_of (by rw [h2.length, h4.length]; exact hl), fun q hq => ?_⟩)
    exact hw q _ _ (st'.trans (Stp.new hq)) (ra2.new hq) (free_ahead st' ra2 hq) upd_same (((h2.mono sm).append h4).mono (hid_push hq))
  · exact hw.elim
end
end PV

namespace PV
open PySem L2
/-! ### == by the class's own __eq__; properties of sales -/
def rOwnE (K : PySem.W.Frag) (C : Addr) (sp : Sp) (E : XK) : R2 := fun x y H Q => ∃ a dx fs tb, x = .ref a ∧ H a = some (.ins C dx fs) ∧ TyX K H y tb ∧ PySem.W.notFirst K C tb = true ∧ sp [.ref a, y] H (fun v H' => ∃ b, v = .bl b ∧ Q (.bl b) H') E
theorem op_ownE {X : Cx} {CX : CXT} {n : Nat} {C f : Addr} {fd : FuncData} {ps : List Str} {sp : Sp} {E : XK} (G : FnOk X.prog X.w X.K X.mg X.base CX n f fd ps sp) (place : PySem.W.findIn X.K (.ref C) "__eq__" = some (some (.ref f))) (isf : PySem.W.isFn X.K (.ref f) = true) (bnd : Binds X.K fd ps [])
    (pass : Passes CX X E) (room : Room n X.A) : OpR X (compareOp .Eq) (rOwnE X.K C sp E) := by
  intro pins s σ H x y v u Q I rx ry h
  obtain ⟨a, dx, fs, tb, rfl, ha, ty, nf, h⟩ := h
  cases rx
  obtain ⟨P, kx, hP, _⟩ := kit_of I ry ty
  obtain ⟨mA, J0, _⟩ := ins_get I.hok ha
  obtain ⟨od, J, _⟩ := J0.look
  obtain ⟨m, hF⟩ := I.fr
  show wpAny (model X.prog X.w) X.A (richCompare .Eq (.ref a) u) (EP X pins σ Q) X.xe s
  refine PySem.W.cmp_K (op := .Eq) room.units0 hF I.ok.mod.kin J (kx.ty _ _ I.kIn hP) nf place isf ?_
  have both : Vals [V.ref a, y] [Value.ref a, u] := .cons (show RelV (.ref a) (Value.ref a) from rfl) (.cons ry .nil)
  refine wpAny_mono (run_fn (vs := [V.ref a, y]) (dvs := []) G room bnd .nil pass I both h) (fun w t q => ?_) (fun _ _ z => z)
  obtain ⟨z, H', I', rz, b, rfl, q⟩ := q
  cases rz
  exact ⟨.bl b, H', I', rfl, q⟩
structure EqF (B : Bs) : Prop where
  nf0 : PySem.W.notFirst B.K B.cs (.ref B.cs) = true
  nf : ∀ T ∈ ["NoneType", "bool", "int", "str", "tuple", "list", "dict"], PySem.W.notFirst B.K B.cs (.type T) = true
/-- sale == x -/
def cEqS (F : List D → M D) (fa fb : En → M D) : En → M D := fun δ s => (fa δ s).bind fun x s1 => (fb δ s1).bind fun y s2 => if isSal x && okR y then (F [x, y] s2).bind fun d s3 => (lift (asB d) s3).bind fun b s4 => .ok (.bl b) s4 else .stuck
where
  isSal : D → Bool | .sal _ _ => true | _ => false
  okR : D → Bool | .sal _ _ => true | d => (tyD d).isSome
section
variable {B : Bs} {W : List Nat} {E : Option XK}
theorem rd_eqS {F : List D → M D} {ta tb : TE} {fa fb : En → M D} (SF : SaleF B) (ef : EqF B) (ha : RdE B W none ta fa) (hb : RdE B W none tb fb) : RdE B W none (tOp (rOwnE B.K B.cs (spD B 2 F) E0) ta tb) (cEqS F fa fb) := by
  intro r sa H0 O0 O σ δ s H gd Q h
  refine ha gd _ (post_mono (post_bind h) (fun x s1 hx v H1 st ra rp => ?_) (fun _ _ z => z))
  have gd1 := gd.step st ra
  refine hb gd1 _ (post_mono (post_bind hx) (fun y s2 hy w H2 st2 ra2 rq => ?_) (fun _ _ z => z))
  have gd2 := gd1.step st2 ra2
  split at hy
  · rename_i hc
    rw [Bool.and_eq_true] at hc
    have rp2 := rp.mono (st2.hid gd.rO)
    have hty : ∃ t, TyX B.K H2 w t ∧ PySem.W.notFirst B.K B.cs t = true := by
      cases e : tyD y with
      | some t => exact ⟨_, rep_ty (rq.mono hid_le) e, ef.nf t (tyD_in e)⟩
      | none =>
        cases y <;> simp [cEqS.okR, tyD] at hc e
        cases rq with
        | sal hH h1 h2 => exact ⟨_, .base (.ins (hid_le _ _ hH) SF.cl SF.ha SF.hn SF.htk SF.hm), ef.nf0⟩
    obtain ⟨t, ty, nf⟩ := hty
    cases x <;> simp [cEqS.isSal] at hc
    have rs := rp2
    cases rp2 with
    | sal hH h1 h2 =>
      refine ⟨_, _, _, t, rfl, hid_le _ _ hH, ty, nf, rfl, r, sa, O, _, s2, ra2, gd.rO, gd2.dom, .cons rs (.cons rq .nil), ?_⟩
      refine post_mono (post_bind hy) (fun d s3 hd z H3 st3 ra3 rz => ?_) (fun _ _ z => z)
      obtain ⟨b, eb, hd⟩ := post_lift (post_bind hd)
      obtain ⟨rfl, rfl⟩ := rep_bl rz eb
      exact ⟨b, rfl, hd _ H3 ((st.trans st2).trans st3) ra3 (.bl b)⟩
  · exact hy.elim
@[simp] theorem e_eqS (F : List D → M D) (fa fb : En → M D) (δ : En) (s : S) : cEqS F fa fb δ s = (fa δ s).bind fun x s1 => (fb δ s1).bind fun y s2 => if cEqS.isSal x && cEqS.okR y then (F [x, y] s2).bind fun d s3 => (lift (asB d) s3).bind fun b s4 => .ok (.bl b) s4 else .stuck := rfl
/-- sale.buyers, sale.things -/
theorem rd_pcrowd {te : TE} {fa : En → M D} {EE : XK} (ha : RdE B W E te fa) : RdE B W E (tProp B.cs (getSp B.cs "crowd") [] EE te) (cUn g_crowd fa) := by
  intro r sa H0 O0 O σ δ s H gd Q h
  refine ha gd _ (post_mono (post_bind h) (fun x s1 hx v H1 st ra rp => ?_) (fun _ _ z => z))
  obtain ⟨d, e, hd⟩ := post_lift hx
  cases x <;> simp [g_crowd] at e
  subst e
  cases rp with
  | sal hH h1 h2 => exact ⟨_, _, _, rfl, hid_le _ _ hH, _, _, _, _, rfl, hid_le _ _ hH, rfl, hd _ H1 st ra h1⟩
theorem rd_pstock {te : TE} {fa : En → M D} {EE : XK} (ha : RdE B W E te fa) : RdE B W E (tProp B.cs (getSp B.cs "stock") [] EE te) (cUn g_stock fa) := by
  intro r sa H0 O0 O σ δ s H gd Q h
  refine ha gd _ (post_mono (post_bind h) (fun x s1 hx v H1 st ra rp => ?_) (fun _ _ z => z))
  obtain ⟨d, e, hd⟩ := post_lift hx
  cases x <;> simp [g_stock] at e
  subst e
  cases rp with
  | sal hH h1 h2 => exact ⟨_, _, _, rfl, hid_le _ _ hH, _, _, _, _, rfl, hid_le _ _ hH, rfl, hd _ H1 st ra h2⟩
end
structure PrF (B : Bs) (f fld : Str) where
  p : Addr
  g : Addr
  d : FuncData
  hp : PropOf B.K B.cs f p g
  F : ∀ {P : Program} {w : World} {mg : Str → Option Value} {base : Heap}, FnOk P w B.K mg base CX0 1 g d ["self"] (getSp B.cs fld)
  b : Binds B.K d ["self"] []
/-! ### a class made inside a try -/
def tMakeS (C : Addr) (sp : Sp) (Ex : L2.St → XK) (t : TA) : TE := fun σ H Q => tMake C sp [] (Ex σ) t σ H Q
section
open PySem.Spec PyProof.Rows
variable {X : Cx} {CX : CXT} {k : Nat} {f C : Addr} {fd : FuncData} {ps : List Str} {sp : Sp} {Ex : L2.St → XK} {x : Str} {p pos : Pos} {e : Expr} {es : List Expr} {t : TA}
theorem born {pins : List (Addr × Obj)} {σ : L2.St} {H : Hp} {s : Shared} {Q : VK} {us : List Value} {vs : List V} (mk : Mk X.K C f) (G : FnOk X.prog X.w X.K X.mg X.base CX k f fd ps sp) (room : Room (k + 1) X.A) (bnd : Binds X.K fd ps []) (pass : PassesAt CX X σ (Ex σ)) (I : L2.Inv X pins σ H s) (rel : Vals vs us)
    (go : ∀ y dy, H y = none → H dy = none → dy ≠ y → sp (.ref y :: vs) (upd (upd H dy (.own y)) y (.ins C dy [])) (fun v G => v = .non ∧ Q (.ref y) G) (Ex σ)) : wpAny (model X.prog X.w) X.A (call (.ref C) us) (EP X pins σ Q) X.xe s := by
  let y := s.heap.objs.size + 1
  have prom := go y s.heap.objs.size (I.hok.fresh (Nat.le_succ _)) (I.hok.fresh (Nat.le_refl _)) (Nat.ne_of_lt (Nat.lt_succ_self _))
  have inv := L2.Inv.made (C := C) I
  have both : Vals (V.ref y :: vs) (Value.ref y :: us) := .cons (show RelV (.ref y) (Value.ref y) from rfl) rel
  have len : (Value.ref y :: us).length = ps.length := both.length.symm.trans (G.len _ _ _ _ prom)
  have bd := bnd _ (Value.ref y :: us) inv.kIn (by rw [List.append_nil]; exact len)
  rw [List.append_nil] at bd
  have ran := G.run _ X.stack _ _ ⟨Value.ref y :: us, []⟩ (Value.ref y :: us) _ _ (Ex σ) (room.make C us []) (inv.env0.make C us []) bd both prom
  refine wpAny_call (make_map (f := f) I.kIn mk.makes mk.init (beq_iff_eq.mp mk.fn) (codeAny_mono ran fun out s' got => ?_))
  rcases out with er | fl
  · exact pass pins _ _ er s' inv got
  · rcases fl with _ | u | _ | _
    all_goals first
      | exact False.elim got
      | (obtain ⟨v, G', I3, rv, ev, q3⟩ := inv.after got
         subst ev
         exact ⟨rv, V.ref y, G', I3, rfl, q3⟩)
theorem pe_makeS (mk : Mk X.K C f) (G : FnOk X.prog X.w X.K X.mg X.base CX k f fd ps sp) (room : Room (k + 1) X.A) (glob : Gl X x) (here : X.mg x = some (.ref C)) (bnd : Binds X.K fd ps []) (pass : ∀ σ, PassesAt CX X σ (Ex σ)) (args : PA X (e :: es) t)
    (nodb : (x == ("__debug__" : Str)) = false := by decide) (st1 : starEach (e :: es) X.env = (false, eval e X.env) :: starEach es X.env := by rfl) (st2 : (backTo pos (starEach es X.env)).any (·.1) = false := by rfl) : PE X (.Call (.Name x p) (e :: es) [] pos) (tMakeS C sp Ex t) := by
  constructor
  intro pins s σ H Q I h
  refine wpAny_Call_Name_kw (ld_glob I glob here ?_ nodb)
  refine PySem.W.callWith_K (h₀ := X.base) I.ok.mod.kin mk.kp (thn (args.run pos pins s σ H _ I h) fun us s1 got => ?_) st1 st2
  obtain ⟨vs, H1, I1, rel, q⟩ := got
  refine ⟨I1.kIn, born mk G room bnd (pass σ) I1 rel fun y dy a b c => ?_⟩
  have := q y dy a b c
  rw [List.append_nil] at this
  exact this
end
section
variable {B : Bs} {W : List Nat}
theorem rs_tryM {XS CS : List Str} {l : List Hd1} {hl : HL} {F : Addr → List D → M D} {tr : TA} {fr : En → M (List D)} (X : ExmF B XS CS) (hx : ∀ x ds s, F x ds s = F 0 ds s) (ha : ∀ E : XK, RdA B W (some E) tr fr) (hh : RdHs B W CS l hl) :
    RdS B W none (fun D σ H => tDrop (tMakeS B.cs (spInitX B F) (WE (wMix B.K (fun _ _ _ _ => False) D l)) tr) D σ H) (cTry XS (cCall 2 (F 0) fr) hl) :=
  rs_try (te := fun E => tMake B.cs (spInitX B F) [] E tr) (tE := fun Wx => tMakeS B.cs (spInitX B F) Wx tr) X (fun _ _ _ _ h => h) (fun E => rd_makeS hx (ha E)) hh
/-- a class whose __init__ refuses -/
def noOk : Out D → Out D | .err e s => .err e s | _ => .stuck
@[simp] theorem noOk_err (e : Err) (s : S) : noOk (.err e s) = .err e s := rfl
def cMakeR (F : List D → M D) (fr : En → M (List D)) : En → M D := fun δ s => (fr δ s).bind fun ds s1 => if ds.length = 1 then noOk (F (.obj 0 :: ds) s1) else .stuck
@[simp] theorem e_makeR (F : List D → M D) (fr : En → M (List D)) (δ : En) (s : S) : cMakeR F fr δ s = (fr δ s).bind fun ds s1 => if ds.length = 1 then noOk (F (.obj 0 :: ds) s1) else .stuck := rfl
theorem rd_makeR {C : Addr} {F : List D → M D} {tr : TA} {fr : En → M (List D)} {E : XK} (hx : ∀ x ds s, F (.obj x :: ds) s = F (.obj 0 :: ds) s) (ha : RdA B W (some E) tr fr) : RdE B W (some E) (tMake C (spX B 2 F) [] E tr) (cMakeR F fr) := by
  intro r sa H0 O0 O σ δ s H gd Q h
  refine ha gd _ (post_mono (post_bind h) (fun ds s1 hd v H1 st ra rp => ?_) (fun _ _ z => z))
  split at hd
  · rename_i hl
    intro x dx nx ndx ne
    have gd1 := gd.step st ra
    have grow : ∀ a o, H1 a = some o → upd (upd H1 dx (.own x)) x (.ins C dx []) a = some o := fun a o e => by
      rw [upd_ne (ne_of_none e nx), upd_ne (ne_of_none e ndx)]; exact e
    rw [List.append_nil]
    refine ⟨by simp [rp.length, hl], r, sa, O, .obj x :: ds, s1, ra.same grow, gd.rO, fun p hp => ?_, .cons (.obj x) (rp.mono fun a o e => ?_), ?_⟩
    · cases q : H1 p with
      | none => exact absurd q (gd1.dom p hp)
      | some o => rw [grow p o q]; exact fun z => nomatch z
    · have ⟨h1, h2⟩ := hid_some e
      rw [hid_out h1]; exact grow a o h2
    · rw [hx]
      cases q : F (.obj 0 :: ds) s1 with
      | stuck => rw [q] at hd; exact hd
      | ok d s2 => rw [q] at hd; exact hd.elim
      | err e s2 =>
        rw [q] at hd
        exact fun cl d H' st' ra' xr => hd cl d H' (fun a o na ea => st' a o na (grow a o (st a o na ea))) ra' xr
  · exact hd.elim
end
end PV

namespace PV
open PySem PySem.Spec PyProof.Rows L2
/-! ### a def that calls itself: its room counted frame by frame -/
structure RoomN (n : Nat) (A : Around) : Prop where
  none_ : A.handled = none
  frames : A.depth + n + 8 < recursionLimit
  stack : A.units + 4 * n + 210 < cLine
theorem RoomN.of {k n : Nat} {A : Around} (R : Room k A) (h : n + 3 ≤ 3 * k) : RoomN n A := by
  obtain ⟨h1, h2, h3⟩ := R
  exact ⟨h1, by omega, by omega⟩
theorem RoomN.inner {n : Nat} {A : Around} (R : RoomN (n + 1) A) (env : Env) : RoomN n (A.deeper env) := by
  obtain ⟨h1, h2, h3⟩ := R
  exact ⟨h1, (by show A.depth + 1 + n + 8 < recursionLimit; omega), (by show A.units + 3 + 4 * n + 210 < cLine; omega)⟩
theorem RoomN.eqs {n : Nat} {A : Around} (R : RoomN n A) : A.units + 64 < cLine := by have := R.stack; omega
section
variable {P : Program} {w : World} {K : PySem.W.Frag} {mg : Str → Option Value} {base : Heap} {n : Nat} {f : Addr} {fd : FuncData} {ps : List Str} {sp : Sp}
structure FnN (P : Program) (w : World) (K : PySem.W.Frag) (mg : Str → Option Value) (base : Heap) (n : Nat) (f : Addr) (fd : FuncData) (ps : List Str) (sp : Sp) : Prop where
  count : ∀ vs H Q E, sp vs H Q E → vs.length = ps.length
  go : ∀ {A : Around} {outer : List Env} {s : Shared} {H : Hp} {args : Args} {us : List Value} {vs : List V} {Q : VK} {E : XK}, RoomN n A → Env0 P w K mg base A outer s H → BindsTo s fd args (ps.zip us) → Vals vs us → sp vs H Q E →
    codeAny (model P w) A (.call (.ref f) args) (CR CX0 outer P w H s Q E) s
theorem FnN.ok {k : Nat} (G : FnN P w K mg base n f fd ps sp) (h : n + 3 ≤ 3 * k) : FnOk P w K mg base CX0 k f fd ps sp := by
  constructor
  · exact G.count
  · intro A outer s H args us vs Q E R env bd rel pr
    exact G.go (RoomN.of R h) env bd rel pr
theorem fnN_of {name qual : Str} {st : Stmt} {N : List Str} (F : Fun K name qual st f fd) (Sc : FnScope N ps (defScope st)) (len : ∀ vs H Q E, sp vs H Q E → vs.length = ps.length)
    (body : ∀ (cdv : Value) (A : Around) (outer : List Env) (s : Shared) (H : Hp) (vs : List V) (Q : VK) (E : XK), RoomN n (A.deeper (envOfC qual (defScope st) s.heap.objs.size f cdv)) → sp vs H Q E →
      ∃ t, PSs (cxOf CX0 P w K mg base N qual (defScope st) f cdv A outer s H E).nox (defBody st) t ∧ t { nx := fun _ H' => Q .non H', rt := Q } (start N vs) H) : FnN P w K mg base (n + 1) f fd ps sp := by
  obtain ⟨oc, od, kV, doc, pm, an, cdv, ct, osl, rfl, at_, code⟩ := F.ex
  constructor
  · exact len
  · intro A outer s H args us vs Q E R env bd rel pr
    have here : K.In s.heap := env.mod.kin.keeps fun b o e => (env.bs b o e).1
    have open_ : s.heap.NoLimit := env.mod.nolimit.keeps fun b o e => (env.bs b o e).1
    have room : A.depth < recursionLimit := by have := R.frames; omega
    have cnt := len _ _ _ _ pr
    have kinds : ∀ y ∈ ps.zip us, (defScope st).names.lookup y.1 = some .local ∨ ((defScope st).names.lookup y.1 = some .cell ∧ ((cellsFrom (s.heap.objs.size + 1) (defScope st).names []).lookup y.1).isSome = true) := by
      rintro ⟨nm, v⟩ hy
      cases Sc.par nm (List.of_mem_zip hy).1 with
      | inl q => exact .inl q
      | inr q => exact .inr ⟨q, PySem.W.cellsFrom_some _ _ _ (.inl q)⟩
    refine codeAny_call_function room (here _ _ at_) rfl Sc.co Sc.gen rfl (PySem.W.codeRec_of here code) (bd _ _ _ _ ?_)
    apply wpAny_newFunctionEnv_cells Sc.kind kinds
    intro ev hev t x
    subst hev
    refine ⟨open_.keeps x.toInCall.keep, codeAny_func ?_⟩
    obtain ⟨rd, der, holds⟩ := body cdv A outer s H vs Q E (R.inner _) pr
    have inv : L2.Inv (cxOf CX0 P w K mg base N qual (defScope st) f cdv A outer s H E) [] (start N vs) H t := inv_start Sc R.none_ env cnt rel x
    apply wpAny_mono (der.nox.run [] t (start N vs) H _ inv holds)
    · intro fl t' got
      have back : ∀ {σ' : L2.St} {H' : Hp} {v : V} {u : Value}, L2.Inv (cxOf CX0 P w K mg base N qual (defScope st) f cdv A outer s H E) [] σ' H' t' → RelV v u → Q v H' → CE outer P w H s Q u t' := by
        intro σ' H' v u J rv q
        exact ⟨v, H', J.os, J.bare, J.base, J.hok, rv, q⟩
      match fl, got with
      | .ret u, ⟨v, σ', H', J, rv, q⟩ => exact back J rv q
      | .next, ⟨σ', H', J, q⟩ => exact back (v := V.non) (u := Value.none) J rfl q
      | .brk, ⟨_, _, _, q⟩ => exact q.elim
      | .cont, ⟨_, _, _, q⟩ => exact q.elim
    · intro e t' got
      exact got
end
section
variable {X : Cx} {n : Nat} {f : Addr} {fd : FuncData} {ps : List Str} {sp : Sp} {x : Str} {p pos : Pos} {e : Expr} {es : List Expr} {t : TA}
theorem pe_callN (G : FnN X.prog X.w X.K X.mg X.base n f fd ps sp) (R : RoomN n X.A) (glob : Gl X x) (here : X.mg x = some (.ref f)) (kept : PySem.W.keepIn X.K (.ref f) = true) (bnd : Binds X.K fd ps []) (args : PA X (e :: es) t)
    (nd : (x == ("__debug__" : Str)) = false := by decide) (st1 : starEach (e :: es) X.env = (false, eval e X.env) :: starEach es X.env := by rfl) (st2 : (backTo pos (starEach es X.env)).any (·.1) = false := by rfl) :
    PE X (.Call (.Name x p) (e :: es) [] pos) (tCall sp [] E0 t) := by
  constructor
  intro pins s σ H Q I h
  refine wpAny_Call_Name_kw (ld_glob I glob here ?_ nd)
  refine PySem.W.callWith_K (h₀ := X.base) I.ok.mod.kin kept (thn (args.run pos pins s σ H _ I h) fun us s1 hv => ?_) st1 st2
  obtain ⟨vs, H1, I1, rel, pr⟩ := hv
  refine ⟨I1.kIn, ?_⟩
  rw [List.append_nil] at pr
  have cnt : us.length = ps.length := rel.length.symm.trans (G.count _ _ _ _ pr)
  have bd := bnd s1 us I1.kIn (by rw [List.append_nil]; exact cnt)
  rw [List.append_nil] at bd
  refine wpAny_call (codeAny_mono (G.go R I1.env0 bd rel pr) fun out t' got => ?_)
  match out, got with
  | .error er, got => exact absurd got (by intro z; exact z.elim)
  | .ok (.ret u), got => exact I1.after got
  | .ok .next, got => exact got.elim
  | .ok .brk, got => exact got.elim
  | .ok .cont, got => exact got.elim
end
/-! ### [x] * n as a list of one's own -/
def cMulL (fa fb : En → M D) : En → M (List D) := fun δ s => (fa δ s).bind fun x s1 => (fb δ s1).bind fun y s2 => (lift (asLst x) s2).bind fun xs s3 => (lift (asI y) s3).bind fun k s4 => if k ≤ 100000 ∧ -100000 ≤ k ∧ xs.length * k.toNat ≤ 100000 then .ok (List.replicate k.toNat xs).flatten s4 else .stuck
@[simp] theorem e_mulL (fa fb : En → M D) (δ : En) (s : S) : cMulL fa fb δ s = (fa δ s).bind fun x s1 => (fb δ s1).bind fun y s2 => (lift (asLst x) s2).bind fun xs s3 => (lift (asI y) s3).bind fun k s4 => if k ≤ 100000 ∧ -100000 ≤ k ∧ xs.length * k.toNat ≤ 100000 then .ok (List.replicate k.toNat xs).flatten s4 else .stuck := rfl
theorem rl_mulE {B : Bs} {W : List Nat} {E : Option XK} {ta tb : TE} {fa fb : En → M D} (ha : RdE B W E ta fa) (hb : RdE B W E tb fb) : RdL B W E (tOp (rMulU B.K) ta tb) (cMulL fa fb) := by
  intro r sa H0 O0 O σ δ s H gd Q hp
  refine ha gd _ (post_mono (post_bind hp) (fun x s1 hx v H1 st ra rp => ?_) (fun _ _ z => z))
  have gd1 := gd.step st ra
  refine hb gd1 _ (post_mono (post_bind hx) (fun y s2 hy w H2 st2 ra2 rq => ?_) (fun _ _ z => z.mono st))
  obtain ⟨xs, e1, hz⟩ := post_lift (post_bind hy)
  obtain ⟨k, e2, hw⟩ := post_lift (post_bind hz)
  clear hy hz
  cases asLst_some e1
  have ey : y = .int k := by
    cases y <;> simp [asI] at e2
    rw [e2]
  subst ey
  obtain ⟨a, us, rfl, h1, h2⟩ := rp.inv_lst
  cases rq.inv_int
  split at hw
  · rename_i hl
    have sm := st2.hid gd.rO
    refine .inr (.inl ⟨a, k, us, rfl, rfl, hid_le _ _ (sm _ _ h1), by omega, by omega, Evl.sz_of (by rw [h2.length]; exact hl.2.2), fun q hq => ?_⟩)
    exact hw q _ _ ((st.trans st2).trans (Stp.new hq)) (ra2.new hq) (free_ahead (st.trans st2) ra2 hq) upd_same (((h2.mono sm).flat _).mono (hid_push hq))
  · exact hw.elim
theorem gcdN_ok {B : Bs} {P : Program} {w : World} {mg : Str → Option Value} {base : Heap} {x qual : Str} {st : Stmt} {f : Addr} {fd : FuncData} {N ps : List Str} (F : Fun B.K x qual st f fd) (Sc : FnScope N ps (defScope st)) (hN : N.length = 2) (hp : ps.length = 2)
    (hb : ∀ (n : Nat) (t : TE) (cdv : Value) (A : Around) (outer : List Env) (s : Shared) (H : Hp) (E : XK), RoomN n (A.deeper (PyProof.Rows.envOfC qual (defScope st) s.heap.objs.size f cdv)) →
      (n = 0 ∧ t = (fun _ _ _ => False) ∨ ∃ k, n = k + 1 ∧ FnN P w B.K mg base n f fd ps (spD B 2 (gcdF k)) ∧ t = t_gcdR B k) →
      PSs (cxOf CX0 P w B.K mg base N qual (defScope st) f cdv A outer s H E).nox (defBody st) (t_gcd B.K t)) : ∀ L, FnN P w B.K mg base (L + 1) f fd ps (spD B 2 (gcdF L)) := by
  have read : ∀ (L : Nat) (tr : TE) (vs : List V) (H : Hp) (Q : VK) (E : XK), (∀ a b : Int, b ≠ 0 → vs = [.int a, .int b] → (∃ d, (egs L a b) = some d) → tr (start N vs) H Q) → spD B 2 (gcdF L) vs H Q E → t_gcd B.K tr { nx := fun _ H' => Q .non H', rt := Q } (start N vs) H := by
    intro L tr vs H Q E htr h
    obtain ⟨hl, r, sa, O, ds, s0, ra, hrO, hdom, rp, hq⟩ := h
    unfold gcdF at hq
    split at hq
    · rename_i a b
      obtain ⟨v, w', rfl, r1, r2⟩ := rp.two
      cases r1; cases r2
      obtain ⟨d, e, hq⟩ := post_lift hq
      obtain ⟨g, e1, e2⟩ := Option.map_eq_some_iff.mp e
      subst e2
      have hs : start N [V.int a, V.int b] = [some (.int a), some (.int b)] := by unfold L2.start; rw [hN]; rfl
      by_cases hb0 : b = 0
      · subst hb0
        have eg : g = if a < 0 then -a else a := by
          cases L with
          | zero => unfold egs at e1; rw [if_pos rfl] at e1; exact (Option.some.inj e1).symm
          | succ L => unfold egs at e1; rw [if_pos rfl] at e1; exact (Option.some.inj e1).symm
        subst eg
        rw [hs]
        refine ⟨_, rfl, _, _, .int 0, .int 0, sh_int 0, sh_int 0, true, by rw [eqv_int]; rfl, iteT ?_⟩
        exact ⟨_, rfl, a, rfl, hq _ H (Stp.refl H) ra (.int _)⟩
      · have go := htr a b hb0 rfl ⟨g, e1⟩
        rw [hs] at go ⊢
        refine ⟨_, rfl, _, _, .int b, .int 0, sh_int b, sh_int 0, false, by rw [eqv_int, beq_eq_false_iff_ne.mpr hb0], iteF ?_⟩
        exact go
    · exact hq.elim
  intro L
  induction L with
  | zero =>
    refine fnN_of F Sc (fun vs H Q E h => h.1.trans hp.symm) (fun cdv A outer s H vs Q E hr h => ⟨_, hb 0 _ cdv A outer s H E hr (.inl ⟨rfl, rfl⟩), read 0 _ vs H Q E (fun a b h0 _ hd => ?_) h⟩)
    obtain ⟨d, hd⟩ := hd
    unfold egs at hd
    rw [if_neg h0] at hd
    cases hd
  | succ L ih =>
    refine fnN_of F Sc (fun vs H Q E h => h.1.trans hp.symm) (fun cdv A outer s H vs Q E hr h => ⟨_, hb (L + 1) _ cdv A outer s H E hr (.inr ⟨L, rfl, ih, rfl⟩), read (L + 1) _ vs H Q E (fun a b h0 ev hd => ?_) h⟩)
    subst ev
    obtain ⟨d, hd⟩ := hd
    obtain ⟨hl, r, sa, O, ds, s0, ra, hrO, hdom, rp, hq⟩ := h
    have eds : ds = [.int a, .int b] := by
      cases rp with
      | cons r1 rs =>
        cases rs with
        | cons r2 rs =>
          cases rs
          cases r1; cases r2; rfl
    subst eds
    have hq : (lift ((egs (L + 1) a b).map D.int) s0).post _ _ := hq
    unfold egs at hq hd
    rw [if_neg h0] at hq hd
    split at hd
    · rename_i hb1
      rw [if_pos hb1] at hq
      have hs : start N [V.int a, V.int b] = [some (.int a), some (.int b)] := by unfold L2.start; rw [hN]; rfl
      rw [hs]
      refine ⟨_, rfl, _, rfl, _, rfl, _, _, rfl, rfl, hb1, ?_⟩
      exact ⟨rfl, r, sa, O, [.int b, .int (a % b)], s0, ra, hrO, hdom, .cons (.int _) (.cons (.int _) .nil), hq⟩
    · cases hd
end PV

namespace PV
open PySem L2
/-! ### texts -/
def asS : D → Option Str | .str a => some a | _ => none
def dgs (i : Int) : Str := (toString i : String)
section
variable {B : Bs} {W : List Nat} {E : Option XK}
theorem asS_some {d : D} {a : Str} (h : asS d = some a) : d = .str a := by cases d <;> simp [asS] at h; subst h; rfl
/-- str(n) -/
def gStrI : List D → Option D
  | [.int i] => if i.natAbs.log2 < 1920 then some (.str (dgs i)) else none
  | _ => none
theorem cs_strI : CaS B (fun xs H Q => ∃ i : Int, xs = [.int i] ∧ i.natAbs.log2 < 1920 ∧ Q (.str (toString i)) H) gStrI := by
  intro r O H xs ds d Q hd rp e q
  unfold gStrI at e
  split at e
  · split at e
    · rename_i hl
      cases e
      obtain ⟨v, rfl, rq⟩ := rp.one
      cases rq
      exact ⟨_, rfl, hl, q _ H (Same.refl H) (.str _)⟩
    · cases e
  · cases e
/-- int(n), int(flag), int(text) -/
def gIntU : List D → Option D
  | [.int i] => some (.int i)
  | [.bl b] => some (.int (if b then 1 else 0))
  | [.str a] => if a.length ≤ 640 then (PySem.intText? a).map .int else none
  | _ => none
def rIntU : List V → Hp → VK → Prop := fun xs H Q => ((∃ i, xs = [.int i] ∧ Q (.int i) H) ∨ ∃ k : Bool, xs = [.bl k] ∧ Q (.int (if k then 1 else 0)) H) ∨ (∃ a n, xs = [.str a] ∧ PySem.intText? a = some n ∧ a.length ≤ 640 ∧ Q (.int n) H)
theorem call_intU {X : Cx} : CallR X (.type "int") rIntU := CallR.or call_int1 call_int_str
theorem cs_intU : CaS B rIntU gIntU := by
  intro r O H xs ds d Q hd rp e q
  unfold gIntU at e
  split at e
  · cases e; obtain ⟨v, rfl, rq⟩ := rp.one; cases rq
    exact .inl (.inl ⟨_, rfl, q _ H (Same.refl H) (.int _)⟩)
  · cases e; obtain ⟨v, rfl, rq⟩ := rp.one; cases rq
    exact .inl (.inr ⟨_, rfl, q _ H (Same.refl H) (.int _)⟩)
  · split at e
    · rename_i hl
      obtain ⟨n, hn, he⟩ := Option.map_eq_some_iff.mp e
      subst he
      obtain ⟨v, rfl, rq⟩ := rp.one
      cases rq
      exact .inr ⟨_, _, rfl, hn, hl, q _ H (Same.refl H) (.int _)⟩
    · cases e
  · cases e
/-- in: of a list or a tuple, or one sign of a text -/
def inU (x y : D) : Option D := match x, y with
  | .str c, .str z => match c.cps.toList with | [n] => some (.bl (decide (n ∈ z.cps.toList))) | _ => none
  | _, _ => inD false x y
def rInU (K : PySem.W.Frag) : R2 := fun x y H Q => rIn K false x y H Q ∨ (∃ (c : Nat) (z : Str), x = .str ⟨#[c]⟩ ∧ y = .str z ∧ Q (.bl (decide (c ∈ z.cps.toList))) H)
theorem op_inU {X : Cx} : OpR X (compareOp .In) (rInU X.K) := OpR.or op_in_seq op_in_sign
theorem os_inU : OpS B (rInU B.K) inU := by
  intro r O H x y dx dy d Q hd rx ry e q
  unfold inU at e
  split at e
  · rename_i c z
    split at e
    · rename_i n hn
      cases e; cases rx; cases ry
      have hc : c = ⟨#[n]⟩ := by
        cases c with
        | mk a =>
          congr 1
          exact Array.toList_inj.mp hn
      subst hc
      exact .inr ⟨n, z, rfl, rfl, q _ H (Same.refl H) (.bl _)⟩
    · cases e
  · exact .inl (os_inG r O H x y dx dy d Q hd rx ry e q)
/-- a text so many times -/
def repS (a : Str) (n : Nat) : Str := ⟨(List.replicate n a.cps.toList).flatten.toArray⟩
theorem fold_app (l : List (Array Nat)) : ∀ acc : Array Nat, (l.foldl (· ++ ·) acc).toList = acc.toList ++ (l.map Array.toList).flatten := by
  induction l with
  | nil => intro acc; simp
  | cons x l ih => intro acc; rw [List.foldl_cons, ih]; simp
def rRepS : R2 := fun x y H Q => ∃ (a : Str) (n : Int), x = .str a ∧ y = .int n ∧ 0 ≤ n ∧ n ≤ 1000 ∧ a.length ≤ 100 ∧ Q (.str (repS a n.toNat)) H
theorem op_repS {X : Cx} : OpR X (binaryOp .Mult) rRepS := by
  intro pn sh σ H x y vx vy Q I rx ry hz
  obtain ⟨a, n, rfl, rfl, h0, h1, hl, q⟩ := hz
  obtain ⟨t, rfl⟩ := rx
  obtain ⟨t2, rfl⟩ := ry
  refine P.mul_str (by
      have big : ¬ n ≥ 2 ^ 63 := by omega
      have low : ¬ n < -(2 ^ 63 : Int) := by omega
      rw [decide_eq_false big, decide_eq_false low]; rfl) (fun h2 _ h3 => ?_) (fun h2 _ => ?_) ?_
  · have h4 : (100 : Int) ≤ (2 ^ 63 - 1) / n := by
      rw [Int.le_ediv_iff_mul_le (by omega)]
      omega
    omega
  · have h4 : a.length * n.toNat ≤ 100 * 1000 := Nat.mul_le_mul hl (by omega)
    have h5 : a.length * n.toNat ≤ sizeLine := Evl.sz_of (by omega)
    unfold Builtin.Str.tooLong
    first
      | (simp only [decide_eq_false_iff_not]; omega)
      | (simp; omega)
  · split
    · rename_i hn
      have : n = 0 := by omega
      subst this
      exact ⟨by decide, .str _, H, I.tok _, ⟨_, rfl⟩, q⟩
    · split
      · rename_i hn hz
        rw [Bool.or_eq_true, beq_iff_eq, beq_iff_eq] at hz
        have e : repS a n.toNat = a := by
          unfold repS
          rcases hz with hz | hz
          · subst hz; simp
          · have : a.cps.toList = [] := by
              have : a.cps.size = 0 := hz
              have := Array.eq_empty_of_size_eq_zero this
              rw [this]
            rw [this]
            have e2 : (List.replicate n.toNat ([] : List Nat)).flatten = [] := by simp
            rw [e2]
            cases a with
            | mk c => congr 1; exact Array.toList_inj.mp this.symm
        rw [e] at q
        exact ⟨.str a, H, I, ⟨t, rfl⟩, q⟩
      · rename_i hn hz
        have e : (⟨(List.replicate n.toNat a.cps).foldl (· ++ ·) #[]⟩ : Str) = repS a n.toNat := by
          unfold repS
          congr 1
          apply Array.toList_inj.mp
          rw [fold_app]
          simp
        rw [e]
        refine ⟨?_, .str _, H, I.tok _, ⟨_, rfl⟩, q⟩
        show (repS a n.toNat).length ≤ _
        have h4 : a.length * n.toNat ≤ 100 * 1000 := Nat.mul_le_mul hl (by omega)
        have h5 : (repS a n.toNat).length = n.toNat * a.length := by
          unfold repS Str.length
          simp
        rw [h5, Nat.mul_comm]
        exact Evl.sz_of (by omega)
def gMulU : D → D → Option D
  | .str a, .int n => if 0 ≤ n ∧ n ≤ 1000 ∧ a.length ≤ 100 then some (.str (repS a n.toNat)) else none
  | x, y => gMul x y
theorem os_mulU : OpS B (fun x y H Q => rMulU B.K x y H Q ∨ rRepS x y H Q) gMulU := by
  intro r O H x y dx dy d Q hd rx ry e q
  unfold gMulU at e
  split at e
  · split at e
    · rename_i hc
      cases e; cases rx; cases ry
      exact .inr ⟨_, _, rfl, rfl, hc.1, hc.2.1, hc.2.2, q _ H (Same.refl H) (.str _)⟩
    · cases e
  · exact .inl (os_mul r O H x y dx dy d Q hd rx ry e q)
theorem op_mulS {X : Cx} : OpR X (binaryOp .Mult) (fun x y H Q => rMulU X.K x y H Q ∨ rRepS x y H Q) := OpR.or op_mulU op_repS
/-! ### methods of a text with one argument -/
def M1S (B : Bs) (rm : V → List V → Hp → VK → Prop) (g : Str → D → Option D) : Prop := ∀ (r : Addr) (O : List Addr) (H : Hp) (a : Str) (y : V) (dy d : D) (Q : VK), (∀ p ∈ O, H p ≠ none) → Rep B r (hid H O) y dy → g a dy = some d →
  (∀ v H', Same H H' → Rep B r (hid H' O) v d → Q v H') → rm (.str a) [y] H Q
def cM1 (g : Str → D → Option D) (fa fb : En → M D) : En → M D := fun δ s => (fa δ s).bind fun x s1 => (lift (asS x) s1).bind fun a s2 => (fb δ s2).bind fun y s3 => lift (g a y) s3
@[simp] theorem e_m1 (g : Str → D → Option D) (fa fb : En → M D) (δ : En) (s : S) : cM1 g fa fb δ s = (fa δ s).bind fun x s1 => (lift (asS x) s1).bind fun a s2 => (fb δ s2).bind fun y s3 => lift (g a y) s3 := rfl
theorem rd_m1 {rm : V → List V → Hp → VK → Prop} {g : Str → D → Option D} {ta tb : TE} {fa fb : En → M D} (ho : M1S B rm g) (ha : RdE B W E ta fa) (hb : RdE B W E tb fb) : RdE B W E (tM1 rm ta tb) (cM1 g fa fb) := by
  intro r sa H0 O0 O σ δ s H gd Q h
  refine ha gd _ (post_mono (post_bind h) (fun x s1 hx v H1 st ra rp => ?_) (fun _ _ z => z))
  obtain ⟨a, e, hy⟩ := post_lift (post_bind hx)
  cases asS_some e
  cases rp
  refine ⟨⟨a, rfl⟩, hb (gd.step st ra) _ (post_mono (post_bind hy) (fun y s2 hz w H2 st2 ra2 rp2 => ?_) (fun _ _ z => z.mono st))⟩
  obtain ⟨d, e, hd⟩ := post_lift hz
  have gd2 := (gd.step st ra).step st2 ra2
  exact ho r O H2 a w y d Q gd2.dom rp2 e fun u H3 sm rp3 => hd u H3 ((st.trans st2).trans (Stp.of sm)) (ra2.same sm) rp3
/-- s.split(sep) -/
def gSplit (a : Str) : D → Option D
  | .str b => if b.length ≠ 0 ∧ a.length + 2 ≤ 100000 then some (.lst ((Txt.split a b).map .str)) else none
  | _ => none
theorem Reps.of_strs {r : Addr} {H : Hp} : ∀ (ys : List Str), Reps B r H (ys.map V.str) (ys.map D.str)
  | [] => .nil
  | y :: ys => .cons (.str y) (Reps.of_strs ys)
theorem ms_split : M1S B (fun x xs H Q => ∃ a b, x = .str a ∧ xs = [.str b] ∧ (b.length == 0) = false ∧ a.length + 2 ≤ sizeLine ∧ rNewStrs (Txt.split a b) H Q) gSplit := by
  intro r O H a y dy d Q hd ry e q
  unfold gSplit at e
  split at e
  · split at e
    · rename_i hl
      cases e; cases ry
      exact ⟨_, _, rfl, rfl, by simpa using hl.1, Evl.sz_of hl.2, fun p hp => q _ _ (same_new hp) (new_lst hp hd (Reps.of_strs _))⟩
    · cases e
  · cases e
/-- sep.join(texts) -/
def strsD : List D → Option (List Str)
  | [] => some []
  | .str a :: ds => (strsD ds).map (a :: ·)
  | _ => none
theorem reps_strs {r : Addr} {H : Hp} : ∀ {vs : List V} {ds : List D} {ys : List Str}, Reps B r H vs ds → strsD ds = some ys → vs = ys.map V.str
  | _, _, _, .nil, e => by cases e; rfl
  | _, _, _, .cons h hs, e => by
    cases h <;> simp only [strsD, reduceCtorEq] at e
    obtain ⟨zs, h1, h2⟩ := Option.map_eq_some_iff.mp e
    subst h2
    rw [reps_strs hs h1]; rfl
def gJoin (a : Str) (y : D) : Option D := (seqD y).bind fun ds => (strsD ds).bind fun ys => if (ys.map (·.length)).sum + ys.length * a.length ≤ 16777216 then some (.str (Txt.join a ys)) else none
theorem ms_join : M1S B (fun x xs H Q => ∃ a p, ∃ ys : List Str, x = .str a ∧ xs = [.ref p] ∧ (SqL B.K H p (ys.map V.str) ∨ SqT B.K H p (ys.map V.str)) ∧ (ys.map (·.length)).sum + ys.length * a.length ≤ 16777216 ∧ Q (.str (Txt.join a ys)) H) gJoin := by
  intro r O H a y dy d Q hd ry e q
  unfold gJoin at e
  obtain ⟨ds, e1, e⟩ := Option.bind_eq_some_iff.mp e
  obtain ⟨ys, e2, e⟩ := Option.bind_eq_some_iff.mp e
  split at e
  · rename_i hl
    cases e
    obtain ⟨p, vs, rfl, hq, hr⟩ := seq_inv ry e1
    cases reps_strs hr e2
    exact ⟨a, p, ys, rfl, rfl, sqLT_le hq, hl, q _ H (Same.refl H) (.str _)⟩
  · cases e
/-! ### for a sign in a text -/
def cItStr (f : En → M D) : En → M (List D) := fun δ s => (f δ s).bind fun d s1 => (lift (asS d) s1).bind fun a s2 => .ok (a.cps.toList.map fun c => .str ⟨#[c]⟩) s2
@[simp] theorem e_itStr (f : En → M D) (δ : En) (s : S) : cItStr f δ s = (f δ s).bind fun d s1 => (lift (asS d) s1).bind fun a s2 => .ok (a.cps.toList.map fun c => .str ⟨#[c]⟩) s2 := rfl
theorem ri_str {te : TE} {f : En → M D} (ha : RdE B W E te f) : RdI B W E (iStr te) (cItStr f) := by
  intro r sa H0 O0 O σ δ s H gd R h
  refine ha gd _ (post_mono (post_bind h) (fun x s1 hx v H1 st ra rp => ?_) (fun _ _ z => z))
  obtain ⟨a, e, hd⟩ := post_lift (post_bind hx)
  cases asS_some e
  cases rp
  refine ⟨a, rfl, hd (Its a) H1 st ra ?_⟩
  intro O' H2 sm hdom
  refine ⟨fun i hi => ?_, ?_, fun i x H3 d hi hy => ?_⟩
  · show i < a.cps.size
    simpa using hi
  · show a.cps.size ≤ _
    simp
  · obtain ⟨rfl, c, hc, rfl⟩ := hy
    refine ⟨Same.refl _, ?_⟩
    rw [List.getElem?_map] at hi
    have : a.cps.toList[i]? = some c := by rw [← hc]; simp
    rw [this] at hi
    cases hi
    exact .str _
/-! ### x or y, by truth, x a list -/
def cOrL (fa fb : En → M D) : En → M D := fun δ s => (fa δ s).bind fun x s1 => (lift (asLst x) s1).bind fun ds s2 => if ds.isEmpty then fb δ s2 else .ok (.lst ds) s2
@[simp] theorem e_orL (fa fb : En → M D) (δ : En) (s : S) : cOrL fa fb δ s = (fa δ s).bind fun x s1 => (lift (asLst x) s1).bind fun ds s2 => if ds.isEmpty then fb δ s2 else .ok (.lst ds) s2 := rfl
theorem rd_orL {ta tb : TE} {fa fb : En → M D} (ha : RdE B W E ta fa) (hb : RdE B W E tb fb) : RdE B W E (tOrT B.K ta tb) (cOrL fa fb) := by
  intro r sa H0 O0 O σ δ s H gd Q h
  refine ha gd _ (post_mono (post_bind h) (fun x s1 hx v H1 st ra rp => ?_) (fun _ _ z => z))
  obtain ⟨ds, e, hx⟩ := post_lift (post_bind hx)
  cases asLst_some e
  obtain ⟨p, vs, rfl, h1, h2⟩ := rp.inv_lst
  have hl := h2.length
  refine ⟨!vs.isEmpty, .inl ⟨vs, SqL.of (hid_le _ _ h1), rfl⟩, ?_⟩
  cases ds with
  | nil =>
    cases h2
    exact hb (gd.step st ra) Q (post_mono hx (fun c s2 q w H2 st2 ra2 => q w H2 (st.trans st2) ra2) (fun _ _ z => z.mono st))
  | cons d ds =>
    cases h2 with
    | cons h2 hs => exact hx _ H1 st ra (.lst h1 (.cons h2 hs))
/-! ### f'..' -/
def gFmt : D → Option D
  | .str y => if y.length ≤ 100000 then some (.str y) else none
  | .int i => if i.natAbs.log2 < 1920 then some (.str (dgs i)) else none
  | _ => none
theorem rd_fmt {te : TE} {f : En → M D} (ha : RdE B W E te f) : RdE B W E (tFmt te) (cUn gFmt f) := by
  intro r sa H0 O0 O σ δ s H gd Q h
  refine ha gd _ (post_mono (post_bind h) (fun x s1 hx v H1 st ra rp => ?_) (fun _ _ z => z))
  obtain ⟨d, e, hd⟩ := post_lift hx
  unfold gFmt at e
  split at e
  · split at e
    · rename_i hl
      cases e; cases rp
      exact .inl ⟨_, rfl, Evl.sz_of hl, hd _ H1 st ra (.str _)⟩
    · cases e
  · split at e
    · rename_i hl
      cases e; cases rp
      exact .inr ⟨_, rfl, hl, hd _ H1 st ra (.str _)⟩
    · cases e
  · cases e
def jsL : List (En → M D) → Str → En → M Str
  | [], acc, _, s => .ok acc s
  | f :: fs, acc, δ, s => (f δ s).bind fun x s1 => (lift (asS x) s1).bind fun y s2 => if (acc ++ y).length ≤ 100000 then jsL fs (acc ++ y) δ s2 else .stuck
@[simp] theorem jsL_nil (acc : Str) (δ : En) (s : S) : jsL [] acc δ s = .ok acc s := rfl
@[simp] theorem jsL_cons (f : En → M D) (fs : List (En → M D)) (acc : Str) (δ : En) (s : S) : jsL (f :: fs) acc δ s = (f δ s).bind fun x s1 => (lift (asS x) s1).bind fun y s2 => if (acc ++ y).length ≤ 100000 then jsL fs (acc ++ y) δ s2 else .stuck := rfl
def cJs (fs : List (En → M D)) : En → M D := fun δ s => (jsL fs Str.empty δ s).bind fun a s1 => .ok (.str a) s1
@[simp] theorem e_js (fs : List (En → M D)) (δ : En) (s : S) : cJs fs δ s = (jsL fs Str.empty δ s).bind fun a s1 => .ok (.str a) s1 := rfl
inductive RdJs (B : Bs) (W : List Nat) (E : Option XK) : List TE → List (En → M D) → Prop
  | nil : RdJs B W E [] []
  | cons {t : TE} {f : En → M D} {ts : List TE} {fs : List (En → M D)} : RdE B W E t f → RdJs B W E ts fs → RdJs B W E (t :: ts) (f :: fs)
theorem js_go {r sa : Addr} {H0 : Hp} {O0 O : List Addr} {σ : St} {δ : En} : ∀ {ts : List TE} {fs : List (En → M D)}, RdJs B W E ts fs → ∀ {s : S} {H : Hp} (acc : Str), Gd B r sa H0 O0 W O σ δ s H → ∀ Q : Str → Hp → Prop,
    (jsL fs acc δ s).post (fun a s' => ∀ H', Stp r H H' → RowAt B r sa H' s' → Q a H') (EPost B E r sa H O) → tJs ts acc σ H Q
  | _, _, .nil, s, H, acc, gd, Q, h => h H (Stp.refl H) gd.row
  | _, _, .cons hf hr, s, H, acc, gd, Q, h => by
    rw [jsL_cons] at h
    refine hf gd _ (post_mono (post_bind h) (fun x s1 hx v H1 st ra rp => ?_) (fun _ _ z => z))
    obtain ⟨y, e, hz⟩ := post_lift (post_bind hx)
    clear hx
    cases asS_some e
    cases rp
    split at hz
    · rename_i hl
      exact ⟨y, rfl, Evl.sz_of hl, js_go hr (acc ++ y) (gd.step st ra) Q (post_mono hz (fun a s2 q H2 st2 ra2 => q H2 (st.trans st2) ra2) (fun _ _ z => z.mono st))⟩
    · exact hz.elim
theorem rd_js {ts : List TE} {fs : List (En → M D)} (h : RdJs B W E ts fs) : RdE B W E (fun σ H Q => tJs ts Str.empty σ H fun out H1 => Q (.str out) H1) (cJs fs) := by
  intro r sa H0 O0 O σ δ s H gd Q hp
  exact js_go h _ gd _ (post_mono (post_bind hp) (fun a s1 q H1 st ra => q _ H1 st ra (.str _)) (fun _ _ z => z))
/-! ### raise of two fields -/
def spI2 (C : Addr) (f g : Str) : Sp := fun vs H Q _ => ∃ (a : Addr) (y z : V), vs = [.ref a, y, z] ∧ H a = some (exo a C none) ∧ ∀ dx, H dx = none → dx ≠ a → Q .non (upd (upd (upd H dx (exd dx [(f, y)])) a (exo a C (some dx))) dx (exd dx [(g, z), (f, y)]))
def cRaise2 (c : Str) (fr : En → M (List D)) : En → M Fl := fun δ s => (quiet (fr δ s)).bind fun ds s1 => if ds.length = 2 then .err ⟨c, ds.reverse⟩ s1 else .stuck
@[simp] theorem e_raise2 (c : Str) (fr : En → M (List D)) (δ : En) (s : S) : cRaise2 c fr δ s = (quiet (fr δ s)).bind fun ds s1 => if ds.length = 2 then .err ⟨c, ds.reverse⟩ s1 else .stuck := rfl
theorem rs_raise2 {c f g : Str} {E : XK} {fr : En → M (List D)} {tr : TA} (hf : xFl c = [g, f]) (ha : RdA B W none tr fr) : RdS B W (some E) (fun _ σ H => tMkO (B.xc c) (spI2 (B.xc c) f g) [] tr σ H fun cls d H' => E cls d H') (cRaise2 c fr) := by
  intro r sa H0 O0 O σ δ s H gd D h
  have hb := post_bind (o := quiet (fr δ s)) h
  refine ha gd _ (post_mono (post_quiet (R' := fun _ _ => False) hb) (fun ds s1 hx vs H1 st ra rp => ?_) (fun _ _ z => z))
  split at hx
  · rename_i hl
    match ds, hl, rp with
    | [d1, d2], _, .cons (v := y) r1 (.cons (v := z) r2 .nil) =>
      have hx : EPost B (some E) r sa H0 O0 ⟨c, [d2, d1]⟩ s1 := hx
      have gd1 := gd.step st ra
      refine ⟨(by show 2 ≤ 1000; decide), fun a hn => ⟨a, y, z, rfl, upd_same, fun dx h1 h2 => ⟨rfl, dx, [(g, z), (f, y)], ?_, upd_same, ?_, ?_⟩⟩⟩
      · rw [upd_ne (Ne.symm h2), upd_same]
      · rw [upd_ne h2] at h1; exact h1
      · have n1 : H1 dx = none := by rw [upd_ne h2] at h1; exact h1
        have eH : upd (L2.del (upd (upd (upd (upd H1 a (exo a (B.xc c) none)) dx (exd dx [(f, y)])) a (exo a (B.xc c) (some dx))) dx (exd dx [(g, z), (f, y)])) a) dx (.xd [(g, z), (f, y)]) = upd H1 dx (.xd [(g, z), (f, y)]) := by
          funext b
          by_cases q1 : b = dx
          · subst q1; rw [upd_same, upd_same]
          · by_cases q2 : b = a
            · subst q2; rw [upd_ne q1, del_same, upd_ne q1, hn]
            · rw [upd_ne q1, del_ne q2, upd_ne q1, upd_ne q2, upd_ne q1, upd_ne q2, upd_ne q1]
        have nO : dx ∉ O0 := fun w => gd1.dom dx (gd1.sub dx w) n1
        show E (.ref (B.xc c)) (some dx) _
        rw [eH]
        refine hx _ _ _ ((gd.stp.trans st).trans (Stp.new n1)) (ra.new n1) ⟨rfl, .inr ⟨dx, _, [z, y], rfl, by rw [hid_out nO, upd_same], by rw [hf]; rfl, ?_⟩⟩
        have up : Same (hid H1 O) (hid (upd H1 dx (.xd [(g, z), (f, y)])) O0) := (hid_sub gd1.sub).trans (hid_same (same_new n1))
        exact .cons (r2.mono up) (.cons (r1.mono up) .nil)
  · exact hx.elim
end
section
variable {P : Program} {w : World} {K : PySem.W.Frag} {mg : Str → Option Value} {base : Heap} {x qual : Str} {st : Stmt} {f : Addr} {fd : FuncData} {N ps : List Str} {k : Nat} {C : Addr}
theorem init2_ok {m fl gl : Str} (F : Fun K x qual st f fd) (Sc : FnScope N ps (defScope st)) (hN : N.length = 3) (hp : ps.length = 3) (T : OexC K C) (h1 : PySem.W.findIn K (.ref C) fl = some none) (h2 : PySem.W.findIn K (.ref C) gl = some none)
    (hb : ∀ (cdv : Value) (A : Around) (outer : List Env) (s : Shared) (H : Hp) (E : XK), Room k (A.deeper (PyProof.Rows.envOfC qual (defScope st) s.heap.objs.size f cdv)) →
      PSs (cxOf CX0 P w K mg base N qual (defScope st) f cdv A outer s H E).nox (defBody st) (tSeq (tDrop (tVeI K (tCons (tVar 0) (tCons (tC (.str m)) tNil)))) (tSeq (tOst K fl (tVar 0) (tVar 1)) (tOst K gl (tVar 0) (tVar 2))))) : FnOk P w K mg base CX0 (k + 1) f fd ps (spI2 C fl gl) := by
  refine F.ok Sc (fun vs H Q E h => ?_) (fun cdv A outer s H vs Q E hr h => ⟨_, hb cdv A outer s H E hr, ?_⟩)
  · obtain ⟨a, y, z, rfl, _⟩ := h; exact hp.symm
  · obtain ⟨a, y, z, rfl, ha, q⟩ := h
    have hs : L2.start N [V.ref a, y, z] = [some (.ref a), some y, some z] := by unfold L2.start; rw [hN]; rfl
    rw [hs]
    refine ⟨_, rfl, a, C, _, rfl, (by show 1 ≤ 1000; decide), T, ha, ?_⟩
    refine ⟨_, rfl, _, rfl, a, C, rfl, T, h1, .inl ⟨ha, fun dx n1 n2 => ?_⟩⟩
    refine ⟨_, rfl, _, rfl, a, C, rfl, T, h2, .inr ⟨dx, [(fl, y)], upd_same, ?_, (by show 1 ≤ 900; decide), q dx n1 n2⟩⟩
    rw [upd_ne n2, upd_same]
end
end PV

/-! a head's facts, read by one Hook off the heap's tree -/
namespace HX
open PySem PySem.Spec PyProof.Rows L2
abbrev Fr := PySem.W.Frag
/-! ### a part of the heap -/
def refsH (o : Obj) : List Addr := match o.data with
  | .dict es _ => es.toList.flatMap fun e => He.refV e.val
  | .func fd => He.refV fd.code
  | .cls cd => cd.ns :: cd.mro.flatMap He.refV
  | .fields vs => (match o.cls with
    | .type t => (match decide (t = "property") with
      | true => vs.toList.flatMap He.refV
      | false => [])
    | _ => [])
  | _ => []
def lvl (g : Addr → Option Obj) : Nat → List Addr → List Addr
  | 0, as => as
  | n + 1, as => as ++ lvl g n (as.flatMap fun a => match g a with
    | some o => refsH o
    | none => [])
/-! ### facts -/
def fnA (K : Fr) (a : Addr) : He.FnV := match K.lookup a with
  | some ⟨_, _, .func fd, _⟩ => some (fd.name, fd.qualname, fd.params, fd.body, fd.scope, fd.globals, fd.closure, fd.defaults, fd.builtins)
  | _ => none
def codeB (K : Fr) (a : Addr) (q : Str) : Bool := match K.lookup a with
  | some ⟨_, _, .func fd, _⟩ => PySem.W.codeIn K fd.code q
  | _ => false
theorem fnA_ok {K : Fr} {a : Addr} {n q q2 : Str} {ps : Arguments} {bd : List Stmt} {sc : Scope} (e : fnA K a = some (n, q, ps, .stmts bd, sc, mainGlobals, [], .none, builtinsNs)) (c : codeB K a q2 = true) :
    ∃ oc od osl kV doc pm an cdv ct, K.lookup a = some ⟨oc, od, .func (PySem.W.fnOf n q ps bd sc .none kV doc pm an cdv ct), osl⟩ ∧ PySem.W.codeIn K cdv q2 = true := by
  unfold codeB at c
  unfold fnA at e
  cases z : K.lookup a with
  | none =>
    rw [z] at c
    cases c
  | some o =>
    obtain ⟨oc, od, dt, osl⟩ := o
    rw [z] at c e
    cases dt with
    | func fd =>
      obtain ⟨n1, n2, n3, n4, n5, n6, n7, n8, n9, n10, n11, n12, n13, n14, n15⟩ := fd
      have e2 : (some (n1, n2, n3, n4, n5, n6, n7, n8, n15) : He.FnV) = some (n, q, ps, .stmts bd, sc, mainGlobals, [], .none, builtinsNs) := e
      simp only [Option.some.injEq, Prod.mk.injEq] at e2
      obtain ⟨h1, h2, h3, h4, h5, h6, h7, h8, h9⟩ := e2
      subst h1 h2 h3 h4 h5 h6 h7 h8 h9
      exact ⟨oc, od, osl, n9, n10, n11, n12, n13, n14, rfl, c⟩
    | _ => cases c
def intB (K : Fr) (x : Str) (i : Int) : Bool := match PySem.W.nsIn K mainGlobals x with
  | some (some (.int j _)) => decide (j = i)
  | _ => false
theorem intB_ok {K : Fr} {x : Str} {i : Int} (c : intB K x i = true) : ∃ t, PySem.W.nsIn K mainGlobals x = some (some (.int i t)) := by
  unfold intB at c
  cases e : PySem.W.nsIn K mainGlobals x with
  | none =>
    rw [e] at c
    cases c
  | some o =>
    rw [e] at c
    cases o with
    | none => cases c
    | some v =>
      cases v with
      | int j t =>
        have ej : j = i := of_decide_eq_true c
        subst ej
        exact ⟨t, rfl⟩
      | _ => cases c
def recA (K : Fr) (p : Addr) : Addr := match PySem.W.recIn K p "property" with
  | some (.ref g :: _) => g
  | _ => 0
def recB (K : Fr) (p : Addr) : Bool := match PySem.W.recIn K p "property" with
  | some (.ref _ :: _) => true
  | _ => false
theorem recB_ok {K : Fr} {p : Addr} (c : recB K p = true) : ∃ r, PySem.W.recIn K p "property" = some (.ref (recA K p) :: r) := by
  unfold recB at c
  cases e : PySem.W.recIn K p "property" with
  | none =>
    rw [e] at c
    cases c
  | some l =>
    cases l with
    | nil =>
      rw [e] at c
      cases c
    | cons v r =>
      cases v with
      | ref g =>
        refine ⟨r, ?_⟩
        unfold recA
        rw [e]
      | _ =>
        rw [e] at c
        cases c
def valB (K : Fr) (c : Addr) : Bool := match PySem.W.findCls K (.ref c) (.type "type") "__init__" with
  | some (.val v) => decide (v = .builtin "ValueError.__init__")
  | _ => false
theorem valB_ok {K : Fr} {c : Addr} (h : valB K c = true) : PySem.W.findCls K (.ref c) (.type "type") "__init__" = some (.val (.builtin "ValueError.__init__")) := by
  unfold valB at h
  cases e : PySem.W.findCls K (.ref c) (.type "type") "__init__" with
  | none =>
    rw [e] at h
    cases h
  | some f =>
    rw [e] at h
    cases f with
    | val v =>
      have ev : v = .builtin "ValueError.__init__" := of_decide_eq_true h
      rw [ev]
    | get _ _ _ _ => cases h
def excB (K : Fr) (C : Addr) (bm : List Value) : Bool := match K.lookup C with
  | some ⟨.type t, _, .cls cd, sl⟩ => (match cd.mro, sl.toList with
    | .ref C' :: bm', [_, _, _, _, some (.builtin n), _] => decide (t = "type") && (decide (C' = C) && (decide (n = "ValueError.__new__") && ((!cd.hasDel) && (cd.hasDict && decide (bm' = bm)))))
    | _, _ => false)
  | _ => false
theorem excB_ok {K : Fr} {C : Addr} {bm : List Value} (h : excB K C bm = true) : ∃ nm q N bs sn sub ab col dd k0 k1 k2 k3 k5,
    K.lookup C = some (excClassObj nm q C N bs bm true sn sub ab col dd k0 k1 k2 k3 k5 "ValueError.__new__") := by
  unfold excB at h
  split at h
  · rename_i t dd cd sl ho
    split at h
    · rename_i C' bm' k0 k1 k2 k3 n k5 hm hs
      obtain ⟨h1, h⟩ := He.ba h
      obtain ⟨h2, h⟩ := He.ba h
      obtain ⟨h3, h⟩ := He.ba h
      obtain ⟨h4, h⟩ := He.ba h
      obtain ⟨h5, h6⟩ := He.ba h
      have e1 := of_decide_eq_true h1
      have e2 := of_decide_eq_true h2
      have e3 := of_decide_eq_true h3
      have e6 := of_decide_eq_true h6
      subst e1 e2 e3 e6
      have e4 : cd.hasDel = false := by
        cases z : cd.hasDel with
        | false => rfl
        | true =>
          rw [z] at h4
          cases h4
      obtain ⟨nm, bs, mro, ns, qn, hd, sn, sub, ab, col, del⟩ := cd
      dsimp only at hm e4 h5
      subst hm e4 h5
      have hsl : sl = #[k0, k1, k2, k3, some (.builtin "ValueError.__new__"), k5] := by
        obtain ⟨l⟩ := sl
        simp only at hs
        rw [hs]
      subst hsl
      exact ⟨nm, qn, ns, bs, sn, sub, ab, col, dd, k0, k1, k2, k3, k5, ho⟩
    · cases h
  · cases h
def pairB (K : Fr) (a : Addr) (x y : Int) : Bool := match K.lookup a with
  | some ⟨.type t, _, .seq its _, _⟩ => (match its.toList with
    | [.int i _, .int j _] => decide (t = "tuple") && (decide (i = x) && decide (j = y))
    | _ => false)
  | _ => false
theorem pairB_ok {K : Fr} {a : Addr} {x y : Int} (h : pairB K a x y = true) : ∃ od n sl t0 t1, K.lookup a = some ⟨.type "tuple", od, .seq #[.int x t0, .int y t1] n, sl⟩ := by
  unfold pairB at h
  split at h
  · rename_i t od its n sl ho
    split at h
    · rename_i i t0 j t1 hi
      obtain ⟨h1, h⟩ := He.ba h
      obtain ⟨h2, h3⟩ := He.ba h
      have e1 := of_decide_eq_true h1
      have e2 := of_decide_eq_true h2
      have e3 := of_decide_eq_true h3
      subst e1 e2 e3
      have e : its = #[.int i t0, .int j t1] := by
        obtain ⟨l⟩ := its
        simp only at hi
        rw [hi]
      subst e
      exact ⟨od, n, sl, t0, t1, ho⟩
    · cases h
  · cases h
/-! ### the Hook -/
abbrev AlH : Type := Bool × List He.FnV
def obsH (ex : List (Fr → Bool)) (fs : List (Fr → Addr)) (K : Fr) : AlH := (ex.all fun f => f K, fs.map fun a => fnA K (a K))
def obsG (n : Nat) (ex : List (Fr → Bool)) (fs : List (Fr → Addr)) (g : Addr → Option Obj) : AlH := obsH ex fs (He.frG g (lvl g n [mainGlobals] ++ [cStatics]))
def hookH (n : Nat) (ex : List (Fr → Bool)) (fs : List (Fr → Addr)) (vs : List He.FnV) : PySem.W.Hook where
  α := AlH
  obs := fun s => obsG n ex fs s.heap.get?
  val := fun _ => (true, vs)
  says := fun _ h => ∃ K : Fr, K.In h ∧ obsH ex fs K = (true, vs)
  of := fun _ _ e => ⟨_, He.frG_in, e⟩
  keeps := fun _ _ _ ⟨K, hK, c⟩ k => ⟨K, PySem.W.Frag.In.keeps hK k, c⟩
theorem obsG_eq {n : Nat} {ex : List (Fr → Bool)} {fs : List (Fr → Addr)} {vs : List He.FnV} {g : Addr → Option Obj} {s : Shared} (h : ∀ a, g a = s.heap.get? a) : obsG n ex fs g = (hookH n ex fs vs).obs s := by
  have e : g = s.heap.get? := funext h
  rw [e] <;> rfl
section
variable {ex : List (Fr → Bool)} {fs : List (Fr → Addr)} {vs : List He.FnV} {K : Fr}
theorem at_ok (c : obsH ex fs K = (true, vs)) (i : Nat) {f : Fr → Bool} (h : ex[i]? = some f) : f K = true := by
  have c1 : (ex.all fun f => f K) = true := congrArg (fun z : AlH => z.1) c
  exact List.all_eq_true.mp c1 f (List.mem_of_getElem? h)
theorem fn_at (c : obsH ex fs K = (true, vs)) (i : Nat) {a : Fr → Addr} {v : He.FnV} (h : fs[i]? = some a) (hv : vs[i]? = some v) : fnA K (a K) = v := by
  have e : (fs.map fun a => fnA K (a K)) = vs := congrArg (fun z : AlH => z.2) c
  have e2 : (fs.map fun a => fnA K (a K))[i]? = vs[i]? := by rw [e]
  rw [List.getElem?_map, h, hv] at e2
  exact Option.some.inj e2
end
end HX

namespace LW
open PySem L2 PV
def topS (i : Nat) : Stmt := PySem.Challenge.pw_floorprices_k18_texts_refused.main.body.getD i (.Pass ⟨0, 0, 0, 0⟩)
abbrev s__law_taken : Stmt := topS 22
abbrev N__law_taken : List Str := ["_law_row", "_law_many", "_law_found", "_law_cell"]
abbrev P__law_taken : List Str := ["_law_row", "_law_many"]
theorem sc__law_taken : FnScope N__law_taken P__law_taken (defScope s__law_taken) := ⟨rfl, rfl, rfl, by decide +kernel, rfl, by decide +kernel, by decide +kernel⟩
abbrev s__law_buyer : Stmt := topS 23
abbrev N__law_buyer : List Str := ["_law_row", "_law_many", "_law_worth", "_law_found", "_law_step", "_law_turn"]
abbrev P__law_buyer : List Str := ["_law_row", "_law_many"]
theorem sc__law_buyer : FnScope N__law_buyer P__law_buyer (defScope s__law_buyer) := ⟨rfl, rfl, rfl, by decide +kernel, rfl, by decide +kernel, by decide +kernel⟩
abbrev s__law_parts : Stmt := topS 24
abbrev N__law_parts : List Str := ["_law_row", "_law_buyers", "_law_many", "_law_crowd", "_law_number_here"]
abbrev P__law_parts : List Str := ["_law_row", "_law_buyers", "_law_many"]
theorem sc__law_parts : FnScope N__law_parts P__law_parts (defScope s__law_parts) := ⟨rfl, rfl, rfl, by decide +kernel, rfl, by decide +kernel, by decide +kernel⟩
abbrev s__law_text : Stmt := topS 25
abbrev N__law_text : List Str := ["_law_d", "_law_found", "_law_buyer_here", "_law_worth", "_law_weight"]
abbrev P__law_text : List Str := ["_law_d"]
theorem sc__law_text : FnScope N__law_text P__law_text (defScope s__law_text) := ⟨rfl, rfl, rfl, by decide +kernel, rfl, by decide +kernel, by decide +kernel⟩
abbrev s_number_in : Stmt := topS 16
abbrev N_number_in : List Str := ["text", "sign"]
abbrev P_number_in : List Str := ["text"]
theorem sc_number_in : FnScope N_number_in P_number_in (defScope s_number_in) := ⟨rfl, rfl, rfl, by decide +kernel, rfl, by decide +kernel, by decide +kernel⟩
abbrev s_things_in : Stmt := topS 17
abbrev N_things_in : List Str := ["words"]
abbrev P_things_in : List Str := ["words"]
theorem sc_things_in : FnScope N_things_in P_things_in (defScope s_things_in) := ⟨rfl, rfl, rfl, by decide +kernel, rfl, by decide +kernel, by decide +kernel⟩
abbrev s_pair_in : Stmt := topS 18
abbrev N_pair_in : List Str := ["word", "before", "parts"]
abbrev P_pair_in : List Str := ["word", "before"]
theorem sc_pair_in : FnScope N_pair_in P_pair_in (defScope s_pair_in) := ⟨rfl, rfl, rfl, by decide +kernel, rfl, by decide +kernel, by decide +kernel⟩
abbrev s_buyer_in : Stmt := topS 19
abbrev N_buyer_in : List Str := ["words", "line", "found", "at", "pair"]
abbrev P_buyer_in : List Str := ["words", "line"]
theorem sc_buyer_in : FnScope N_buyer_in P_buyer_in (defScope s_buyer_in) := ⟨rfl, rfl, rfl, by decide +kernel, rfl, by decide +kernel, by decide +kernel⟩
abbrev s_is_from : Stmt := topS 10
abbrev N_is_from : List Str := ["value", "low", "high"]
abbrev P_is_from : List Str := ["value", "low", "high"]
theorem sc_is_from : FnScope N_is_from P_is_from (defScope s_is_from) := ⟨rfl, rfl, rfl, by decide +kernel, rfl, by decide +kernel, by decide +kernel⟩
abbrev s_is_pair : Stmt := topS 11
abbrev N_is_pair : List Str := ["value"]
abbrev P_is_pair : List Str := ["value"]
theorem sc_is_pair : FnScope N_is_pair P_is_pair (defScope s_is_pair) := ⟨rfl, rfl, rfl, by decide +kernel, rfl, by decide +kernel, by decide +kernel⟩
abbrev s_is_buyer : Stmt := topS 12
abbrev N_is_buyer : List Str := ["value", "pair", "at"]
abbrev P_is_buyer : List Str := ["value"]
theorem sc_is_buyer : FnScope N_is_buyer P_is_buyer (defScope s_is_buyer) := ⟨rfl, rfl, rfl, by decide +kernel, rfl, by decide +kernel, by decide +kernel⟩
abbrev s_Sale : Stmt := inClass (topS 13) 0
abbrev N_Sale : List Str := ["self", "buyers", "things", "index", "buyer"]
abbrev P_Sale : List Str := ["self", "buyers", "things"]
theorem sc_Sale : FnScope N_Sale P_Sale (defScope s_Sale) := ⟨rfl, rfl, rfl, by decide +kernel, rfl, by decide +kernel, by decide +kernel⟩
abbrev s_read : Stmt := topS 20
abbrev N_read : List Str := ["text", "rows", "word", "line", "things", "crowd", "at"]
abbrev P_read : List Str := ["text"]
theorem sc_read : FnScope N_read P_read (defScope s_read) := ⟨rfl, rfl, rfl, by decide +kernel, rfl, by decide +kernel, by decide +kernel⟩
abbrev s__law_refused : Stmt := topS 29
abbrev N__law_refused : List Str := ["_law_text_here", "_law_found", "e"]
abbrev P__law_refused : List Str := ["_law_text_here"]
theorem sc__law_refused : FnScope N__law_refused P__law_refused (defScope s__law_refused) := ⟨rfl, rfl, rfl, by decide +kernel, rfl, by decide +kernel, by decide +kernel⟩
abbrev s__law_number : Stmt := topS 26
abbrev N__law_number : List Str := ["_law_word", "_law_low", "_law_sign"]
abbrev P__law_number : List Str := ["_law_word", "_law_low"]
theorem sc__law_number : FnScope N__law_number P__law_number (defScope s__law_number) := ⟨rfl, rfl, rfl, by decide +kernel, rfl, by decide +kernel, by decide +kernel⟩
abbrev s__law_pair : Stmt := topS 27
abbrev N__law_pair : List Str := ["_law_word", "_law_before", "_law_parts_here"]
abbrev P__law_pair : List Str := ["_law_word", "_law_before"]
theorem sc__law_pair : FnScope N__law_pair P__law_pair (defScope s__law_pair) := ⟨rfl, rfl, rfl, by decide +kernel, rfl, by decide +kernel, by decide +kernel⟩
abbrev s__law_wrong : Stmt := topS 28
abbrev N__law_wrong : List Str := ["_law_rows", "_law_k", "_law_before", "_law_at"]
abbrev P__law_wrong : List Str := ["_law_rows"]
theorem sc__law_wrong : FnScope N__law_wrong P__law_wrong (defScope s__law_wrong) := ⟨rfl, rfl, rfl, by decide +kernel, rfl, by decide +kernel, by decide +kernel⟩
abbrev s_law : Stmt := topS 30
abbrev N_law : List Str := ["_law_script", "_law_row", "_law_odd", "_law_turn", "_law_d", "_law_rows", "_law_words", "_law_k", "_law_place", "_law_kind", "_law_spot", "_law_more", "_law_same", "_law_pair_here"]
abbrev P_law : List Str := ["_law_script"]
theorem sc_law : FnScope N_law P_law (defScope s_law) := ⟨rfl, rfl, rfl, by decide +kernel, rfl, by decide +kernel, by decide +kernel⟩
abbrev s_InvalidText : Stmt := inClass (topS 4) 0
abbrev N_InvalidText : List Str := ["self", "line", "word"]
abbrev P_InvalidText : List Str := ["self", "line", "word"]
theorem sc_InvalidText : FnScope N_InvalidText P_InvalidText (defScope s_InvalidText) := ⟨rfl, rfl, rfl, by decide +kernel, rfl, by decide +kernel, by decide +kernel⟩
abbrev xsL : List Str := ["InvalidText"]
abbrev csL : List Str := ["InvalidText"]
structure Tx (B : Bs) (mg : Str → Option Value) where
  X_InvalidText : XcF B mg "InvalidText" "InvalidText.__init__" s_InvalidText P_InvalidText
  no_InvalidText : PySem.W.findIn B.K (.ref (B.xc "InvalidText")) "line" = some none
  xf_InvalidText : XfC B.K (B.xc "InvalidText")
  n2_InvalidText : PySem.W.findIn B.K (.ref (B.xc "InvalidText")) "word" = some none
  c_InvalidText : mg "InvalidText" = some (.ref (B.xc "InvalidText"))
  fe : FeF B mg
  exm : ExmF B xsL csL
  D__law_taken : Df B mg "_law_taken" s__law_taken P__law_taken
  D__law_buyer : Df B mg "_law_buyer" s__law_buyer P__law_buyer
  D__law_parts : Df B mg "_law_parts" s__law_parts P__law_parts
  D__law_text : Df B mg "_law_text" s__law_text P__law_text
  D_number_in : Df B mg "number_in" s_number_in P_number_in
  D_things_in : Df B mg "things_in" s_things_in P_things_in
  D_pair_in : Df B mg "pair_in" s_pair_in P_pair_in
  D_buyer_in : Df B mg "buyer_in" s_buyer_in P_buyer_in
  D_is_from : Df B mg "is_from" s_is_from P_is_from
  D_is_pair : Df B mg "is_pair" s_is_pair P_is_pair
  D_is_buyer : Df B mg "is_buyer" s_is_buyer P_is_buyer
  f_Sale : Addr
  d_Sale : FuncData
  F_Sale : Fun B.K "__init__" "Sale.__init__" s_Sale f_Sale d_Sale
  m_Sale : mg "Sale" = some (.ref B.cs)
  mk_Sale : Mk B.K B.cs f_Sale
  sale : SaleF B
  b_Sale : Binds B.K d_Sale P_Sale []
  D_read : Df B mg "read" s_read P_read
  D__law_refused : Df B mg "_law_refused" s__law_refused P__law_refused
  D__law_number : Df B mg "_law_number" s__law_number P__law_number
  D__law_pair : Df B mg "_law_pair" s__law_pair P__law_pair
  D__law_wrong : Df B mg "_law_wrong" s__law_wrong P__law_wrong
  D_law : Df B mg "law" s_law P_law
  n_all : mg "all" = none
  n_bool : mg "bool" = none
  n_enumerate : mg "enumerate" = none
  n_int : mg "int" = none
  n_isinstance : mg "isinstance" = none
  n_len : mg "len" = none
  n_range : mg "range" = none
  n_str : mg "str" = none
  n_tuple : mg "tuple" = none
  t_MOST : Tok
  m_MOST : mg "MOST" = some (.int 1000000000 t_MOST)
  t_MOST_BUYERS : Tok
  m_MOST_BUYERS : mg "MOST_BUYERS" = some (.int 4 t_MOST_BUYERS)
  t_MOST_FIGURES : Tok
  m_MOST_FIGURES : mg "MOST_FIGURES" = some (.int 10 t_MOST_FIGURES)
  t_MOST_THINGS : Tok
  m_MOST_THINGS : mg "MOST_THINGS" = some (.int 3 t_MOST_THINGS)
  t_MOST_WORTHS : Tok
  m_MOST_WORTHS : mg "MOST_WORTHS" = some (.int 5 t_MOST_WORTHS)
/-! the plain functions -/
abbrev f__law_taken : List D → M D := drawF
def l1__law_buyer : En → M Fl := (cSeq (cApp 3 (cTup (cCons (cVar 2) (cCons (cOp gAdd (cC (.int 1)) (cCall 2 f__law_taken (cCons (cVar 0) (cCons (cOp gIx (cLst (cCons (cC (.int 1)) (cCons (cC (.int 3)) (cCons (cC (.int 9)) (cCons (cOp gPow (cC (.int 10)) (cC (.int 8))) cNil))))) (cCall 2 f__law_taken (cCons (cVar 0) (cCons (cC (.int 4)) cNil)))) cNil)))) cNil))))
    (cSet 2 (cOp gAdd (cOp gAdd (cVar 2) (cC (.int 1))) (cCall 2 f__law_taken (cCons (cVar 0) (cCons (cVar 4) cNil))))))
def b__law_buyer : En → M Fl := (cSeq (cPar (pCons [3] 2 (cV (cCall 2 f__law_taken (cCons (cVar 0) (cCons (cC (.int 4)) cNil)))) (pCons [3] 3 (cN (cLstL cNil)) (pCons [3] 4 (cV (cOp gIx (cLst (cCons (cC (.int 1)) (cCons (cC (.int 3)) (cCons (cC (.int 9)) (cCons (cOp gPow (cC (.int 10)) (cC (.int 6))) cNil))))) (cCall 2 f__law_taken (cCons (cVar 0) (cCons (cC (.int 4)) cNil))))) pNil))))
    (cSeq (cFor (cItA gR1 (cCons (cOp gAdd (cC (.int 1)) (cCall 2 f__law_taken (cCons (cVar 0) (cCons (cVar 1) cNil)))) cNil)) (tgName 5) l1__law_buyer)
    (cRet (cB gTuple (cCons (cVar 3) cNil)))))
def f__law_buyer : List D → M D := runD 2 6 b__law_buyer
theorem u__law_buyer (x0 x1 : D) (s : S) : f__law_buyer [x0, x1] s = (b__law_buyer [some x0, some x1, none, none, none, none] s).bind endD := rfl
def b__law_parts : En → M Fl := (cSeq (cSet 3 (cB gTuple (cCons (cLc [4] (cItA gR1 (cCons (cOp gAdd (cC (.int 1)) (cCall 2 f__law_taken (cCons (cVar 0) (cCons (cVar 1) cNil)))) cNil)) (tgName 4) cYes (cCall 2 f__law_buyer (cCons (cVar 0) (cCons (cVar 2) cNil)))) cNil)))
    (cRet (cDic ["buyers", "things"] (cCons (cVar 3) (cCons (cOp gAdd (cC (.int 1)) (cCall 2 f__law_taken (cCons (cVar 0) (cCons (cC (.int 3)) cNil)))) cNil)))))
def f__law_parts : List D → M D := runD 3 5 b__law_parts
theorem u__law_parts (x0 x1 x2 : D) (s : S) : f__law_parts [x0, x1, x2] s = (b__law_parts [some x0, some x1, some x2, none, none] s).bind endD := rfl
def l1__law_text : En → M Fl := (cApp 1 (cOp gAdd (cLst (cCons (cC (.str "buyer")) cNil)) (cLc [3, 4] (cItU (cVar 2)) (tgTup 2 (tgCons (tgName 3) (tgCons (tgName 4) tgNil))) cYes (cOp gAdd (cOp gAdd (cB gStrI (cCons (cVar 3) cNil)) (cC (.str ":"))) (cB gStrI (cCons (cVar 4) cNil))))))
def b__law_text : En → M Fl := (cSeq (cSetL 1 (cLstL (cCons (cLst (cCons (cC (.str "things")) (cCons (cB gStrI (cCons (cUn (gKey "things") (cVar 0)) cNil)) cNil))) cNil)))
    (cSeq (cFor (cItU (cUn (gKey "buyers") (cVar 0))) (tgName 2) l1__law_text)
    (cRet (cVar 1))))
def f__law_text : List D → M D := runD 1 5 b__law_text
theorem u__law_text (x0 : D) (s : S) : f__law_text [x0] s = (b__law_text [some x0, none, none, none, none] s).bind endD := rfl
def b_number_in : En → M Fl := (cSeq (cIte (cOr (cNot (cTst (cChain gLe gLe (cC (.int 1)) (cB gLen (cCons (cVar 0) cNil)) (cC (.int 10))))) (cNot (cTst (cB gAll (cCons (cLc [1] (cItStr (cVar 0)) (tgName 1) cYes (cOp inU (cVar 1) (cC (.str "0123456789")))) cNil))))) (cRet (cUn gNeg (cC (.int 1)))) cNext)
    (cSeq (cIte (cOr (cAnd (cTst (cOp gEq (cOp gIx (cVar 0) (cC (.int 0))) (cC (.str "0")))) (cTst (cOp gNe (cVar 0) (cC (.str "0"))))) (cTst (cOp gGt (cB gIntU (cCons (cVar 0) cNil)) (cC (.int 1000000000))))) (cRet (cUn gNeg (cC (.int 1)))) cNext)
    (cRet (cB gIntU (cCons (cVar 0) cNil)))))
def f_number_in : List D → M D := runD 1 2 b_number_in
theorem u_number_in (x0 : D) (s : S) : f_number_in [x0] s = (b_number_in [some x0, none] s).bind endD := rfl
def b_things_in : En → M Fl := (cSeq (cIte (cQ (cTst (cOp gNe (cSl (cVar 0) cNo (cPart (cC (.int 1)))) (cLst (cCons (cC (.str "things")) cNil))))) (cRaise2 "InvalidText" (cCons (cC (.int 1)) (cCons (cC (.int 1)) cNil))) cNext)
    (cSeq (cIte (cQ (cOr (cTst (cOp gLt (cB gLen (cCons (cVar 0) cNil)) (cC (.int 2)))) (cNot (cTst (cChain gLe gLe (cC (.int 1)) (cCall 1 f_number_in (cCons (cOp gIx (cVar 0) (cC (.int 1))) cNil)) (cC (.int 3))))))) (cRaise2 "InvalidText" (cCons (cC (.int 1)) (cCons (cC (.int 2)) cNil))) cNext)
    (cSeq (cIte (cQ (cTst (cOp gGt (cB gLen (cCons (cVar 0) cNil)) (cC (.int 2))))) (cRaise2 "InvalidText" (cCons (cC (.int 1)) (cCons (cC (.int 3)) cNil))) cNext)
    (cQ (cRet (cCall 1 f_number_in (cCons (cOp gIx (cVar 0) (cC (.int 1))) cNil)))))))
def f_things_in : List D → M D := runD 1 1 b_things_in
theorem u_things_in (x0 : D) (s : S) : f_things_in [x0] s = (b_things_in [some x0] s).bind endD := rfl
def b_pair_in : En → M Fl := (cSeq (cSet 2 (cM1 gSplit (cVar 0) (cC (.str ":"))))
    (cSeq (cIte (cOr (cTst (cOp gNe (cB gLen (cCons (cVar 2) cNil)) (cC (.int 2)))) (cOr (cTst (cOp gLe (cCall 1 f_number_in (cCons (cOp gIx (cVar 2) (cC (.int 0))) cNil)) (cVar 1))) (cTst (cOp gLt (cCall 1 f_number_in (cCons (cOp gIx (cVar 2) (cC (.int 1))) cNil)) (cC (.int 1)))))) (cRet (cC .non)) cNext)
    (cRet (cTup (cCons (cCall 1 f_number_in (cCons (cOp gIx (cVar 2) (cC (.int 0))) cNil)) (cCons (cCall 1 f_number_in (cCons (cOp gIx (cVar 2) (cC (.int 1))) cNil)) cNil))))))
def f_pair_in : List D → M D := runD 2 3 b_pair_in
theorem u_pair_in (x0 x1 : D) (s : S) : f_pair_in [x0, x1] s = (b_pair_in [some x0, some x1, none] s).bind endD := rfl
def l1_buyer_in : En → M Fl := (cSeq (cQ (cSet 4 (cCall 2 f_pair_in (cCons (cOp gIx (cVar 0) (cVar 3)) (cCons (cIf (cPk (cTst (cOp gNe (cVar 2) (cLst cNil)))) (cScal (cOp gIx (cOp gIx (cVar 2) (cUn gNeg (cC (.int 1)))) (cC (.int 0)))) (cUn gNeg (cC (.int 1)))) cNil)))))
    (cSeq (cIte (cQ (cOr (cTst (cOp gIsN (cVar 4) (cC .non))) (cPk (cTst (cOp gEq (cB gLen (cCons (cVar 2) cNil)) (cC (.int 5))))))) (cRaise2 "InvalidText" (cCons (cVar 1) (cCons (cOp gAdd (cVar 3) (cC (.int 1))) cNil))) cNext)
    (cQ (cApp 2 (cVar 4)))))
def b_buyer_in : En → M Fl := (cSeq (cQ (cSetL 2 (cLstL cNil)))
    (cSeq (cFor (cQ (cItA gR2 (cCons (cC (.int 1)) (cCons (cB gLen (cCons (cVar 0) cNil)) cNil)))) (tgName 3) l1_buyer_in)
    (cSeq (cIte (cQ (cPk (cTst (cOp gEq (cVar 2) (cLst cNil))))) (cRaise2 "InvalidText" (cCons (cVar 1) (cCons (cC (.int 2)) cNil))) cNext)
    (cQ (cRet (cB gTuple (cCons (cVar 2) cNil)))))))
def f_buyer_in : List D → M D := runD 2 5 b_buyer_in
theorem u_buyer_in (x0 x1 : D) (s : S) : f_buyer_in [x0, x1] s = (b_buyer_in [some x0, some x1, none, none, none] s).bind endD := rfl
def b_is_from : En → M Fl := (cRet (cAndV (cIsi "int" (cVar 0)) (cAndV (cNotV (cIsi "bool" (cVar 0))) (cChain gLe gLe (cVar 1) (cVar 0) (cVar 2)))))
def f_is_from : List D → M D := runD 3 3 b_is_from
theorem u_is_from (x0 x1 x2 : D) (s : S) : f_is_from [x0, x1, x2] s = (b_is_from [some x0, some x1, some x2] s).bind endD := rfl
def b_is_pair : En → M Fl := (cRet (cAndV (cIsi "tuple" (cVar 0)) (cAndV (cOp gEq (cB gLen (cCons (cVar 0) cNil)) (cC (.int 2))) (cAndV (cCall 3 f_is_from (cCons (cOp gIx (cVar 0) (cC (.int 0))) (cCons (cC (.int 0)) (cCons (cC (.int 1000000000)) cNil)))) (cCall 3 f_is_from (cCons (cOp gIx (cVar 0) (cC (.int 1))) (cCons (cC (.int 1)) (cCons (cC (.int 1000000000)) cNil))))))))
def f_is_pair : List D → M D := runD 1 1 b_is_pair
theorem u_is_pair (x0 : D) (s : S) : f_is_pair [x0] s = (b_is_pair [some x0] s).bind endD := rfl
def b_is_buyer : En → M Fl := (cSeq (cIte (cOr (cNot (cTst (cIsi "tuple" (cVar 0)))) (cOr (cNot (cTst (cChain gLe gLe (cC (.int 1)) (cB gLen (cCons (cVar 0) cNil)) (cC (.int 5))))) (cNot (cTst (cB gAll (cCons (cLc [1] (cItU (cVar 0)) (tgName 1) cYes (cCall 1 f_is_pair (cCons (cVar 1) cNil))) cNil)))))) (cRet (cC (.bl false))) cNext)
    (cRet (cB gAll (cCons (cLc [2] (cItA gR1 (cCons (cOp gDif (cB gLen (cCons (cVar 0) cNil)) (cC (.int 1))) cNil)) (tgName 2) cYes (cOp gLt (cOp gIx (cOp gIx (cVar 0) (cVar 2)) (cC (.int 0))) (cOp gIx (cOp gIx (cVar 0) (cOp gAdd (cVar 2) (cC (.int 1)))) (cC (.int 0))))) cNil))))
def f_is_buyer : List D → M D := runD 1 3 b_is_buyer
theorem u_is_buyer (x0 : D) (s : S) : f_is_buyer [x0] s = (b_is_buyer [some x0, none, none] s).bind endD := rfl
def l1_Sale : En → M Fl := (cIte (cNot (cTst (cCall 1 f_is_buyer (cCons (cVar 4) cNil)))) cStuck cNext)
def t1_Sale : En → M Bool := (cOr (cNot (cTst (cIsi "tuple" (cVar 1)))) (cNot (cTst (cChain gLe gLe (cC (.int 1)) (cB gLen (cCons (cVar 1) cNil)) (cC (.int 4))))))
def t3_Sale : En → M Bool := (cNot (cTst (cCall 3 f_is_from (cCons (cVar 2) (cCons (cC (.int 1)) (cCons (cC (.int 3)) cNil))))))
def b_Sale : En → M Fl := (cSeq (cIte t1_Sale cStuck cNext) (cSeq (cFor (cItE (cVar 1)) (tgTup 2 (tgCons (tgName 3) (tgCons (tgName 4) tgNil))) l1_Sale) (cIte t3_Sale cStuck cNext)))
abbrev f_Sale : List D → M D := saleX 5 b_Sale 0
theorem hx_Sale_for (x y : Addr) (b t : Option D) : ∀ (ds : List D) (i j : Option D) (s : S), (∃ i' j' s', forL (tgTup 2 (tgCons (tgName 3) (tgCons (tgName 4) tgNil))) l1_Sale ds [some (.obj x), b, t, i, j] s = .ok (.next [some (.obj x), b, t, i', j']) s' ∧ forL (tgTup 2 (tgCons (tgName 3) (tgCons (tgName 4) tgNil))) l1_Sale ds [some (.obj y), b, t, i, j] s = .ok (.next [some (.obj y), b, t, i', j']) s')
    ∨ (forL (tgTup 2 (tgCons (tgName 3) (tgCons (tgName 4) tgNil))) l1_Sale ds [some (.obj x), b, t, i, j] s = .stuck ∧ forL (tgTup 2 (tgCons (tgName 3) (tgCons (tgName 4) tgNil))) l1_Sale ds [some (.obj y), b, t, i, j] s = .stuck)
    ∨ ∃ e s', (forL (tgTup 2 (tgCons (tgName 3) (tgCons (tgName 4) tgNil))) l1_Sale ds [some (.obj x), b, t, i, j] s = .err e s' ∧ forL (tgTup 2 (tgCons (tgName 3) (tgCons (tgName 4) tgNil))) l1_Sale ds [some (.obj y), b, t, i, j] s = .err e s')
  | [], i, j, s => .inl ⟨i, j, s, rfl, rfl⟩
  | d :: ds, i, j, s => by
    unfold forL
    by_cases hd : ∃ u v, d = .tup [u, v] ∨ d = .lst [u, v]
    · obtain ⟨u, v, hd⟩ := hd
      have e : ∀ z : Addr, tgTup 2 (tgCons (tgName 3) (tgCons (tgName 4) tgNil)) d [some (.obj z), b, t, i, j] = some [some (.obj z), b, t, some u, some v] := fun z => by rcases hd with rfl | rfl <;> rfl
      rw [e, e, lift_some, bind_ok, lift_some, bind_ok]
      unfold l1_Sale
      simp only [e_ite, e_not, e_tst, e_call, e_cons, e_nil, e_var, List.getElem?_cons_succ, List.getElem?_cons_zero, Option.join_some, lift_some, bind_ok, List.length_cons, List.length_nil, if_true]
      cases f_is_buyer [v] s with
      | stuck => right; left; exact ⟨rfl, rfl⟩
      | err e s' => right; right; exact ⟨e, s', rfl, rfl⟩
      | ok r s' =>
        simp only [bind_ok]
        cases asB r with
        | none => right; left; exact ⟨rfl, rfl⟩
        | some q =>
          simp only [lift_some, bind_ok]
          cases q with
          | false => right; left; exact ⟨rfl, rfl⟩
          | true => exact hx_Sale_for x y b t ds (some u) (some v) s'
    · have e : ∀ z : Addr, tgTup 2 (tgCons (tgName 3) (tgCons (tgName 4) tgNil)) d [some (.obj z), b, t, i, j] = none := fun z => by
        unfold tgTup
        split
        · rename_i l
          split
          · rename_i hl
            match l, hl with
            | [u, v], _ => exact absurd ⟨u, v, .inl rfl⟩ hd
          · rfl
        · rename_i l
          split
          · rename_i hl
            match l, hl with
            | [u, v], _ => exact absurd ⟨u, v, .inr rfl⟩ hd
          · rfl
        · rfl
      rw [e, e]
      right; left; exact ⟨rfl, rfl⟩
theorem hx_Sale (x : Addr) (ds : List D) (s : S) : saleX 5 b_Sale x ds s = saleX 5 b_Sale 0 ds s := by
  unfold saleX
  split
  · rename_i hl
    match ds, hl with
    | [c, n], _ => 
      show ((b_Sale [some (.obj x), some c, some n, none, none] s).bind (saleE x)) = ((b_Sale [some (.obj 0), some c, some n, none, none] s).bind (saleE 0))
      have e1 : ∀ z, t1_Sale [some (.obj z), some c, some n, none, none] s = t1_Sale [none, some c, some n, none, none] s := fun z => rfl
      have e3 : ∀ z i j s, t3_Sale [some (.obj z), some c, some n, i, j] s = t3_Sale [none, some c, some n, none, none] s := fun _ _ _ _ => rfl
      unfold b_Sale
      simp only [e_seq, e_ite, e_for, e1]
      cases t1_Sale [none, some c, some n, none, none] s with
      | stuck => rfl
      | err => rfl
      | ok b s1 =>
        simp only [bind_ok]
        cases b with
        | true => rfl
        | false =>
          have es : ∀ z, cItE (cVar 1) [some (.obj z), some c, some n, none, none] s1 = (lift (seqD c) s1).bind fun ds s2 => .ok (enumD ds) s2 := fun z => rfl
          simp only [Bool.false_eq_true, if_false, e_next, bind_ok, es]
          cases seqD c with
          | none => rfl
          | some ds =>
            simp only [lift_some, bind_ok]
            rcases hx_Sale_for x 0 (some c) (some n) (enumD ds) none none s1 with ⟨i', j', s', h1, h2⟩ | ⟨h1, h2⟩ | ⟨e, s', h1, h2⟩
            · rw [h1, h2]
              simp only [bind_ok, e3]
              cases t3_Sale [none, some c, some n, none, none] s' with
              | stuck => rfl
              | err => rfl
              | ok b s2 =>
                cases b with
                | true => rfl
                | false => simp [saleE, isOb]
            · rw [h1, h2]; rfl
            · rw [h1, h2]; rfl
  · rfl
def l1_read : En → M Fl := (cSeq (cIte (cQ (cOr (cTst (cOp gNe (cSl (cOp gIx (cVar 1) (cVar 6)) cNo (cPart (cC (.int 1)))) (cLst (cCons (cC (.str "buyer")) cNil)))) (cPk (cTst (cOp gEq (cB gLen (cCons (cVar 5) cNil)) (cC (.int 4))))))) (cRaise2 "InvalidText" (cCons (cOp gAdd (cVar 6) (cC (.int 1))) (cCons (cC (.int 1)) cNil))) cNext)
    (cApp 5 (cCall 2 f_buyer_in (cCons (cQ (cOp gIx (cVar 1) (cVar 6))) (cCons (cQ (cOp gAdd (cVar 6) (cC (.int 1)))) cNil)))))
def b_read : En → M Fl := (cSeq (cQ (cSet 1 (cLc [3] (cItU (cM1 gSplit (cVar 0) (cC (.str "\n")))) (tgName 3) cYes (cLc [2] (cItU (cM1 gSplit (cVar 3) (cC (.str " ")))) (tgName 2) (cTst (cOp gNe (cVar 2) (cC (.str "")))) (cVar 2)))))
    (cSeq (cPar (pCons [5] 4 (cV (cCall 1 f_things_in (cCons (cQ (cOp gIx (cVar 1) (cC (.int 0)))) cNil))) (pCons [5] 5 (cN (cQ (cLstL cNil))) pNil)))
    (cSeq (cFor (cQ (cItA gR2 (cCons (cC (.int 1)) (cCons (cB gLen (cCons (cVar 1) cNil)) cNil)))) (tgName 6) l1_read)
    (cSeq (cIte (cQ (cPk (cTst (cOp gEq (cVar 5) (cLst cNil))))) (cRaise2 "InvalidText" (cCons (cOp gAdd (cB gLen (cCons (cVar 1) cNil)) (cC (.int 1))) (cCons (cC (.int 1)) cNil))) cNext)
    (cQ (cRet (cCall 2 f_Sale (cCons (cB gTuple (cCons (cVar 5) cNil)) (cCons (cVar 4) cNil)))))))))
def f_read : List D → M D := runD 1 7 b_read
theorem u_read (x0 : D) (s : S) : f_read [x0] s = (b_read [some x0, none, none, none, none, none, none] s).bind endD := rfl
def h1__law_refused : HL := (("InvalidText", cHdAs 2 1 (xLst (xCons (cFld "InvalidText" "line") (xCons (cFld "InvalidText" "word") xNil)))) :: [])
def b__law_refused : En → M Fl := (cSeq (cSet 1 (cC .non))
    (cSeq (cTry xsL (cCall 1 f_read (cCons (cQ (cVar 0)) cNil)) h1__law_refused)
    (cRet (cVar 1))))
def f__law_refused : List D → M D := runD 1 3 b__law_refused
theorem u__law_refused (x0 : D) (s : S) : f__law_refused [x0] s = (b__law_refused [some x0, none, none] s).bind endD := rfl
def b__law_number : En → M Fl := (cSeq (cIte (cOr (cTst (cOp gEq (cVar 0) (cC (.str "")))) (cOr (cTst (cOp gGt (cB gLen (cCons (cVar 0) cNil)) (cC (.int 10)))) (cNot (cTst (cB gAll (cCons (cLc [2] (cItStr (cVar 0)) (tgName 2) cYes (cOp inU (cVar 2) (cC (.str "0123456789")))) cNil)))))) (cRet (cC (.bl false))) cNext)
    (cRet (cAndV (cOrV (cOp gEq (cVar 0) (cC (.str "0"))) (cOp gNe (cOp gIx (cVar 0) (cC (.int 0))) (cC (.str "0")))) (cChain gLe gLe (cVar 1) (cB gIntU (cCons (cVar 0) cNil)) (cOp gPow (cC (.int 10)) (cC (.int 9)))))))
def f__law_number : List D → M D := runD 2 3 b__law_number
theorem u__law_number (x0 x1 : D) (s : S) : f__law_number [x0, x1] s = (b__law_number [some x0, some x1, none] s).bind endD := rfl
def b__law_pair : En → M Fl := (cSeq (cSet 2 (cM1 gSplit (cVar 0) (cC (.str ":"))))
    (cSeq (cIte (cOr (cTst (cOp gNe (cB gLen (cCons (cVar 2) cNil)) (cC (.int 2)))) (cOr (cNot (cTst (cCall 2 f__law_number (cCons (cOp gIx (cVar 2) (cC (.int 0))) (cCons (cC (.int 0)) cNil))))) (cNot (cTst (cCall 2 f__law_number (cCons (cOp gIx (cVar 2) (cC (.int 1))) (cCons (cC (.int 1)) cNil))))))) (cRet (cC (.bl false))) cNext)
    (cRet (cOrV (cOp gEq (cVar 1) (cC (.str ""))) (cOp gGt (cB gIntU (cCons (cOp gIx (cVar 2) (cC (.int 0))) cNil)) (cB gIntU (cCons (cVar 1) cNil)))))))
def f__law_pair : List D → M D := runD 2 3 b__law_pair
theorem u__law_pair (x0 x1 : D) (s : S) : f__law_pair [x0, x1] s = (b__law_pair [some x0, some x1, none] s).bind endD := rfl
def l1__law_wrong : En → M Fl := (cSeq (cIte (cOr (cTst (cOp gEq (cVar 3) (cC (.int 6)))) (cNot (cTst (cCall 2 f__law_pair (cCons (cOp gIx (cOp gIx (cVar 0) (cVar 1)) (cVar 3)) (cCons (cVar 2) cNil)))))) (cRet (cLst (cCons (cOp gAdd (cVar 1) (cC (.int 1))) (cCons (cOp gAdd (cVar 3) (cC (.int 1))) cNil)))) cNext)
    (cSet 2 (cOp gIx (cM1 gSplit (cOp gIx (cOp gIx (cVar 0) (cVar 1)) (cVar 3)) (cC (.str ":"))) (cC (.int 0)))))
def l2__law_wrong : En → M Fl := (cSeq (cIte (cOr (cTst (cOp gNe (cSl (cOp gIx (cVar 0) (cVar 1)) cNo (cPart (cC (.int 1)))) (cLst (cCons (cC (.str "buyer")) cNil)))) (cTst (cOp gEq (cVar 1) (cC (.int 5))))) (cRet (cLst (cCons (cOp gAdd (cVar 1) (cC (.int 1))) (cCons (cC (.int 1)) cNil)))) cNext)
    (cSeq (cIte (cTst (cOp gEq (cB gLen (cCons (cOp gIx (cVar 0) (cVar 1)) cNil)) (cC (.int 1)))) (cRet (cLst (cCons (cOp gAdd (cVar 1) (cC (.int 1))) (cCons (cC (.int 2)) cNil)))) cNext)
    (cSeq (cSet 2 (cC (.str "")))
    (cFor (cItA gR2 (cCons (cC (.int 1)) (cCons (cB gLen (cCons (cOp gIx (cVar 0) (cVar 1)) cNil)) cNil))) (tgName 3) l1__law_wrong))))
def b__law_wrong : En → M Fl := (cSeq (cIte (cTst (cOp gNe (cSl (cOp gIx (cVar 0) (cC (.int 0))) cNo (cPart (cC (.int 1)))) (cLst (cCons (cC (.str "things")) cNil)))) (cRet (cLst (cCons (cC (.int 1)) (cCons (cC (.int 1)) cNil)))) cNext)
    (cSeq (cIte (cOr (cTst (cOp gLt (cB gLen (cCons (cOp gIx (cVar 0) (cC (.int 0))) cNil)) (cC (.int 2)))) (cTst (cOp gNotIn (cOp gIx (cOp gIx (cVar 0) (cC (.int 0))) (cC (.int 1))) (cLst (cCons (cC (.str "1")) (cCons (cC (.str "2")) (cCons (cC (.str "3")) cNil))))))) (cRet (cLst (cCons (cC (.int 1)) (cCons (cC (.int 2)) cNil)))) cNext)
    (cSeq (cIte (cTst (cOp gGt (cB gLen (cCons (cOp gIx (cVar 0) (cC (.int 0))) cNil)) (cC (.int 2)))) (cRet (cLst (cCons (cC (.int 1)) (cCons (cC (.int 3)) cNil)))) cNext)
    (cSeq (cFor (cItA gR2 (cCons (cC (.int 1)) (cCons (cB gLen (cCons (cVar 0) cNil)) cNil))) (tgName 1) l2__law_wrong)
    (cRet (cIf (cTst (cOp gEq (cB gLen (cCons (cVar 0) cNil)) (cC (.int 1)))) (cLst (cCons (cC (.int 2)) (cCons (cC (.int 1)) cNil))) (cC .non)))))))
def f__law_wrong : List D → M D := runD 1 4 b__law_wrong
theorem u__law_wrong (x0 : D) (s : S) : f__law_wrong [x0] s = (b__law_wrong [some x0, none, none, none] s).bind endD := rfl
def l1_law : En → M Fl := (cSeq (cPar (pCons [] 8 (cV (cCall 2 f__law_taken (cCons (cVar 1) (cCons (cB gLen (cCons (cVar 5) cNil)) cNil)))) (pCons [] 9 (cV (cCall 2 f__law_taken (cCons (cVar 1) (cCons (cC (.int 6)) cNil)))) pNil)))
    (cSeq (cSet 6 (cOp gIx (cVar 5) (cVar 8)))
    (cSeq (cSet 10 (cCall 2 f__law_taken (cCons (cVar 1) (cCons (cOp gAdd (cB gLen (cCons (cVar 6) cNil)) (cC (.int 1))) cNil))))
    (cSeq (cSet 11 (cIf (cTst (cOp gNe (cVar 9) (cC (.int 1)))) (cLst (cCons (cOp gIx (cVar 2) (cCall 2 f__law_taken (cCons (cVar 1) (cCons (cB gLen (cCons (cVar 2) cNil)) cNil)))) cNil)) (cLst cNil)))
    (cSeq (cIte (cTst (cOp gLt (cVar 9) (cC (.int 4)))) (cSeq (cSet 6 (cOp gAdd (cOp gAdd (cSl (cVar 6) cNo (cPart (cVar 10))) (cVar 11)) (cSl (cVar 6) (cPart (cOp gAdd (cVar 10) (cB gIntU (cCons (cOp inU (cVar 9) (cTup (cCons (cC (.int 1)) (cCons (cC (.int 2)) cNil)))) cNil)))) cNo)))
    (cSet 5 (cOp gAdd (cOp gAdd (cSl (cVar 5) cNo (cPart (cVar 8))) (cLst (cCons (cVar 6) cNil))) (cSl (cVar 5) (cPart (cOp gAdd (cVar 8) (cC (.int 1)))) cNo)))) (cIte (cTst (cOp gEq (cVar 9) (cC (.int 4)))) (cSeq (cSet 12 (cOp gMulU (cLst (cCons (cVar 6) cNil)) (cOp gMulU (cC (.int 2)) (cCall 2 f__law_taken (cCons (cVar 1) (cCons (cC (.int 2)) cNil))))))
    (cSet 5 (cOp gAdd (cOp gAdd (cSl (cVar 5) cNo (cPart (cVar 8))) (cVar 12)) (cSl (cVar 5) (cPart (cOp gAdd (cVar 8) (cC (.int 1)))) cNo)))) (cSeq (cSet 13 (cUn gRev (cSl (cVar 5) (cPart (cVar 8)) (cPart (cOp gAdd (cVar 8) (cC (.int 2)))))))
    (cSet 5 (cOp gAdd (cOp gAdd (cSl (cVar 5) cNo (cPart (cVar 8))) (cVar 13)) (cSl (cVar 5) (cPart (cOp gAdd (cVar 8) (cC (.int 2)))) cNo))))))
    (cSet 5 (cOrL (cVar 5) (cLst (cCons (cLst cNil) cNil)))))))))
def l2_law : En → M Fl := (cSeq (cSet 4 (cCall 3 f__law_parts (cCons (cVar 1) (cCons (cC (.int 4)) (cCons (cC (.int 5)) cNil)))))
    (cSeq (cSet 5 (cCall 1 f__law_text (cCons (cVar 4) cNil)))
    (cSeq (cIte (cTst (cOp gNotN (cCall 1 f__law_refused (cCons (cM1 gJoin (cC (.str "\n")) (cLc [6] (cItU (cVar 5)) (tgName 6) cYes (cM1 gJoin (cC (.str " ")) (cVar 6)))) cNil)) (cC .non))) (cRet (cC (.bl false))) cNext)
    (cSeq (cFor (cItA gR1 (cCons (cOp gAdd (cC (.int 1)) (cCall 2 f__law_taken (cCons (cVar 1) (cCons (cC (.int 2)) cNil)))) cNil)) (tgName 7) l1_law)
    (cIte (cTst (cOp gNe (cCall 1 f__law_refused (cCons (cM1 gJoin (cC (.str "\n")) (cLc [6] (cItU (cVar 5)) (tgName 6) cYes (cM1 gJoin (cC (.str " ")) (cVar 6)))) cNil)) (cCall 1 f__law_wrong (cCons (cVar 5) cNil)))) (cRet (cC (.bl false))) cNext)))))
def b_law : En → M Fl := (cSeq (cSet 2 (cLst (cCons (cC (.str "things")) (cCons (cC (.str "buyer")) (cCons (cC (.str "1")) (cCons (cC (.str "2")) (cCons (cC (.str "4")) (cCons (cC (.str "0")) (cCons (cC (.str "0:1")) (cCons (cC (.str "1:0")) (cCons (cC (.str "1:1")) (cCons (cC (.str "7:2")) (cCons (cC (.str "50:1")) (cCons (cC (.str "01:1")) (cCons (cC (.str "1:01")) (cCons (cC (.str "-1:1")) cNil))))))))))))))))
    (cSeq (cSet 2 (cOp gAdd (cVar 2) (cLst (cCons (cC (.str "1:1:1")) (cCons (cC (.str "1:")) cNil)))))
    (cSeq (cSet 2 (cOp gAdd (cVar 2) (cLst (cCons (cC (.str ":1")) (cCons (cC (.str "x")) (cCons (cC (.str "1000000000:1")) (cCons (cC (.str "1000000001:1")) (cCons (cC (.str "0:1000000001")) (cCons (cC (.str "999:99999999999")) cNil)))))))))
    (cSeq (cFor (cItA gR1 (cCons (cC (.int 8)) cNil)) (tgName 3) l2_law)
    (cRet (cOp gEq (cCall 1 f__law_refused (cCons (cC (.str "")) cNil)) (cLst (cCons (cC (.int 1)) (cCons (cC (.int 1)) cNil)))))))))
section
variable {B : Bs} {P : Program} {w : World} [DxF B P w] {mg : Str → Option Value} {base : Heap}
theorem okI_InvalidText (T : Tx B mg) : FnOk P w B.K mg base CX0 1 T.X_InvalidText.f T.X_InvalidText.d P_InvalidText (spI2 (B.xc "InvalidText") "line" "word") := init2_ok (k := 0) (m := "a text is wrong") T.X_InvalidText.F sc_InvalidText rfl rfl T.X_InvalidText.o T.no_InvalidText T.n2_InvalidText fun cdv A outer s H E hr => pss_cons (ps_expr (pe_clinit (by rfl) T.fe.m T.fe.sp T.fe.ty T.fe.rd T.fe.fc (pa_cons (pv 0) (pa_cons pe_str pa_nil)))) (pss_cons (ps_ost (pv 0) (pv 1)) (pss_one (ps_ost (pv 0) (pv 2))))
theorem ok__law_taken (T : Tx B mg) : FnOk P w B.K mg base CX0 1 T.D__law_taken.f T.D__law_taken.d P__law_taken (spD B 2 drawF) := taken_ok (k := 0) T.D__law_taken.F sc__law_taken rfl rfl fun cdv A outer s H E hr =>
  pss_cons (ps_if (pt_cmpR op_gt (pe_ix ix_list (pv 0) pe_int (fun _ _ => rfl)) pe_int (nomark _))
    (pss_cons (ps_set (i := 2) sc__law_taken.nd rfl (Or.inl rfl) (pe_op op_mod (pe_callTy call_int1 (by rfl) T.n_int (by decide +kernel) (pa_cons (pe_ix ix_list (pv 0) pe_int (fun _ _ => rfl)) pa_nil)) (pv 1)))
    (pss_cons (ps_asg (pe_op op_fdiv (pe_ix ix_list (pv 0) pe_int (fun _ _ => rfl)) (pv 1)) (pg_sub (pv 0) pe_int set_list)) (pss_one (ps_ret (pv 2))))) pss_nil)
  (pss_cons (ps_asg (pe_op op_add (pe_ix ix_list (pv 0) pe_int (fun _ _ => rfl)) pe_int) (pg_sub (pv 0) pe_int set_list))
  (pss_cons (ps_if (pt_cmpR op_gt (pe_ix ix_list (pv 0) pe_int (fun _ _ => rfl)) (pe_callB call_len_seq (by rfl) T.n_len (by decide +kernel) (pa_cons (pe_ix ix_list (pv 0) pe_int (fun _ _ => rfl)) pa_nil)) (nomark _))
    (pss_cons (ps_asg (pe_op op_mod (pe_callTy call_int1 (by rfl) T.n_int (by decide +kernel) (pa_cons (pe_op op_add (pe_op op_mul (pe_ix ix_list (pv 0) pe_int (fun _ _ => rfl)) pe_int) pe_int) pa_nil)) pe_int) (pg_sub (pv 0) pe_int set_list))
    (pss_one (ps_ret (pe_op op_mod (pe_callTy call_int1 (by rfl) T.n_int (by decide +kernel) (pa_cons (pe_op op_fdiv (pe_ix ix_list (pv 0) pe_int (fun _ _ => rfl)) pe_int) pa_nil)) (pv 1))))) pss_nil)
  (pss_cons (ps_set (i := 3) sc__law_taken.nd rfl (Or.inl rfl) (pe_ix ix_list (pe_ix ix_list (pv 0) pe_int (fun _ _ => rfl)) (pe_op op_sub (pe_ix ix_list (pv 0) pe_int (fun _ _ => rfl)) pe_int) (fun _ _ => rfl)))
  (pss_cons (ps_asg (pe_op op_mod (pe_callTy call_int1 (by rfl) T.n_int (by decide +kernel) (pa_cons (pe_op op_add (pe_op op_add (pe_op op_mul (pe_ix ix_list (pv 0) pe_int (fun _ _ => rfl)) pe_int) (pv 3)) pe_int) pa_nil)) pe_int) (pg_sub (pv 0) pe_int set_list))
  (pss_cons (ps_if (pt_cmpR op_ge (pv 3) (pe_op op_pow pe_int pe_int) (nomark _)) (pss_one (ps_asg (pe_op op_fdiv (pv 3) (pv 1)) (pg_sub (pv 0) pe_int set_list))) pss_nil)
  (pss_one (ps_ret (pe_op op_mod (pe_callTy call_int1 (by rfl) T.n_int (by decide +kernel) (pa_cons (pv 3) pa_nil)) (pv 1)))))))))

theorem ok__law_buyer (T : Tx B mg) : FnOk P w B.K mg base CX0 2 T.D__law_buyer.f T.D__law_buyer.d P__law_buyer (spD B 2 f__law_buyer) := by
  have G__law_taken := ok__law_taken (P := P) (w := w) (base := base) T
  have key : FnOk P w B.K mg base CX0 2 T.D__law_buyer.f T.D__law_buyer.d P__law_buyer (spD B P__law_buyer.length (runD P__law_buyer.length N__law_buyer.length b__law_buyer)) := fn_ok (B := B) (W := [3]) (k := 1) (body := b__law_buyer) T.D__law_buyer.F sc__law_buyer (by rfl) fun cdv A outer s H E hr => ⟨_, (pss_cons (ps_par3 (i := 2) (j := 3) (l := 4) (by rfl) sc__law_buyer.nd rfl rfl rfl (by decide) (by decide) (by decide) rfl rfl rfl (pa_cons (pe_call G__law_taken (hr.mono (by decide)) (by rfl) T.D__law_taken.m T.D__law_taken.k T.D__law_taken.b .nil pass0 (pa_cons (pv 0) (pa_cons pe_int pa_nil))) (pa_cons (pe_lst pa_nil) (pa_cons (pe_ix ix_seq (pe_lst (pa_cons pe_int (pa_cons pe_int (pa_cons pe_int (pa_cons (pe_op op_pow pe_int pe_int) pa_nil))))) (pe_call G__law_taken (hr.mono (by decide)) (by rfl) T.D__law_taken.m T.D__law_taken.k T.D__law_taken.b .nil pass0 (pa_cons (pv 0) (pa_cons pe_int pa_nil))) (fun _ _ => rfl)) pa_nil))) (by rfl))
      (pss_cons (ps_for PassesOwn.never rfl (pi_range1 (by rfl) T.n_range (pa_cons (pe_op op_addU pe_int (pe_call G__law_taken (hr.mono (by decide)) (by rfl) T.D__law_taken.m T.D__law_taken.k T.D__law_taken.b .nil pass0 (pa_cons (pv 0) (pa_cons (pv 1) pa_nil)))) pa_nil)) (pg_name (i := 5) sc__law_buyer.nd rfl (by first | exact Or.inl rfl | exact Or.inr rfl)) (pss_cons (ps_expr (pe_bm PySem.F.plainAttrs_list PySem.F.slot_list_append PySem.F.type_list_append mt_append (pv 3) (pa_cons (pe_tup (pa_cons (pv 2) (pa_cons (pe_op op_addU pe_int (pe_call G__law_taken (hr.mono (by decide)) (by rfl) T.D__law_taken.m T.D__law_taken.k T.D__law_taken.b .nil pass0 (pa_cons (pv 0) (pa_cons (pe_ix ix_seq (pe_lst (pa_cons pe_int (pa_cons pe_int (pa_cons pe_int (pa_cons (pe_op op_pow pe_int pe_int) pa_nil))))) (pe_call G__law_taken (hr.mono (by decide)) (by rfl) T.D__law_taken.m T.D__law_taken.k T.D__law_taken.b .nil pass0 (pa_cons (pv 0) (pa_cons pe_int pa_nil))) (fun _ _ => rfl)) pa_nil)))) pa_nil))) pa_nil)))
      (pss_one (ps_set (i := 2) sc__law_buyer.nd rfl (by first | exact Or.inl rfl | exact Or.inr rfl) (pe_op op_addU (pe_op op_addU (pv 2) pe_int) (pe_call G__law_taken (hr.mono (by decide)) (by rfl) T.D__law_taken.m T.D__law_taken.k T.D__law_taken.b .nil pass0 (pa_cons (pv 0) (pa_cons (pv 4) pa_nil))))))))
      (pss_one (ps_ret (pe_callTy call_tuple_of (by rfl) T.n_tuple (by decide +kernel) (pa_cons (pv 3) pa_nil)))))),
    (rs_seq (rs_par3 (rps_cons (rp_v (rd_call (rd_cons rd_var (rd_cons rd_int rd_nil)))) (rps_cons (rp_n (rl_lst rd_nil)) (rps_cons (rp_v (rd_op os_ix (rd_lst (rd_cons rd_int (rd_cons rd_int (rd_cons rd_int (rd_cons (rd_op os_pow rd_int rd_int) rd_nil))))) (rd_call (rd_cons rd_var (rd_cons rd_int rd_nil))))) rps_nil))))
      (rs_seq (rs_for (ri_r1 (rd_cons (rd_op os_add rd_int (rd_call (rd_cons rd_var (rd_cons rd_var rd_nil)))) rd_nil)) rg_name (rs_seq (rs_app (rd_tup (rd_cons rd_var (rd_cons (rd_op os_add rd_int (rd_call (rd_cons rd_var (rd_cons (rd_op os_ix (rd_lst (rd_cons rd_int (rd_cons rd_int (rd_cons rd_int (rd_cons (rd_op os_pow rd_int rd_int) rd_nil))))) (rd_call (rd_cons rd_var (rd_cons rd_int rd_nil)))) rd_nil)))) rd_nil))))
      (rs_set (rd_op os_add (rd_op os_add rd_var rd_int) (rd_call (rd_cons rd_var (rd_cons rd_var rd_nil)))))))
      (rs_ret (rd_b cs_tuple (rd_cons rd_var rd_nil)))))⟩
  exact key
theorem ok__law_parts (T : Tx B mg) : FnOk P w B.K mg base CX0 3 T.D__law_parts.f T.D__law_parts.d P__law_parts (spD B 3 f__law_parts) := by
  have G__law_buyer := ok__law_buyer (P := P) (w := w) (base := base) T
  have G__law_taken := ok__law_taken (P := P) (w := w) (base := base) T
  have key : FnOk P w B.K mg base CX0 3 T.D__law_parts.f T.D__law_parts.d P__law_parts (spD B P__law_parts.length (runD P__law_parts.length N__law_parts.length b__law_parts)) := fn_ok (B := B) (W := []) (k := 2) (body := b__law_parts) T.D__law_parts.F sc__law_parts (by rfl) fun cdv A outer s H E hr => ⟨_, (pss_cons (ps_set (i := 3) sc__law_parts.nd rfl (by first | exact Or.inl rfl | exact Or.inr rfl) (pe_callTy call_tuple_of (by rfl) T.n_tuple (by decide +kernel) (pa_cons (pe_lc (own := [("_law_number_here", 4)]) (by rfl) sc__law_parts.nd (pi_range1 (by rfl) T.n_range (pa_cons (pe_op op_addU pe_int (pe_call G__law_taken (hr.mono (by decide)) (by rfl) T.D__law_taken.m T.D__law_taken.k T.D__law_taken.b .nil pass0 (pa_cons (pv 0) (pa_cons (pv 1) pa_nil)))) pa_nil)) (blkOk_by (own := [("_law_number_here", 4)]) (N := N__law_parts) (sc := defScope s__law_parts) (by decide +kernel)) (fun _ _ _ _ _ => (pg_name (i := 4) sc__law_parts.nd rfl (by first | exact Or.inl rfl | exact Or.inr rfl))) (fun _ _ _ _ _ => pts_nil) (fun _ _ _ _ _ => (pe_call G__law_buyer (hr.mono (by decide)) (by rfl) T.D__law_buyer.m T.D__law_buyer.k T.D__law_buyer.b .nil pass0 (pa_cons (pv 0) (pa_cons (pv 2) pa_nil))))) pa_nil)))
      (pss_one (ps_ret (pe_disp (pps_cons pe_str (pv 3) (pps_cons pe_str (pe_op op_addU pe_int (pe_call G__law_taken (hr.mono (by decide)) (by rfl) T.D__law_taken.m T.D__law_taken.k T.D__law_taken.b .nil pass0 (pa_cons (pv 0) (pa_cons pe_int pa_nil)))) pps_nil)) (by rfl) (by rfl) (fun z => by cases z) (by decide))))),
    (rs_seq (rs_set (rd_b cs_tuple (rd_cons (rd_comp (ri_r1 (rd_cons (rd_op os_add rd_int (rd_call (rd_cons rd_var (rd_cons rd_var rd_nil)))) rd_nil)) rg_name rt_yes (rd_call (rd_cons rd_var (rd_cons rd_var rd_nil)))) rd_nil)))
      (rs_ret (rd_dic (rpr_cons rd_var (rpr_cons (rd_op os_add rd_int (rd_call (rd_cons rd_var (rd_cons rd_int rd_nil)))) rpr_nil)))))⟩
  exact key
theorem ok__law_text (T : Tx B mg) : FnOk P w B.K mg base CX0 1 T.D__law_text.f T.D__law_text.d P__law_text (spD B 1 f__law_text) := by
  have key : FnOk P w B.K mg base CX0 1 T.D__law_text.f T.D__law_text.d P__law_text (spD B P__law_text.length (runD P__law_text.length N__law_text.length b__law_text)) := fn_ok (B := B) (W := [1]) (k := 0) (body := b__law_text) T.D__law_text.F sc__law_text (by rfl) fun cdv A outer s H E hr => ⟨_, (pss_cons (ps_set (i := 1) sc__law_text.nd rfl (by first | exact Or.inl rfl | exact Or.inr rfl) (pe_lst (pa_cons (pe_lst (pa_cons pe_str (pa_cons (pe_callTy call_str_int (by rfl) T.n_str (by decide +kernel) (pa_cons (pe_dget (hu_of hr) (pv 0) pe_str (fun _ _ => rfl)) pa_nil)) pa_nil))) pa_nil)))
      (pss_cons (ps_for PassesOwn.never rfl (pi_seq (pe_dget (hu_of hr) (pv 0) pe_str (fun _ _ => rfl))) (pg_name (i := 2) sc__law_text.nd rfl (by first | exact Or.inl rfl | exact Or.inr rfl)) (pss_one (ps_expr (pe_bm PySem.F.plainAttrs_list PySem.F.slot_list_append PySem.F.type_list_append mt_append (pv 1) (pa_cons (pe_op op_addU (pe_lst (pa_cons pe_str pa_nil)) (pe_lc (own := [("_law_worth", 3), ("_law_weight", 4)]) (by rfl) sc__law_text.nd (pi_seq (pv 2)) (blkOk_by (own := [("_law_worth", 3), ("_law_weight", 4)]) (N := N__law_text) (sc := defScope s__law_text) (by decide +kernel)) (fun _ _ _ _ _ => (pg_tl rfl (pgs_cons (pg_name (i := 3) sc__law_text.nd rfl (by first | exact Or.inl rfl | exact Or.inr rfl)) (pgs_cons (pg_name (i := 4) sc__law_text.nd rfl (by first | exact Or.inl rfl | exact Or.inr rfl)) pgs_nil)))) (fun _ _ _ _ _ => pts_nil) (fun _ _ _ _ _ => (pe_op op_addU (pe_op op_addU (pe_callTy call_str_int (by rfl) T.n_str (by decide +kernel) (pa_cons (pv 3) pa_nil)) pe_str) (pe_callTy call_str_int (by rfl) T.n_str (by decide +kernel) (pa_cons (pv 4) pa_nil)))))) pa_nil)))))
      (pss_one (ps_ret (pv 1))))),
    (rs_seq (rs_own (rl_lst (rd_cons (rd_lst (rd_cons rd_str (rd_cons (rd_b cs_strI (rd_cons (rd_key rd_var) rd_nil)) rd_nil))) rd_nil)))
      (rs_seq (rs_for (ri_seq (rd_key rd_var)) rg_name (rs_app (rd_op os_add (rd_lst (rd_cons rd_str rd_nil)) (rd_comp (ri_seq rd_var) (rg_tup (rg_cons rg_name (rg_cons rg_name rg_nil))) rt_yes (rd_op os_add (rd_op os_add (rd_b cs_strI (rd_cons rd_var rd_nil)) rd_str) (rd_b cs_strI (rd_cons rd_var rd_nil)))))))
      (rs_ret rd_var)))⟩
  exact key
theorem ok_number_in (T : Tx B mg) : FnOk P w B.K mg base CX0 1 T.D_number_in.f T.D_number_in.d P_number_in (spD B 1 f_number_in) := by
  have key : FnOk P w B.K mg base CX0 1 T.D_number_in.f T.D_number_in.d P_number_in (spD B P_number_in.length (runD P_number_in.length N_number_in.length b_number_in)) := fn_ok (B := B) (W := []) (k := 0) (body := b_number_in) T.D_number_in.F sc_number_in (by rfl) fun cdv A outer s H E hr => ⟨_, (pss_cons (ps_if (PW.pt (pw_or (pt_not (pt_chain op_le op_le pe_int (pe_callB call_len (by rfl) T.n_len (by decide +kernel) (pa_cons (pv 0) pa_nil)) (pe_glob (v := .int 10) (by rfl) T.m_MOST_FIGURES ⟨_, rfl⟩))) (pw_or1 (pt_not (pt_val (pe_callB (cr_all rfl) (by rfl) T.n_all (by decide +kernel) (pa_cons (pe_lc (own := [("sign", 1)]) (by rfl) sc_number_in.nd (pi_str (pv 0)) (blkOk_by (own := [("sign", 1)]) (N := N_number_in) (sc := defScope s_number_in) (by decide +kernel)) (fun _ _ _ _ _ => (pg_name (i := 1) sc_number_in.nd rfl (by first | exact Or.inl rfl | exact Or.inr rfl))) (fun _ _ _ _ _ => pts_nil) (fun _ _ _ _ _ => (pe_cmpR op_inU (pv 1) pe_str (by rfl)))) pa_nil))))))) (pss_one (ps_ret (pe_un un_neg pe_int))) pss_nil)
      (pss_cons (ps_if (PW.pt (pw_or (PW.pt (pw_and (pt_cmpR (op_eqD hr.units) (pe_ix ix_seq (pv 0) pe_int (fun _ _ => rfl)) pe_str (nomark _)) (pw_and1 (pt_cmpR (op_neD hr.units) (pv 0) pe_str (nomark _))))) (pw_or1 (pt_cmpR op_gt (pe_callTy call_intU (by rfl) T.n_int (by decide +kernel) (pa_cons (pv 0) pa_nil)) (pe_glob (v := .int 1000000000) (by rfl) T.m_MOST ⟨_, rfl⟩) (nomark _))))) (pss_one (ps_ret (pe_un un_neg pe_int))) pss_nil)
      (pss_one (ps_ret (pe_callTy call_intU (by rfl) T.n_int (by decide +kernel) (pa_cons (pv 0) pa_nil)))))),
    (rs_seq (rs_if (rt_or (rt_not (rt_b (rd_chain os_le os_le rd_int (rd_b cs_len (rd_cons rd_var rd_nil)) rd_int))) (rt_not (rt_b (rd_b cs_all (rd_cons (rd_comp (ri_str rd_var) rg_name rt_yes (rd_op os_inU rd_var rd_str)) rd_nil))))) (rs_ret (rd_un us_neg rd_int)) rs_next)
      (rs_seq (rs_if (rt_or (rt_and (rt_b (rd_op os_eq (rd_op os_ix rd_var rd_int) rd_str)) (rt_b (rd_op os_ne rd_var rd_str))) (rt_b (rd_op os_gt (rd_b cs_intU (rd_cons rd_var rd_nil)) rd_int))) (rs_ret (rd_un us_neg rd_int)) rs_next)
      (rs_ret (rd_b cs_intU (rd_cons rd_var rd_nil)))))⟩
  exact key
theorem ok_things_in (T : Tx B mg) : FnOk P w B.K mg base (L2.CX P w) 3 T.D_things_in.f T.D_things_in.d P_things_in (spX B 1 f_things_in) := by
  have G_number_in := ok_number_in (P := P) (w := w) (base := base) T
  have GI_InvalidText := okI_InvalidText (P := P) (w := w) (base := base) T
  have key : FnOk P w B.K mg base (L2.CX P w) 3 T.D_things_in.f T.D_things_in.d P_things_in (spX B P_things_in.length (runD P_things_in.length N_things_in.length b_things_in)) := fnx_ok (B := B) (W := []) (k := 2) (body := b_things_in) T.D_things_in.F sc_things_in (by rfl) fun cdv A outer s H E hr => ⟨_, (pss_cons (ps_if (PT.nox (pt_cmpR (op_neD hr.units) (pe_slice sl_U (pv 0) po_none (po_some pe_int)) (pe_lst (pa_cons pe_str pa_nil)) (nomark _))) (pss_one (ps_raise rfl (takes_of rfl rfl rfl rfl) (pmk_oex T.X_InvalidText.o T.X_InvalidText.i T.X_InvalidText.t GI_InvalidText (hr.mono (by decide)) T.X_InvalidText.b .nil pass0 (by rfl) T.X_InvalidText.m (pa_cons (PE.nox pe_int) (pa_cons (PE.nox pe_int) pa_nil))))) pss_nil)
      (pss_cons (ps_if (PT.nox (PW.pt (pw_or (pt_cmpR op_lt (pe_callB call_len (by rfl) T.n_len (by decide +kernel) (pa_cons (pv 0) pa_nil)) pe_int (nomark _)) (pw_or1 (pt_not (pt_chain op_le op_le pe_int (pe_call G_number_in (hr.mono (by decide)) (by rfl) T.D_number_in.m T.D_number_in.k T.D_number_in.b .nil pass0 (pa_cons (pe_ix ix_seq (pv 0) pe_int (fun _ _ => rfl)) pa_nil)) (pe_glob (v := .int 3) (by rfl) T.m_MOST_THINGS ⟨_, rfl⟩))))))) (pss_one (ps_raise rfl (takes_of rfl rfl rfl rfl) (pmk_oex T.X_InvalidText.o T.X_InvalidText.i T.X_InvalidText.t GI_InvalidText (hr.mono (by decide)) T.X_InvalidText.b .nil pass0 (by rfl) T.X_InvalidText.m (pa_cons (PE.nox pe_int) (pa_cons (PE.nox pe_int) pa_nil))))) pss_nil)
      (pss_cons (ps_if (PT.nox (pt_cmpR op_gt (pe_callB call_len (by rfl) T.n_len (by decide +kernel) (pa_cons (pv 0) pa_nil)) pe_int (nomark _))) (pss_one (ps_raise rfl (takes_of rfl rfl rfl rfl) (pmk_oex T.X_InvalidText.o T.X_InvalidText.i T.X_InvalidText.t GI_InvalidText (hr.mono (by decide)) T.X_InvalidText.b .nil pass0 (by rfl) T.X_InvalidText.m (pa_cons (PE.nox pe_int) (pa_cons (PE.nox pe_int) pa_nil))))) pss_nil)
      (pss_one (ps_nox (ps_ret (pe_call G_number_in (hr.mono (by decide)) (by rfl) T.D_number_in.m T.D_number_in.k T.D_number_in.b .nil pass0 (pa_cons (pe_ix ix_seq (pv 0) pe_int (fun _ _ => rfl)) pa_nil)))))))),
    (rs_seq (rs_if (rt_q (rt_b (rd_op os_ne (rd_sl rd_var ro_no (ro_part rd_int)) (rd_lst (rd_cons rd_str rd_nil))))) (rs_raise2 (by decide) (rd_cons rd_int (rd_cons rd_int rd_nil))) rs_next)
      (rs_seq (rs_if (rt_q (rt_or (rt_b (rd_op os_lt (rd_b cs_len (rd_cons rd_var rd_nil)) rd_int)) (rt_not (rt_b (rd_chain os_le os_le rd_int (rd_call (rd_cons (rd_op os_ix rd_var rd_int) rd_nil)) rd_int))))) (rs_raise2 (by decide) (rd_cons rd_int (rd_cons rd_int rd_nil))) rs_next)
      (rs_seq (rs_if (rt_q (rt_b (rd_op os_gt (rd_b cs_len (rd_cons rd_var rd_nil)) rd_int))) (rs_raise2 (by decide) (rd_cons rd_int (rd_cons rd_int rd_nil))) rs_next)
      (rs_q (rs_ret (rd_call (rd_cons (rd_op os_ix rd_var rd_int) rd_nil)))))))⟩
  exact key
theorem ok_pair_in (T : Tx B mg) : FnOk P w B.K mg base CX0 2 T.D_pair_in.f T.D_pair_in.d P_pair_in (spD B 2 f_pair_in) := by
  have G_number_in := ok_number_in (P := P) (w := w) (base := base) T
  have key : FnOk P w B.K mg base CX0 2 T.D_pair_in.f T.D_pair_in.d P_pair_in (spD B P_pair_in.length (runD P_pair_in.length N_pair_in.length b_pair_in)) := fn_ok (B := B) (W := []) (k := 1) (body := b_pair_in) T.D_pair_in.F sc_pair_in (by rfl) fun cdv A outer s H E hr => ⟨_, (pss_cons (ps_set (i := 2) sc_pair_in.nd rfl (by first | exact Or.inl rfl | exact Or.inr rfl) (pe_split (pv 0) pe_str))
      (pss_cons (ps_if (PW.pt (pw_or (pt_cmpR (op_neD hr.units) (pe_callB call_len (by rfl) T.n_len (by decide +kernel) (pa_cons (pv 2) pa_nil)) pe_int (nomark _)) (pw_or (pt_cmpR op_le (pe_call G_number_in (hr.mono (by decide)) (by rfl) T.D_number_in.m T.D_number_in.k T.D_number_in.b .nil pass0 (pa_cons (pe_ix ix_seq (pv 2) pe_int (fun _ _ => rfl)) pa_nil)) (pv 1) (nomark _)) (pw_or1 (pt_cmpR op_lt (pe_call G_number_in (hr.mono (by decide)) (by rfl) T.D_number_in.m T.D_number_in.k T.D_number_in.b .nil pass0 (pa_cons (pe_ix ix_seq (pv 2) pe_int (fun _ _ => rfl)) pa_nil)) pe_int (nomark _)))))) (pss_one (ps_ret pe_non)) pss_nil)
      (pss_one (ps_ret (pe_tup (pa_cons (pe_call G_number_in (hr.mono (by decide)) (by rfl) T.D_number_in.m T.D_number_in.k T.D_number_in.b .nil pass0 (pa_cons (pe_ix ix_seq (pv 2) pe_int (fun _ _ => rfl)) pa_nil)) (pa_cons (pe_call G_number_in (hr.mono (by decide)) (by rfl) T.D_number_in.m T.D_number_in.k T.D_number_in.b .nil pass0 (pa_cons (pe_ix ix_seq (pv 2) pe_int (fun _ _ => rfl)) pa_nil)) pa_nil))))))),
    (rs_seq (rs_set (rd_m1 ms_split rd_var rd_str))
      (rs_seq (rs_if (rt_or (rt_b (rd_op os_ne (rd_b cs_len (rd_cons rd_var rd_nil)) rd_int)) (rt_or (rt_b (rd_op os_le (rd_call (rd_cons (rd_op os_ix rd_var rd_int) rd_nil)) rd_var)) (rt_b (rd_op os_lt (rd_call (rd_cons (rd_op os_ix rd_var rd_int) rd_nil)) rd_int)))) (rs_ret rd_non) rs_next)
      (rs_ret (rd_tup (rd_cons (rd_call (rd_cons (rd_op os_ix rd_var rd_int) rd_nil)) (rd_cons (rd_call (rd_cons (rd_op os_ix rd_var rd_int) rd_nil)) rd_nil))))))⟩
  exact key
theorem ok_buyer_in (T : Tx B mg) : FnOk P w B.K mg base (L2.CX P w) 3 T.D_buyer_in.f T.D_buyer_in.d P_buyer_in (spX B 2 f_buyer_in) := by
  have G_pair_in := ok_pair_in (P := P) (w := w) (base := base) T
  have GI_InvalidText := okI_InvalidText (P := P) (w := w) (base := base) T
  have key : FnOk P w B.K mg base (L2.CX P w) 3 T.D_buyer_in.f T.D_buyer_in.d P_buyer_in (spX B P_buyer_in.length (runD P_buyer_in.length N_buyer_in.length b_buyer_in)) := fnx_ok (B := B) (W := [2]) (k := 2) (body := b_buyer_in) T.D_buyer_in.F sc_buyer_in (by rfl) fun cdv A outer s H E hr => ⟨_, (pss_cons (ps_nox (ps_set (i := 2) sc_buyer_in.nd rfl (by first | exact Or.inl rfl | exact Or.inr rfl) (pe_lst pa_nil)))
      (pss_cons (ps_for (passes_of rfl) rfl (pi_range2 (by rfl) T.n_range (pa_cons pe_int (pa_cons (pe_callB call_len (by rfl) T.n_len (by decide +kernel) (pa_cons (pv 0) pa_nil)) pa_nil))) (pg_name (i := 3) sc_buyer_in.nd rfl (by first | exact Or.inl rfl | exact Or.inr rfl)) (pss_cons (ps_nox (ps_set (i := 4) sc_buyer_in.nd rfl (by first | exact Or.inl rfl | exact Or.inr rfl) (pe_call G_pair_in (hr.mono (by decide)) (by rfl) T.D_pair_in.m T.D_pair_in.k T.D_pair_in.b .nil pass0 (pa_cons (pe_ix ix_seq (pv 0) (pv 3) (fun _ _ => rfl)) (pa_cons (pe_ifExp (pt_cmpR (op_neD hr.units) (pv 2) (pe_lst pa_nil) (nomark _)) (pe_ix ix_seq (pe_ix ix_seq (pv 2) (pe_un un_neg pe_int) (fun _ _ => rfl)) pe_int (fun _ _ => rfl)) (pe_un un_neg pe_int)) pa_nil)))))
      (pss_cons (ps_if (PT.nox (PW.pt (pw_or (pt_cmpR op_isN (pv 4) pe_non (nomark _)) (pw_or1 (pt_cmpR (op_eqD hr.units) (pe_callB call_len (by rfl) T.n_len (by decide +kernel) (pa_cons (pv 2) pa_nil)) (pe_glob (v := .int 5) (by rfl) T.m_MOST_WORTHS ⟨_, rfl⟩) (nomark _)))))) (pss_one (ps_raise rfl (takes_of rfl rfl rfl rfl) (pmk_oex T.X_InvalidText.o T.X_InvalidText.i T.X_InvalidText.t GI_InvalidText (hr.mono (by decide)) T.X_InvalidText.b .nil pass0 (by rfl) T.X_InvalidText.m (pa_cons (PE.nox (pv 1)) (pa_cons (PE.nox (pe_op op_addU (pv 3) pe_int)) pa_nil))))) pss_nil)
      (pss_one (ps_nox (ps_expr (pe_bm PySem.F.plainAttrs_list PySem.F.slot_list_append PySem.F.type_list_append mt_append (pv 2) (pa_cons (pv 4) pa_nil))))))))
      (pss_cons (ps_if (PT.nox (pt_cmpR (op_eqD hr.units) (pv 2) (pe_lst pa_nil) (nomark _))) (pss_one (ps_raise rfl (takes_of rfl rfl rfl rfl) (pmk_oex T.X_InvalidText.o T.X_InvalidText.i T.X_InvalidText.t GI_InvalidText (hr.mono (by decide)) T.X_InvalidText.b .nil pass0 (by rfl) T.X_InvalidText.m (pa_cons (PE.nox (pv 1)) (pa_cons (PE.nox pe_int) pa_nil))))) pss_nil)
      (pss_one (ps_nox (ps_ret (pe_callTy call_tuple_of (by rfl) T.n_tuple (by decide +kernel) (pa_cons (pv 2) pa_nil)))))))),
    (rs_seq (rs_q (rs_own (rl_lst rd_nil)))
      (rs_seq (rs_for (ri_q (ri_r2 (rd_cons rd_int (rd_cons (rd_b cs_len (rd_cons rd_var rd_nil)) rd_nil)))) rg_name (rs_seq (rs_q (rs_set (rd_call (rd_cons (rd_op os_ix rd_var rd_var) (rd_cons (rd_if (rt_peek (i := 2) (W' := []) (by rfl) (rt_b (rd_op os_ne rd_var (rd_lst rd_nil)))) (rd_peek (i := 2) (W' := []) (by rfl) (rd_op os_ix (rd_op os_ix rd_var (rd_un us_neg rd_int)) rd_int)) (rd_un us_neg rd_int)) rd_nil)))))
      (rs_seq (rs_if (rt_q (rt_or (rt_b (rd_op os_isN rd_var rd_non)) (rt_peek (i := 2) (W' := []) (by rfl) (rt_b (rd_op os_eq (rd_b cs_len (rd_cons rd_var rd_nil)) rd_int))))) (rs_raise2 (by decide) (rd_cons rd_var (rd_cons (rd_op os_add rd_var rd_int) rd_nil))) rs_next)
      (rs_q (rs_app rd_var)))))
      (rs_seq (rs_if (rt_q (rt_peek (i := 2) (W' := []) (by rfl) (rt_b (rd_op os_eq rd_var (rd_lst rd_nil))))) (rs_raise2 (by decide) (rd_cons rd_var (rd_cons rd_int rd_nil))) rs_next)
      (rs_q (rs_ret (rd_b cs_tuple (rd_cons rd_var rd_nil)))))))⟩
  exact key
theorem ok_is_from (T : Tx B mg) : FnOk P w B.K mg base CX0 1 T.D_is_from.f T.D_is_from.d P_is_from (spD B 3 f_is_from) := by
  have key : FnOk P w B.K mg base CX0 1 T.D_is_from.f T.D_is_from.d P_is_from (spD B P_is_from.length (runD P_is_from.length N_is_from.length b_is_from)) := fn_ok (B := B) (W := []) (k := 0) (body := b_is_from) T.D_is_from.F sc_is_from (by rfl) fun cdv A outer s H E hr => ⟨_, (pss_one (ps_ret (pe_and (pe_callB call_isi (by rfl) T.n_isinstance (by decide +kernel) (pa_cons (pv 0) (pa_cons (pe_bltn (v := .ty "int") (by rfl) T.n_int (by decide +kernel) rfl) pa_nil))) (pe_and (pe_not (pe_callB call_isi (by rfl) T.n_isinstance (by decide +kernel) (pa_cons (pv 0) (pa_cons (pe_bltn (v := .ty "bool") (by rfl) T.n_bool (by decide +kernel) rfl) pa_nil)))) (pe_one (pe_chain op_le op_le (pv 1) (pv 0) (pv 2))))))),
    (rs_ret (rd_andV (rd_isi rd_var) (rd_andV (rd_notV (rd_isi rd_var)) (rd_chain os_le os_le rd_var rd_var rd_var))))⟩
  exact key
theorem ok_is_pair (T : Tx B mg) : FnOk P w B.K mg base CX0 2 T.D_is_pair.f T.D_is_pair.d P_is_pair (spD B 1 f_is_pair) := by
  have G_is_from := ok_is_from (P := P) (w := w) (base := base) T
  have key : FnOk P w B.K mg base CX0 2 T.D_is_pair.f T.D_is_pair.d P_is_pair (spD B P_is_pair.length (runD P_is_pair.length N_is_pair.length b_is_pair)) := fn_ok (B := B) (W := []) (k := 1) (body := b_is_pair) T.D_is_pair.F sc_is_pair (by rfl) fun cdv A outer s H E hr => ⟨_, (pss_one (ps_ret (pe_and (pe_callB call_isi (by rfl) T.n_isinstance (by decide +kernel) (pa_cons (pv 0) (pa_cons (pe_bltn (v := .ty "tuple") (by rfl) T.n_tuple (by decide +kernel) rfl) pa_nil))) (pe_and (pe_cmpR (op_eqD hr.units) (pe_callB call_len (by rfl) T.n_len (by decide +kernel) (pa_cons (pv 0) pa_nil)) pe_int (nomark _)) (pe_and (pe_call G_is_from (hr.mono (by decide)) (by rfl) T.D_is_from.m T.D_is_from.k T.D_is_from.b .nil pass0 (pa_cons (pe_ix ix_seq (pv 0) pe_int (fun _ _ => rfl)) (pa_cons pe_int (pa_cons (pe_glob (v := .int 1000000000) (by rfl) T.m_MOST ⟨_, rfl⟩) pa_nil)))) (pe_one (pe_call G_is_from (hr.mono (by decide)) (by rfl) T.D_is_from.m T.D_is_from.k T.D_is_from.b .nil pass0 (pa_cons (pe_ix ix_seq (pv 0) pe_int (fun _ _ => rfl)) (pa_cons pe_int (pa_cons (pe_glob (v := .int 1000000000) (by rfl) T.m_MOST ⟨_, rfl⟩) pa_nil)))))))))),
    (rs_ret (rd_andV (rd_isi rd_var) (rd_andV (rd_op os_eq (rd_b cs_len (rd_cons rd_var rd_nil)) rd_int) (rd_andV (rd_call (rd_cons (rd_op os_ix rd_var rd_int) (rd_cons rd_int (rd_cons rd_int rd_nil)))) (rd_call (rd_cons (rd_op os_ix rd_var rd_int) (rd_cons rd_int (rd_cons rd_int rd_nil))))))))⟩
  exact key
theorem ok_is_buyer (T : Tx B mg) : FnOk P w B.K mg base CX0 3 T.D_is_buyer.f T.D_is_buyer.d P_is_buyer (spD B 1 f_is_buyer) := by
  have G_is_pair := ok_is_pair (P := P) (w := w) (base := base) T
  have key : FnOk P w B.K mg base CX0 3 T.D_is_buyer.f T.D_is_buyer.d P_is_buyer (spD B P_is_buyer.length (runD P_is_buyer.length N_is_buyer.length b_is_buyer)) := fn_ok (B := B) (W := []) (k := 2) (body := b_is_buyer) T.D_is_buyer.F sc_is_buyer (by rfl) fun cdv A outer s H E hr => ⟨_, (pss_cons (ps_if (PW.pt (pw_or (pt_not (pt_val (pe_callB call_isi (by rfl) T.n_isinstance (by decide +kernel) (pa_cons (pv 0) (pa_cons (pe_bltn (v := .ty "tuple") (by rfl) T.n_tuple (by decide +kernel) rfl) pa_nil))))) (pw_or (pt_not (pt_chain op_le op_le pe_int (pe_callB call_len (by rfl) T.n_len (by decide +kernel) (pa_cons (pv 0) pa_nil)) (pe_glob (v := .int 5) (by rfl) T.m_MOST_WORTHS ⟨_, rfl⟩))) (pw_or1 (pt_not (pt_val (pe_callB (cr_all rfl) (by rfl) T.n_all (by decide +kernel) (pa_cons (pe_lc (own := [("pair", 1)]) (by rfl) sc_is_buyer.nd (pi_seq (pv 0)) (blkOk_by (own := [("pair", 1)]) (N := N_is_buyer) (sc := defScope s_is_buyer) (by decide +kernel)) (fun _ _ _ _ _ => (pg_name (i := 1) sc_is_buyer.nd rfl (by first | exact Or.inl rfl | exact Or.inr rfl))) (fun _ _ _ _ _ => pts_nil) (fun _ _ _ _ _ => (pe_call G_is_pair (hr.mono (by decide)) (by rfl) T.D_is_pair.m T.D_is_pair.k T.D_is_pair.b .nil pass0 (pa_cons (pv 1) pa_nil)))) pa_nil)))))))) (pss_one (ps_ret pe_bl)) pss_nil)
      (pss_one (ps_ret (pe_callB (cr_all rfl) (by rfl) T.n_all (by decide +kernel) (pa_cons (pe_lc (own := [("at", 2)]) (by rfl) sc_is_buyer.nd (pi_range1 (by rfl) T.n_range (pa_cons (pe_op op_sub (pe_callB call_len (by rfl) T.n_len (by decide +kernel) (pa_cons (pv 0) pa_nil)) pe_int) pa_nil)) (blkOk_by (own := [("at", 2)]) (N := N_is_buyer) (sc := defScope s_is_buyer) (by decide +kernel)) (fun _ _ _ _ _ => (pg_name (i := 2) sc_is_buyer.nd rfl (by first | exact Or.inl rfl | exact Or.inr rfl))) (fun _ _ _ _ _ => pts_nil) (fun _ _ _ _ _ => (pe_cmpR op_lt (pe_ix ix_seq (pe_ix ix_seq (pv 0) (pv 2) (fun _ _ => rfl)) pe_int (fun _ _ => rfl)) (pe_ix ix_seq (pe_ix ix_seq (pv 0) (pe_op op_addU (pv 2) pe_int) (fun _ _ => rfl)) pe_int (fun _ _ => rfl)) (nomark _)))) pa_nil))))),
    (rs_seq (rs_if (rt_or (rt_not (rt_b (rd_isi rd_var))) (rt_or (rt_not (rt_b (rd_chain os_le os_le rd_int (rd_b cs_len (rd_cons rd_var rd_nil)) rd_int))) (rt_not (rt_b (rd_b cs_all (rd_cons (rd_comp (ri_seq rd_var) rg_name rt_yes (rd_call (rd_cons rd_var rd_nil))) rd_nil)))))) (rs_ret rd_bl) rs_next)
      (rs_ret (rd_b cs_all (rd_cons (rd_comp (ri_r1 (rd_cons (rd_op os_dif (rd_b cs_len (rd_cons rd_var rd_nil)) rd_int) rd_nil)) rg_name rt_yes (rd_op os_lt (rd_op os_ix (rd_op os_ix rd_var rd_var) rd_int) (rd_op os_ix (rd_op os_ix rd_var (rd_op os_add rd_var rd_int)) rd_int))) rd_nil))))⟩
  exact key
theorem ok_Sale (T : Tx B mg) : FnOk P w B.K mg base CX0 4 T.f_Sale T.d_Sale P_Sale (spInit B (saleX 5 b_Sale)) := by
  have G_is_buyer := ok_is_buyer (P := P) (w := w) (base := base) T
  have G_is_from := ok_is_from (P := P) (w := w) (base := base) T
  exact init_ok (B := B) (W := []) (k := 3) T.F_Sale sc_Sale (by decide) rfl T.sale rfl (fun cdv A outer s H E hr => ⟨_, _, _, pss_cons (ps_if (PW.pt (pw_or (pt_not (pt_val (pe_callB call_isi (by rfl) T.n_isinstance (by decide +kernel) (pa_cons (pv 1) (pa_cons (pe_bltn (v := .ty "tuple") (by rfl) T.n_tuple (by decide +kernel) rfl) pa_nil))))) (pw_or1 (pt_not (pt_chain op_le op_le pe_int (pe_callB call_len (by rfl) T.n_len (by decide +kernel) (pa_cons (pv 1) pa_nil)) (pe_glob (v := .int 4) (by rfl) T.m_MOST_BUYERS ⟨_, rfl⟩)))))) pss_never pss_nil) (pss_cons (ps_for PassesOwn.never rfl (pi_enumU (by rfl) T.n_enumerate (pv 1)) (pg_tl rfl (pgs_cons (pg_name (i := 3) sc_Sale.nd rfl (by first | exact Or.inl rfl | exact Or.inr rfl)) (pgs_cons (pg_name (i := 4) sc_Sale.nd rfl (by first | exact Or.inl rfl | exact Or.inr rfl)) pgs_nil))) (pss_one (ps_if (pt_not (pt_val (pe_call G_is_buyer (hr.mono (by decide)) (by rfl) T.D_is_buyer.m T.D_is_buyer.k T.D_is_buyer.b .nil pass0 (pa_cons (pv 4) pa_nil)))) pss_never pss_nil))) (pss_cons (ps_if (pt_not (pt_val (pe_call G_is_from (hr.mono (by decide)) (by rfl) T.D_is_from.m T.D_is_from.k T.D_is_from.b .nil pass0 (pa_cons (pv 2) (pa_cons pe_int (pa_cons (pe_glob (v := .int 3) (by rfl) T.m_MOST_THINGS ⟨_, rfl⟩) pa_nil)))))) pss_never pss_nil) (pss_cons (ps_fld (pv 0) (pv 1) rfl) (pss_one (ps_fld (pv 0) (pv 2) rfl))))),
    (rs_if (rt_or (rt_not (rt_b (rd_isi rd_var))) (rt_not (rt_b (rd_chain os_le os_le rd_int (rd_b cs_len (rd_cons rd_var rd_nil)) rd_int)))) rs_stuck rs_next),
    (rs_for (ri_enum rd_var) (rg_tup (rg_cons rg_name (rg_cons rg_name rg_nil))) (rs_if (rt_not (rt_b (rd_call (rd_cons rd_var rd_nil)))) rs_stuck rs_next)),
    (rs_if (rt_not (rt_b (rd_call (rd_cons rd_var (rd_cons rd_int (rd_cons rd_int rd_nil)))))) rs_stuck rs_next)⟩)
theorem ok_read (T : Tx B mg) : FnOk P w B.K mg base (L2.CX P w) 6 T.D_read.f T.D_read.d P_read (spX B 1 f_read) := by
  have G_things_in := ok_things_in (P := P) (w := w) (base := base) T
  have G_buyer_in := ok_buyer_in (P := P) (w := w) (base := base) T
  have G_Sale := ok_Sale (P := P) (w := w) (base := base) T
  have GI_InvalidText := okI_InvalidText (P := P) (w := w) (base := base) T
  have key : FnOk P w B.K mg base (L2.CX P w) 6 T.D_read.f T.D_read.d P_read (spX B P_read.length (runD P_read.length N_read.length b_read)) := fnx_ok (B := B) (W := [5]) (k := 5) (body := b_read) T.D_read.F sc_read (by rfl) fun cdv A outer s H E hr => ⟨_, (pss_cons (ps_nox (ps_setLc (i := 1) (own := [("line", 3)]) (by rfl) sc_read.nd rfl rfl (sw_true rfl rfl rfl (by decide +kernel)) (pi_seq (pe_split (pv 0) pe_str)) (blkOk_by (own := [("line", 3)]) (N := N_read) (sc := defScope s_read) (by decide +kernel)) (fun _ _ _ _ _ => (pg_name (i := 3) sc_read.nd rfl (by first | exact Or.inl rfl | exact Or.inr rfl))) (fun _ _ _ _ _ => pts_nil) (fun _ _ _ _ _ => (pe_lc (own := [("word", 2)]) (by rfl) sc_read.nd (pi_seq (pe_split (pv 3) pe_str)) (blkOk_by (own := [("word", 2)]) (N := N_read) (by rfl)) (fun _ _ _ _ _ => (pg_name (i := 2) sc_read.nd rfl (by first | exact Or.inl rfl | exact Or.inr rfl))) (fun _ _ _ _ _ => (pts_one (pt_cmpR (op_neD hr.units) (pv 2) pe_str (nomark _)))) (fun _ _ _ _ _ => (pv 2))))))
      (pss_cons (ps_par (i := 4) (j := 5) (by rfl) sc_read.nd rfl rfl (by decide) rfl rfl (pa_cons (pe_callS G_things_in (hr.mono (by decide)) (by rfl) T.D_things_in.m T.D_things_in.k T.D_things_in.b (fun σ => passAt (takes_of rfl rfl rfl rfl) σ) (pa_cons (PE.nox (pe_ix ix_seq (pv 1) pe_int (fun _ _ => rfl))) pa_nil)) (pa_cons (PE.nox (pe_lst pa_nil)) pa_nil)) (by rfl))
      (pss_cons (ps_for (passes_of rfl) rfl (pi_range2 (by rfl) T.n_range (pa_cons pe_int (pa_cons (pe_callB call_len (by rfl) T.n_len (by decide +kernel) (pa_cons (pv 1) pa_nil)) pa_nil))) (pg_name (i := 6) sc_read.nd rfl (by first | exact Or.inl rfl | exact Or.inr rfl)) (pss_cons (ps_if (PT.nox (PW.pt (pw_or (pt_cmpR (op_neD hr.units) (pe_slice sl_U (pe_ix ix_seq (pv 1) (pv 6) (fun _ _ => rfl)) po_none (po_some pe_int)) (pe_lst (pa_cons pe_str pa_nil)) (nomark _)) (pw_or1 (pt_cmpR (op_eqD hr.units) (pe_callB call_len (by rfl) T.n_len (by decide +kernel) (pa_cons (pv 5) pa_nil)) (pe_glob (v := .int 4) (by rfl) T.m_MOST_BUYERS ⟨_, rfl⟩) (nomark _)))))) (pss_one (ps_raise rfl (takes_of rfl rfl rfl rfl) (pmk_oex T.X_InvalidText.o T.X_InvalidText.i T.X_InvalidText.t GI_InvalidText (hr.mono (by decide)) T.X_InvalidText.b .nil pass0 (by rfl) T.X_InvalidText.m (pa_cons (PE.nox (pe_op op_addU (pv 6) pe_int)) (pa_cons (PE.nox pe_int) pa_nil))))) pss_nil)
      (pss_one (ps_expr (pe_bm PySem.F.plainAttrs_list PySem.F.slot_list_append PySem.F.type_list_append mt_append (pv 5) (pa_cons (pe_callS G_buyer_in (hr.mono (by decide)) (by rfl) T.D_buyer_in.m T.D_buyer_in.k T.D_buyer_in.b (fun σ => passAt (takes_of rfl rfl rfl rfl) σ) (pa_cons (PE.nox (pe_ix ix_seq (pv 1) (pv 6) (fun _ _ => rfl))) (pa_cons (PE.nox (pe_op op_addU (pv 6) pe_int)) pa_nil))) pa_nil))))))
      (pss_cons (ps_if (PT.nox (pt_cmpR (op_eqD hr.units) (pv 5) (pe_lst pa_nil) (nomark _))) (pss_one (ps_raise rfl (takes_of rfl rfl rfl rfl) (pmk_oex T.X_InvalidText.o T.X_InvalidText.i T.X_InvalidText.t GI_InvalidText (hr.mono (by decide)) T.X_InvalidText.b .nil pass0 (by rfl) T.X_InvalidText.m (pa_cons (PE.nox (pe_op op_addU (pe_callB call_len (by rfl) T.n_len (by decide +kernel) (pa_cons (pv 1) pa_nil)) pe_int)) (pa_cons (PE.nox pe_int) pa_nil))))) pss_nil)
      (pss_one (ps_nox (ps_ret (pe_make T.mk_Sale G_Sale (hr.mono (by decide)) (by rfl) T.m_Sale T.b_Sale .nil pass0 (pa_cons (pe_callTy call_tuple_of (by rfl) T.n_tuple (by decide +kernel) (pa_cons (pv 5) pa_nil)) (pa_cons (pv 4) pa_nil)))))))))),
    (rs_seq (rs_q (rs_set (rd_comp (ri_seq (rd_m1 ms_split rd_var rd_str)) rg_name rt_yes (rd_comp (ri_seq (rd_m1 ms_split rd_var rd_str)) rg_name (rt_b (rd_op os_ne rd_var rd_str)) rd_var))))
      (rs_seq (rs_par (rps_cons (rp_v (rd_callS (rd_cons (rd_q (rd_op os_ix rd_var rd_int)) rd_nil))) (rps_cons (rp_n (rl_q (rl_lst rd_nil))) rps_nil)))
      (rs_seq (rs_for (ri_q (ri_r2 (rd_cons rd_int (rd_cons (rd_b cs_len (rd_cons rd_var rd_nil)) rd_nil)))) rg_name (rs_seq (rs_if (rt_q (rt_or (rt_b (rd_op os_ne (rd_sl (rd_op os_ix rd_var rd_var) ro_no (ro_part rd_int)) (rd_lst (rd_cons rd_str rd_nil)))) (rt_peek (i := 5) (W' := []) (by rfl) (rt_b (rd_op os_eq (rd_b cs_len (rd_cons rd_var rd_nil)) rd_int))))) (rs_raise2 (by decide) (rd_cons (rd_op os_add rd_var rd_int) (rd_cons rd_int rd_nil))) rs_next)
      (rs_app (rd_callS (rd_cons (rd_q (rd_op os_ix rd_var rd_var)) (rd_cons (rd_q (rd_op os_add rd_var rd_int)) rd_nil))))))
      (rs_seq (rs_if (rt_q (rt_peek (i := 5) (W' := []) (by rfl) (rt_b (rd_op os_eq rd_var (rd_lst rd_nil))))) (rs_raise2 (by decide) (rd_cons (rd_op os_add (rd_b cs_len (rd_cons rd_var rd_nil)) rd_int) (rd_cons rd_int rd_nil))) rs_next)
      (rs_q (rs_ret (rd_make hx_Sale (rd_cons (rd_b cs_tuple (rd_cons rd_var rd_nil)) (rd_cons rd_var rd_nil)))))))))⟩
  exact key
theorem ok__law_refused (T : Tx B mg) : FnOk P w B.K mg base CX0 7 T.D__law_refused.f T.D__law_refused.d P__law_refused (spD B 1 f__law_refused) := by
  have G_read := ok_read (P := P) (w := w) (base := base) T
  have key : FnOk P w B.K mg base CX0 7 T.D__law_refused.f T.D__law_refused.d P__law_refused (spD B P__law_refused.length (runD P__law_refused.length N__law_refused.length b__law_refused)) := fn_ok (B := B) (W := []) (k := 6) (body := b__law_refused) T.D__law_refused.F sc__law_refused (by rfl) fun cdv A outer s H E hr => ⟨_, (pss_cons (ps_set (i := 1) sc__law_refused.nd rfl (by first | exact Or.inl rfl | exact Or.inr rfl) pe_non)
      (pss_cons (ps_try_mix rfl rfl takes0 (fun Wx pn xe tk _ => (pss_one (ps_expr (pe_callS G_read (hr.mono (by decide)) (by rfl) T.D_read.m T.D_read.k T.D_read.b (fun σ => passAt tk σ) (pa_cons (PE.nox (pv 0)) pa_nil))))) (.named (i := 2) sc__law_refused.nd rfl rfl ⟨by rfl, by decide, .inl T.c_InvalidText⟩ (fun a oe cls dd pn hz hf => pss_one (ps_set (i := 1) sc__law_refused.nd rfl (by first | exact Or.inl rfl | exact Or.inr rfl) (pe_lst (pa_cons (pe_xf T.xf_InvalidText T.no_InvalidText hz hf (pv 2)) (pa_cons (pe_xf T.xf_InvalidText T.n2_InvalidText hz hf (pv 2)) pa_nil))))) .nil))
      (pss_one (ps_ret (pv 1))))),
    (rs_seq (rs_set rd_non)
      (rs_seq (rs_tryC T.exm (fun E => (rd_cons (rd_q rd_var) rd_nil)) (.cons (rh_as (i := 2) (j := 1) fun _ _ _ => (rx_lst (rx_cons rx_fld (rx_cons rx_fld rx_nil)))) .nil))
      (rs_ret rd_var)))⟩
  exact key
theorem ok__law_number (T : Tx B mg) : FnOk P w B.K mg base CX0 1 T.D__law_number.f T.D__law_number.d P__law_number (spD B 2 f__law_number) := by
  have key : FnOk P w B.K mg base CX0 1 T.D__law_number.f T.D__law_number.d P__law_number (spD B P__law_number.length (runD P__law_number.length N__law_number.length b__law_number)) := fn_ok (B := B) (W := []) (k := 0) (body := b__law_number) T.D__law_number.F sc__law_number (by rfl) fun cdv A outer s H E hr => ⟨_, (pss_cons (ps_if (PW.pt (pw_or (pt_cmpR (op_eqD hr.units) (pv 0) pe_str (nomark _)) (pw_or (pt_cmpR op_gt (pe_callB call_len (by rfl) T.n_len (by decide +kernel) (pa_cons (pv 0) pa_nil)) pe_int (nomark _)) (pw_or1 (pt_not (pt_val (pe_callB (cr_all rfl) (by rfl) T.n_all (by decide +kernel) (pa_cons (pe_lc (own := [("_law_sign", 2)]) (by rfl) sc__law_number.nd (pi_str (pv 0)) (blkOk_by (own := [("_law_sign", 2)]) (N := N__law_number) (sc := defScope s__law_number) (by decide +kernel)) (fun _ _ _ _ _ => (pg_name (i := 2) sc__law_number.nd rfl (by first | exact Or.inl rfl | exact Or.inr rfl))) (fun _ _ _ _ _ => pts_nil) (fun _ _ _ _ _ => (pe_cmpR op_inU (pv 2) pe_str (by rfl)))) pa_nil)))))))) (pss_one (ps_ret pe_bl)) pss_nil)
      (pss_one (ps_ret (pe_and (pe_or (pe_cmpR (op_eqD hr.units) (pv 0) pe_str (nomark _)) (pe_one (pe_cmpR (op_neD hr.units) (pe_ix ix_seq (pv 0) pe_int (fun _ _ => rfl)) pe_str (nomark _)))) (pe_one (pe_chain op_le op_le (pv 1) (pe_callTy call_intU (by rfl) T.n_int (by decide +kernel) (pa_cons (pv 0) pa_nil)) (pe_op op_pow pe_int pe_int))))))),
    (rs_seq (rs_if (rt_or (rt_b (rd_op os_eq rd_var rd_str)) (rt_or (rt_b (rd_op os_gt (rd_b cs_len (rd_cons rd_var rd_nil)) rd_int)) (rt_not (rt_b (rd_b cs_all (rd_cons (rd_comp (ri_str rd_var) rg_name rt_yes (rd_op os_inU rd_var rd_str)) rd_nil)))))) (rs_ret rd_bl) rs_next)
      (rs_ret (rd_andV (rd_orV (rd_op os_eq rd_var rd_str) (rd_op os_ne (rd_op os_ix rd_var rd_int) rd_str)) (rd_chain os_le os_le rd_var (rd_b cs_intU (rd_cons rd_var rd_nil)) (rd_op os_pow rd_int rd_int)))))⟩
  exact key
theorem ok__law_pair (T : Tx B mg) : FnOk P w B.K mg base CX0 2 T.D__law_pair.f T.D__law_pair.d P__law_pair (spD B 2 f__law_pair) := by
  have G__law_number := ok__law_number (P := P) (w := w) (base := base) T
  have key : FnOk P w B.K mg base CX0 2 T.D__law_pair.f T.D__law_pair.d P__law_pair (spD B P__law_pair.length (runD P__law_pair.length N__law_pair.length b__law_pair)) := fn_ok (B := B) (W := []) (k := 1) (body := b__law_pair) T.D__law_pair.F sc__law_pair (by rfl) fun cdv A outer s H E hr => ⟨_, (pss_cons (ps_set (i := 2) sc__law_pair.nd rfl (by first | exact Or.inl rfl | exact Or.inr rfl) (pe_split (pv 0) pe_str))
      (pss_cons (ps_if (PW.pt (pw_or (pt_cmpR (op_neD hr.units) (pe_callB call_len (by rfl) T.n_len (by decide +kernel) (pa_cons (pv 2) pa_nil)) pe_int (nomark _)) (pw_or (pt_not (pt_val (pe_call G__law_number (hr.mono (by decide)) (by rfl) T.D__law_number.m T.D__law_number.k T.D__law_number.b .nil pass0 (pa_cons (pe_ix ix_seq (pv 2) pe_int (fun _ _ => rfl)) (pa_cons pe_int pa_nil))))) (pw_or1 (pt_not (pt_val (pe_call G__law_number (hr.mono (by decide)) (by rfl) T.D__law_number.m T.D__law_number.k T.D__law_number.b .nil pass0 (pa_cons (pe_ix ix_seq (pv 2) pe_int (fun _ _ => rfl)) (pa_cons pe_int pa_nil))))))))) (pss_one (ps_ret pe_bl)) pss_nil)
      (pss_one (ps_ret (pe_or (pe_cmpR (op_eqD hr.units) (pv 1) pe_str (nomark _)) (pe_one (pe_cmpR op_gt (pe_callTy call_intU (by rfl) T.n_int (by decide +kernel) (pa_cons (pe_ix ix_seq (pv 2) pe_int (fun _ _ => rfl)) pa_nil)) (pe_callTy call_intU (by rfl) T.n_int (by decide +kernel) (pa_cons (pv 1) pa_nil)) (nomark _)))))))),
    (rs_seq (rs_set (rd_m1 ms_split rd_var rd_str))
      (rs_seq (rs_if (rt_or (rt_b (rd_op os_ne (rd_b cs_len (rd_cons rd_var rd_nil)) rd_int)) (rt_or (rt_not (rt_b (rd_call (rd_cons (rd_op os_ix rd_var rd_int) (rd_cons rd_int rd_nil))))) (rt_not (rt_b (rd_call (rd_cons (rd_op os_ix rd_var rd_int) (rd_cons rd_int rd_nil))))))) (rs_ret rd_bl) rs_next)
      (rs_ret (rd_orV (rd_op os_eq rd_var rd_str) (rd_op os_gt (rd_b cs_intU (rd_cons (rd_op os_ix rd_var rd_int) rd_nil)) (rd_b cs_intU (rd_cons rd_var rd_nil)))))))⟩
  exact key
theorem ok__law_wrong (T : Tx B mg) : FnOk P w B.K mg base CX0 3 T.D__law_wrong.f T.D__law_wrong.d P__law_wrong (spD B 1 f__law_wrong) := by
  have G__law_pair := ok__law_pair (P := P) (w := w) (base := base) T
  have key : FnOk P w B.K mg base CX0 3 T.D__law_wrong.f T.D__law_wrong.d P__law_wrong (spD B P__law_wrong.length (runD P__law_wrong.length N__law_wrong.length b__law_wrong)) := fn_ok (B := B) (W := []) (k := 2) (body := b__law_wrong) T.D__law_wrong.F sc__law_wrong (by rfl) fun cdv A outer s H E hr => ⟨_, (pss_cons (ps_if (pt_cmpR (op_neD hr.units) (pe_slice sl_U (pe_ix ix_seq (pv 0) pe_int (fun _ _ => rfl)) po_none (po_some pe_int)) (pe_lst (pa_cons pe_str pa_nil)) (nomark _)) (pss_one (ps_ret (pe_lst (pa_cons pe_int (pa_cons pe_int pa_nil))))) pss_nil)
      (pss_cons (ps_if (PW.pt (pw_or (pt_cmpR op_lt (pe_callB call_len (by rfl) T.n_len (by decide +kernel) (pa_cons (pe_ix ix_seq (pv 0) pe_int (fun _ _ => rfl)) pa_nil)) pe_int (nomark _)) (pw_or1 (pt_cmpR op_notIn_seq (pe_ix ix_seq (pe_ix ix_seq (pv 0) pe_int (fun _ _ => rfl)) pe_int (fun _ _ => rfl)) (pe_lst (pa_cons pe_str (pa_cons pe_str (pa_cons pe_str pa_nil)))) (by rfl))))) (pss_one (ps_ret (pe_lst (pa_cons pe_int (pa_cons pe_int pa_nil))))) pss_nil)
      (pss_cons (ps_if (pt_cmpR op_gt (pe_callB call_len (by rfl) T.n_len (by decide +kernel) (pa_cons (pe_ix ix_seq (pv 0) pe_int (fun _ _ => rfl)) pa_nil)) pe_int (nomark _)) (pss_one (ps_ret (pe_lst (pa_cons pe_int (pa_cons pe_int pa_nil))))) pss_nil)
      (pss_cons (ps_for PassesOwn.never rfl (pi_range2 (by rfl) T.n_range (pa_cons pe_int (pa_cons (pe_callB call_len (by rfl) T.n_len (by decide +kernel) (pa_cons (pv 0) pa_nil)) pa_nil))) (pg_name (i := 1) sc__law_wrong.nd rfl (by first | exact Or.inl rfl | exact Or.inr rfl)) (pss_cons (ps_if (PW.pt (pw_or (pt_cmpR (op_neD hr.units) (pe_slice sl_U (pe_ix ix_seq (pv 0) (pv 1) (fun _ _ => rfl)) po_none (po_some pe_int)) (pe_lst (pa_cons pe_str pa_nil)) (nomark _)) (pw_or1 (pt_cmpR (op_eqD hr.units) (pv 1) pe_int (nomark _))))) (pss_one (ps_ret (pe_lst (pa_cons (pe_op op_addU (pv 1) pe_int) (pa_cons pe_int pa_nil))))) pss_nil)
      (pss_cons (ps_if (pt_cmpR (op_eqD hr.units) (pe_callB call_len (by rfl) T.n_len (by decide +kernel) (pa_cons (pe_ix ix_seq (pv 0) (pv 1) (fun _ _ => rfl)) pa_nil)) pe_int (nomark _)) (pss_one (ps_ret (pe_lst (pa_cons (pe_op op_addU (pv 1) pe_int) (pa_cons pe_int pa_nil))))) pss_nil)
      (pss_cons (ps_set (i := 2) sc__law_wrong.nd rfl (by first | exact Or.inl rfl | exact Or.inr rfl) pe_str)
      (pss_one (ps_for PassesOwn.never rfl (pi_range2 (by rfl) T.n_range (pa_cons pe_int (pa_cons (pe_callB call_len (by rfl) T.n_len (by decide +kernel) (pa_cons (pe_ix ix_seq (pv 0) (pv 1) (fun _ _ => rfl)) pa_nil)) pa_nil))) (pg_name (i := 3) sc__law_wrong.nd rfl (by first | exact Or.inl rfl | exact Or.inr rfl)) (pss_cons (ps_if (PW.pt (pw_or (pt_cmpR (op_eqD hr.units) (pv 3) pe_int (nomark _)) (pw_or1 (pt_not (pt_val (pe_call G__law_pair (hr.mono (by decide)) (by rfl) T.D__law_pair.m T.D__law_pair.k T.D__law_pair.b .nil pass0 (pa_cons (pe_ix ix_seq (pe_ix ix_seq (pv 0) (pv 1) (fun _ _ => rfl)) (pv 3) (fun _ _ => rfl)) (pa_cons (pv 2) pa_nil)))))))) (pss_one (ps_ret (pe_lst (pa_cons (pe_op op_addU (pv 1) pe_int) (pa_cons (pe_op op_addU (pv 3) pe_int) pa_nil))))) pss_nil)
      (pss_one (ps_set (i := 2) sc__law_wrong.nd rfl (by first | exact Or.inl rfl | exact Or.inr rfl) (pe_ix ix_seq (pe_split (pe_ix ix_seq (pe_ix ix_seq (pv 0) (pv 1) (fun _ _ => rfl)) (pv 3) (fun _ _ => rfl)) pe_str) pe_int (fun _ _ => rfl)))))))))))
      (pss_one (ps_ret (pe_ifExp (pt_cmpR (op_eqD hr.units) (pe_callB call_len (by rfl) T.n_len (by decide +kernel) (pa_cons (pv 0) pa_nil)) pe_int (nomark _)) (pe_lst (pa_cons pe_int (pa_cons pe_int pa_nil))) pe_non))))))),
    (rs_seq (rs_if (rt_b (rd_op os_ne (rd_sl (rd_op os_ix rd_var rd_int) ro_no (ro_part rd_int)) (rd_lst (rd_cons rd_str rd_nil)))) (rs_ret (rd_lst (rd_cons rd_int (rd_cons rd_int rd_nil)))) rs_next)
      (rs_seq (rs_if (rt_or (rt_b (rd_op os_lt (rd_b cs_len (rd_cons (rd_op os_ix rd_var rd_int) rd_nil)) rd_int)) (rt_b (rd_op os_notIn (rd_op os_ix (rd_op os_ix rd_var rd_int) rd_int) (rd_lst (rd_cons rd_str (rd_cons rd_str (rd_cons rd_str rd_nil))))))) (rs_ret (rd_lst (rd_cons rd_int (rd_cons rd_int rd_nil)))) rs_next)
      (rs_seq (rs_if (rt_b (rd_op os_gt (rd_b cs_len (rd_cons (rd_op os_ix rd_var rd_int) rd_nil)) rd_int)) (rs_ret (rd_lst (rd_cons rd_int (rd_cons rd_int rd_nil)))) rs_next)
      (rs_seq (rs_for (ri_r2 (rd_cons rd_int (rd_cons (rd_b cs_len (rd_cons rd_var rd_nil)) rd_nil))) rg_name (rs_seq (rs_if (rt_or (rt_b (rd_op os_ne (rd_sl (rd_op os_ix rd_var rd_var) ro_no (ro_part rd_int)) (rd_lst (rd_cons rd_str rd_nil)))) (rt_b (rd_op os_eq rd_var rd_int))) (rs_ret (rd_lst (rd_cons (rd_op os_add rd_var rd_int) (rd_cons rd_int rd_nil)))) rs_next)
      (rs_seq (rs_if (rt_b (rd_op os_eq (rd_b cs_len (rd_cons (rd_op os_ix rd_var rd_var) rd_nil)) rd_int)) (rs_ret (rd_lst (rd_cons (rd_op os_add rd_var rd_int) (rd_cons rd_int rd_nil)))) rs_next)
      (rs_seq (rs_set rd_str)
      (rs_for (ri_r2 (rd_cons rd_int (rd_cons (rd_b cs_len (rd_cons (rd_op os_ix rd_var rd_var) rd_nil)) rd_nil))) rg_name (rs_seq (rs_if (rt_or (rt_b (rd_op os_eq rd_var rd_int)) (rt_not (rt_b (rd_call (rd_cons (rd_op os_ix (rd_op os_ix rd_var rd_var) rd_var) (rd_cons rd_var rd_nil)))))) (rs_ret (rd_lst (rd_cons (rd_op os_add rd_var rd_int) (rd_cons (rd_op os_add rd_var rd_int) rd_nil)))) rs_next)
      (rs_set (rd_op os_ix (rd_m1 ms_split (rd_op os_ix (rd_op os_ix rd_var rd_var) rd_var) rd_str) rd_int))))))))
      (rs_ret (rd_if (rt_b (rd_op os_eq (rd_b cs_len (rd_cons rd_var rd_nil)) rd_int)) (rd_lst (rd_cons rd_int (rd_cons rd_int rd_nil))) rd_non))))))⟩
  exact key
theorem ok_law (T : Tx B mg) (hl : ∀ ns : List Int, ns.length ≤ 63 → ∃ s', b_law (lawEn N_law.length) ⟨ns, 0, 618, 0⟩ = .ok (.ret (.bl true)) s') : FnOk P w B.K mg base CX0 8 T.D_law.f T.D_law.d P_law (spLaw B.K) := by
  have G__law_parts := ok__law_parts (P := P) (w := w) (base := base) T
  have G__law_text := ok__law_text (P := P) (w := w) (base := base) T
  have G__law_refused := ok__law_refused (P := P) (w := w) (base := base) T
  have G__law_taken := ok__law_taken (P := P) (w := w) (base := base) T
  have G__law_wrong := ok__law_wrong (P := P) (w := w) (base := base) T
  exact law_ok (B := B) (W := []) (k := 7) (seed := 618) (body := b_law) T.D_law.F sc_law (by decide) rfl (by decide) (fun cdv A outer s H E hr => ⟨_, pss_cons (ps_set (i := 1) sc_law.nd rfl (by first | exact Or.inl rfl | exact Or.inr rfl) (pe_lst (pa_cons (pv 0) (pa_cons pe_int (pa_cons pe_int (pa_cons pe_int pa_nil))))))
      (pss_cons (ps_set (i := 2) sc_law.nd rfl (by first | exact Or.inl rfl | exact Or.inr rfl) (pe_lst (pa_cons pe_str (pa_cons pe_str (pa_cons pe_str (pa_cons pe_str (pa_cons pe_str (pa_cons pe_str (pa_cons pe_str (pa_cons pe_str (pa_cons pe_str (pa_cons pe_str (pa_cons pe_str (pa_cons pe_str (pa_cons pe_str (pa_cons pe_str pa_nil))))))))))))))))
      (pss_cons (ps_set (i := 2) sc_law.nd rfl (by first | exact Or.inl rfl | exact Or.inr rfl) (pe_op op_addU (pv 2) (pe_lst (pa_cons pe_str (pa_cons pe_str pa_nil)))))
      (pss_cons (ps_set (i := 2) sc_law.nd rfl (by first | exact Or.inl rfl | exact Or.inr rfl) (pe_op op_addU (pv 2) (pe_lst (pa_cons pe_str (pa_cons pe_str (pa_cons pe_str (pa_cons pe_str (pa_cons pe_str (pa_cons pe_str pa_nil)))))))))
      (pss_cons (ps_for PassesOwn.never rfl (pi_range1 (by rfl) T.n_range (pa_cons pe_int pa_nil)) (pg_name (i := 3) sc_law.nd rfl (by first | exact Or.inl rfl | exact Or.inr rfl)) (pss_cons (ps_set (i := 4) sc_law.nd rfl (by first | exact Or.inl rfl | exact Or.inr rfl) (pe_call G__law_parts (hr.mono (by decide)) (by rfl) T.D__law_parts.m T.D__law_parts.k T.D__law_parts.b .nil pass0 (pa_cons (pv 1) (pa_cons pe_int (pa_cons pe_int pa_nil)))))
      (pss_cons (ps_set (i := 5) sc_law.nd rfl (by first | exact Or.inl rfl | exact Or.inr rfl) (pe_call G__law_text (hr.mono (by decide)) (by rfl) T.D__law_text.m T.D__law_text.k T.D__law_text.b .nil pass0 (pa_cons (pv 4) pa_nil)))
      (pss_cons (ps_if (pt_cmpR op_notN (pe_call G__law_refused (hr.mono (by decide)) (by rfl) T.D__law_refused.m T.D__law_refused.k T.D__law_refused.b .nil pass0 (pa_cons (pe_join pe_str (pe_lc (own := [("_law_words", 6)]) (by rfl) sc_law.nd (pi_seq (pv 5)) (blkOk_by (own := [("_law_words", 6)]) (N := N_law) (sc := defScope s_law) (by decide +kernel)) (fun _ _ _ _ _ => (pg_name (i := 6) sc_law.nd rfl (by first | exact Or.inl rfl | exact Or.inr rfl))) (fun _ _ _ _ _ => pts_nil) (fun _ _ _ _ _ => (pe_join pe_str (pv 6))))) pa_nil)) pe_non (nomark _)) (pss_one (ps_ret pe_bl)) pss_nil)
      (pss_cons (ps_for PassesOwn.never rfl (pi_range1 (by rfl) T.n_range (pa_cons (pe_op op_addU pe_int (pe_call G__law_taken (hr.mono (by decide)) (by rfl) T.D__law_taken.m T.D__law_taken.k T.D__law_taken.b .nil pass0 (pa_cons (pv 1) (pa_cons pe_int pa_nil)))) pa_nil)) (pg_name (i := 7) sc_law.nd rfl (by first | exact Or.inl rfl | exact Or.inr rfl)) (pss_cons (ps_par (i := 8) (j := 9) (by rfl) sc_law.nd rfl rfl (by decide) rfl rfl (pa_cons (pe_call G__law_taken (hr.mono (by decide)) (by rfl) T.D__law_taken.m T.D__law_taken.k T.D__law_taken.b .nil pass0 (pa_cons (pv 1) (pa_cons (pe_callB call_len (by rfl) T.n_len (by decide +kernel) (pa_cons (pv 5) pa_nil)) pa_nil))) (pa_cons (pe_call G__law_taken (hr.mono (by decide)) (by rfl) T.D__law_taken.m T.D__law_taken.k T.D__law_taken.b .nil pass0 (pa_cons (pv 1) (pa_cons pe_int pa_nil))) pa_nil)) (by rfl))
      (pss_cons (ps_set (i := 6) sc_law.nd rfl (by first | exact Or.inl rfl | exact Or.inr rfl) (pe_ix ix_seq (pv 5) (pv 8) (fun _ _ => rfl)))
      (pss_cons (ps_set (i := 10) sc_law.nd rfl (by first | exact Or.inl rfl | exact Or.inr rfl) (pe_call G__law_taken (hr.mono (by decide)) (by rfl) T.D__law_taken.m T.D__law_taken.k T.D__law_taken.b .nil pass0 (pa_cons (pv 1) (pa_cons (pe_op op_addU (pe_callB call_len (by rfl) T.n_len (by decide +kernel) (pa_cons (pv 6) pa_nil)) pe_int) pa_nil))))
      (pss_cons (ps_set (i := 11) sc_law.nd rfl (by first | exact Or.inl rfl | exact Or.inr rfl) (pe_ifExp (pt_cmpR (op_neD hr.units) (pv 9) pe_int (nomark _)) (pe_lst (pa_cons (pe_ix ix_seq (pv 2) (pe_call G__law_taken (hr.mono (by decide)) (by rfl) T.D__law_taken.m T.D__law_taken.k T.D__law_taken.b .nil pass0 (pa_cons (pv 1) (pa_cons (pe_callB call_len (by rfl) T.n_len (by decide +kernel) (pa_cons (pv 2) pa_nil)) pa_nil))) (fun _ _ => rfl)) pa_nil)) (pe_lst pa_nil)))
      (pss_cons (ps_if (pt_cmpR op_lt (pv 9) pe_int (nomark _)) (pss_cons (ps_set (i := 6) sc_law.nd rfl (by first | exact Or.inl rfl | exact Or.inr rfl) (pe_op op_addU (pe_op op_addU (pe_slice sl_U (pv 6) po_none (po_some (pv 10))) (pv 11)) (pe_slice sl_U (pv 6) (po_some (pe_op op_addU (pv 10) (pe_callTy call_intU (by rfl) T.n_int (by decide +kernel) (pa_cons (pe_cmpR op_inU (pv 9) (pe_tup (pa_cons pe_int (pa_cons pe_int pa_nil))) (by rfl)) pa_nil)))) po_none)))
      (pss_one (ps_set (i := 5) sc_law.nd rfl (by first | exact Or.inl rfl | exact Or.inr rfl) (pe_op op_addU (pe_op op_addU (pe_slice sl_U (pv 5) po_none (po_some (pv 8))) (pe_lst (pa_cons (pv 6) pa_nil))) (pe_slice sl_U (pv 5) (po_some (pe_op op_addU (pv 8) pe_int)) po_none))))) (pss_one (ps_if (pt_cmpR (op_eqD hr.units) (pv 9) pe_int (nomark _)) (pss_cons (ps_set (i := 12) sc_law.nd rfl (by first | exact Or.inl rfl | exact Or.inr rfl) (pe_op op_mulS (pe_lst (pa_cons (pv 6) pa_nil)) (pe_op op_mulS pe_int (pe_call G__law_taken (hr.mono (by decide)) (by rfl) T.D__law_taken.m T.D__law_taken.k T.D__law_taken.b .nil pass0 (pa_cons (pv 1) (pa_cons pe_int pa_nil))))))
      (pss_one (ps_set (i := 5) sc_law.nd rfl (by first | exact Or.inl rfl | exact Or.inr rfl) (pe_op op_addU (pe_op op_addU (pe_slice sl_U (pv 5) po_none (po_some (pv 8))) (pv 12)) (pe_slice sl_U (pv 5) (po_some (pe_op op_addU (pv 8) pe_int)) po_none))))) (pss_cons (ps_set (i := 13) sc_law.nd rfl (by first | exact Or.inl rfl | exact Or.inr rfl) (pe_revU (pe_slice sl_U (pv 5) (po_some (pv 8)) (po_some (pe_op op_addU (pv 8) pe_int)))))
      (pss_one (ps_set (i := 5) sc_law.nd rfl (by first | exact Or.inl rfl | exact Or.inr rfl) (pe_op op_addU (pe_op op_addU (pe_slice sl_U (pv 5) po_none (po_some (pv 8))) (pv 13)) (pe_slice sl_U (pv 5) (po_some (pe_op op_addU (pv 8) pe_int)) po_none))))))))
      (pss_one (ps_set (i := 5) sc_law.nd rfl (by first | exact Or.inl rfl | exact Or.inr rfl) (pe_orT (pv 5) (pe_one (pe_lst (pa_cons (pe_lst pa_nil) pa_nil))))))))))))
      (pss_one (ps_if (pt_cmpR (op_neD hr.units) (pe_call G__law_refused (hr.mono (by decide)) (by rfl) T.D__law_refused.m T.D__law_refused.k T.D__law_refused.b .nil pass0 (pa_cons (pe_join pe_str (pe_lc (own := [("_law_words", 6)]) (by rfl) sc_law.nd (pi_seq (pv 5)) (blkOk_by (own := [("_law_words", 6)]) (N := N_law) (sc := defScope s_law) (by decide +kernel)) (fun _ _ _ _ _ => (pg_name (i := 6) sc_law.nd rfl (by first | exact Or.inl rfl | exact Or.inr rfl))) (fun _ _ _ _ _ => pts_nil) (fun _ _ _ _ _ => (pe_join pe_str (pv 6))))) pa_nil)) (pe_call G__law_wrong (hr.mono (by decide)) (by rfl) T.D__law_wrong.m T.D__law_wrong.k T.D__law_wrong.b .nil pass0 (pa_cons (pv 5) pa_nil)) (nomark _)) (pss_one (ps_ret pe_bl)) pss_nil)))))))
      (pss_one (ps_ret (pe_cmpR (op_eqD hr.units) (pe_call G__law_refused (hr.mono (by decide)) (by rfl) T.D__law_refused.m T.D__law_refused.k T.D__law_refused.b .nil pass0 (pa_cons pe_str pa_nil)) (pe_lst (pa_cons pe_int (pa_cons pe_int pa_nil))) (nomark _)))))))),
    (rs_seq (rs_set (rd_lst (rd_cons rd_str (rd_cons rd_str (rd_cons rd_str (rd_cons rd_str (rd_cons rd_str (rd_cons rd_str (rd_cons rd_str (rd_cons rd_str (rd_cons rd_str (rd_cons rd_str (rd_cons rd_str (rd_cons rd_str (rd_cons rd_str (rd_cons rd_str rd_nil))))))))))))))))
      (rs_seq (rs_set (rd_op os_add rd_var (rd_lst (rd_cons rd_str (rd_cons rd_str rd_nil)))))
      (rs_seq (rs_set (rd_op os_add rd_var (rd_lst (rd_cons rd_str (rd_cons rd_str (rd_cons rd_str (rd_cons rd_str (rd_cons rd_str (rd_cons rd_str rd_nil)))))))))
      (rs_seq (rs_for (ri_r1 (rd_cons rd_int rd_nil)) rg_name (rs_seq (rs_set (rd_call (rd_cons rd_var (rd_cons rd_int (rd_cons rd_int rd_nil)))))
      (rs_seq (rs_set (rd_call (rd_cons rd_var rd_nil)))
      (rs_seq (rs_if (rt_b (rd_op os_notN (rd_call (rd_cons (rd_m1 ms_join rd_str (rd_comp (ri_seq rd_var) rg_name rt_yes (rd_m1 ms_join rd_str rd_var))) rd_nil)) rd_non)) (rs_ret rd_bl) rs_next)
      (rs_seq (rs_for (ri_r1 (rd_cons (rd_op os_add rd_int (rd_call (rd_cons rd_var (rd_cons rd_int rd_nil)))) rd_nil)) rg_name (rs_seq (rs_par (rps_cons (rp_v (rd_call (rd_cons rd_var (rd_cons (rd_b cs_len (rd_cons rd_var rd_nil)) rd_nil)))) (rps_cons (rp_v (rd_call (rd_cons rd_var (rd_cons rd_int rd_nil)))) rps_nil)))
      (rs_seq (rs_set (rd_op os_ix rd_var rd_var))
      (rs_seq (rs_set (rd_call (rd_cons rd_var (rd_cons (rd_op os_add (rd_b cs_len (rd_cons rd_var rd_nil)) rd_int) rd_nil))))
      (rs_seq (rs_set (rd_if (rt_b (rd_op os_ne rd_var rd_int)) (rd_lst (rd_cons (rd_op os_ix rd_var (rd_call (rd_cons rd_var (rd_cons (rd_b cs_len (rd_cons rd_var rd_nil)) rd_nil)))) rd_nil)) (rd_lst rd_nil)))
      (rs_seq (rs_if (rt_b (rd_op os_lt rd_var rd_int)) (rs_seq (rs_set (rd_op os_add (rd_op os_add (rd_sl rd_var ro_no (ro_part rd_var)) rd_var) (rd_sl rd_var (ro_part (rd_op os_add rd_var (rd_b cs_intU (rd_cons (rd_op os_inU rd_var (rd_tup (rd_cons rd_int (rd_cons rd_int rd_nil)))) rd_nil)))) ro_no)))
      (rs_set (rd_op os_add (rd_op os_add (rd_sl rd_var ro_no (ro_part rd_var)) (rd_lst (rd_cons rd_var rd_nil))) (rd_sl rd_var (ro_part (rd_op os_add rd_var rd_int)) ro_no)))) (rs_if (rt_b (rd_op os_eq rd_var rd_int)) (rs_seq (rs_set (rd_op os_mulU (rd_lst (rd_cons rd_var rd_nil)) (rd_op os_mulU rd_int (rd_call (rd_cons rd_var (rd_cons rd_int rd_nil))))))
      (rs_set (rd_op os_add (rd_op os_add (rd_sl rd_var ro_no (ro_part rd_var)) rd_var) (rd_sl rd_var (ro_part (rd_op os_add rd_var rd_int)) ro_no)))) (rs_seq (rs_set (rd_rev (rd_sl rd_var (ro_part rd_var) (ro_part (rd_op os_add rd_var rd_int)))))
      (rs_set (rd_op os_add (rd_op os_add (rd_sl rd_var ro_no (ro_part rd_var)) rd_var) (rd_sl rd_var (ro_part (rd_op os_add rd_var rd_int)) ro_no))))))
      (rs_set (rd_orL rd_var (rd_lst (rd_cons (rd_lst rd_nil) rd_nil))))))))))
      (rs_if (rt_b (rd_op os_ne (rd_call (rd_cons (rd_m1 ms_join rd_str (rd_comp (ri_seq rd_var) rg_name rt_yes (rd_m1 ms_join rd_str rd_var))) rd_nil)) (rd_call (rd_cons rd_var rd_nil)))) (rs_ret rd_bl) rs_next))))))
      (rs_ret (rd_op os_eq (rd_call (rd_cons rd_str rd_nil)) (rd_lst (rd_cons rd_int (rd_cons rd_int rd_nil)))))))))⟩) hl
end
/-! ### buyers and their stairs -/
abbrev P2 := Int × Int
def encB (x : P2) : D := .tup [.int x.1, .int x.2]
def buD (xs : List P2) : D := .tup (xs.map encB)
def tot (ys : List P2) : Int := (ys.map (·.2)).sum
structure VU (ys : List P2) : Prop where
  len1 : 1 ≤ ys.length
  len5 : ys.length ≤ 5
  ok : ∀ y ∈ ys, 0 ≤ y.1 ∧ y.1 ≤ 1000000000 ∧ 1 ≤ y.2 ∧ y.2 ≤ 1000000000
  up : ys.Pairwise fun a b => a.1 < b.1
theorem sum_bd : ∀ (ys : List P2), (∀ y ∈ ys, 1 ≤ y.2 ∧ y.2 ≤ 1000000000) → (ys.length : Int) ≤ tot ys ∧ tot ys ≤ 1000000000 * ys.length
  | [], _ => by simp [tot]
  | y :: ys, h => by
    have ih := sum_bd ys fun z hz => h z (by simp [hz])
    have := h y (by simp)
    unfold tot at *
    simp; omega
theorem bd_of {x : Int} (h : -(2 ^ 40) < x ∧ x < 2 ^ 40) : Bd 40 x := by unfold Bd; omega
theorem is_from_is (v lo hi : Int) (s : S) : f_is_from [.int v, .int lo, .int hi] s = .ok (.bl (decide (lo ≤ v ∧ v ≤ hi))) s := by
  rw [u_is_from]; unfold b_is_from
  by_cases h : lo ≤ v <;> simp [h]
theorem is_pair_is {x : P2} (s : S) (h : 0 ≤ x.1 ∧ x.1 ≤ 1000000000 ∧ 1 ≤ x.2 ∧ x.2 ≤ 1000000000) : f_is_pair [encB x] s = .ok (.bl true) s := by
  rw [u_is_pair]; unfold b_is_pair encB
  have e1 : (decide (0 ≤ x.1 ∧ x.1 ≤ 1000000000)) = true := by simp; omega
  have e2 : (decide (1 ≤ x.2 ∧ x.2 ≤ 1000000000)) = true := by simp; omega
  simp [is_from_is, e1, e2]
theorem is_buyer_is {xs : List P2} (v : VU xs) (s : S) : f_is_buyer [buD xs] s = .ok (.bl true) s := by
  have l1 := v.len1
  have l5 := v.len5
  have hr : gR1 [.int ((xs.length : Int) - 1)] = some (upto 0 (xs.length - 1)) := by
    rw [show (xs.length : Int) - 1 = ((xs.length - 1 : Nat) : Int) by omega]
    exact g_r1 _ (by omega)
  have d1 : (1 : Int) ≤ xs.length := by omega
  have d5 : (xs.length : Int) ≤ 5 := by omega
  rw [u_is_buyer]; unfold b_is_buyer buD
  simp [d1, d5, show xs.length ≤ 100000 by omega]
  rw [comp_map (xs := xs) (enc := encB) (e := fun _ => .bl true)]
  · simp [hr, show xs.length - 1 ≤ 100000 by omega]
    rw [upto0, comp_map (e := fun _ => .bl true)]
    · simp
    · intro i hi
      refine ⟨_, rfl, fun s => ?_⟩
      have hi : i < xs.length - 1 := List.mem_range.mp hi
      have e1 : xs[i]? = some xs[i] := List.getElem?_eq_getElem (by omega)
      have e2 : xs[i + 1]? = some xs[i + 1] := List.getElem?_eq_getElem (by omega)
      have hlt := List.pairwise_iff_getElem.mp v.up i (i + 1) (by omega) (by omega) (by omega)
      have a1 : atI (xs.map encB) (i : Int) = some (encB xs[i]) := by rw [at_nat, List.getElem?_map, e1]; rfl
      have a2 : atI (xs.map encB) ((i : Int) + 1) = some (encB xs[i + 1]) := by
        rw [show (i : Int) + 1 = ((i + 1 : Nat) : Int) by omega, at_nat, List.getElem?_map, e2]; rfl
      simp [a1, a2, encB, hlt, -at_nat]
  · intro x hx
    exact ⟨_, rfl, fun s => by simp [is_pair_is s (v.ok x hx)]⟩

/-! ### sales -/
abbrev crD (bs : List (List P2)) : D := .tup (bs.map buD)
abbrev salD (bs : List (List P2)) (m : Int) : D := .sal (crD bs) (.int m)
structure VS (bs : List (List P2)) (m : Int) : Prop where
  len1 : 1 ≤ bs.length
  len4 : bs.length ≤ 4
  ok : ∀ b ∈ bs, VU b
  m1 : 1 ≤ m
  m3 : m ≤ 3
theorem sale_is {bs : List (List P2)} {m : Int} (v : VS bs m) (s : S) : f_Sale [crD bs, .int m] s = .ok (salD bs m) s := by
  have l1 := v.len1
  have l4 := v.len4
  have d1 : (1 : Int) ≤ bs.length := by omega
  have d4 : (bs.length : Int) ≤ 4 := by omega
  have em : decide (1 ≤ m ∧ m ≤ 3) = true := by have := v.m1; have := v.m3; simp; omega
  have key := for_inv (tg := tgTup 2 (tgCons (tgName 3) (tgCons (tgName 4) tgNil))) (F := l1_Sale) (enc := fun (p : Nat × List P2) => D.tup [.int (p.1 : Int), buD p.2]) (xs := idx bs)
    (fun pre δ s' => s' = s ∧ ∃ d e, δ = [some (.obj 0), some (crD bs), some (.int m), d, e]) (δ := [some (.obj 0), some (crD bs), some (.int m), none, none]) (s := s) ⟨rfl, none, none, rfl⟩ ?_
  · obtain ⟨δ', s', h1, rfl, d, e, rfl⟩ := key
    have t1 : t1_Sale [some (.obj 0), some (crD bs), some (.int m), none, none] s' = .ok false s' := by
      unfold t1_Sale
      simp [d1, d4]
    have t3 : ∀ s, t3_Sale [some (.obj 0), some (crD bs), some (.int m), d, e] s = .ok false s := fun s => by
      unfold t3_Sale
      simp [is_from_is, em]
    show (b_Sale [some (.obj 0), some (crD bs), some (.int m), none, none] s').bind (saleE 0) = _
    unfold b_Sale
    simp [t1, enum_idx]
    rw [h1]
    simp [t3, saleE, isOb]
  · rintro pre x post δ s' e ⟨rfl, d, f, rfl⟩
    obtain ⟨h1, h2, h3⟩ := idx_split e
    refine ⟨_, [some (.obj 0), some (crD bs), some (.int m), some (.int (x.1 : Int)), some (buD x.2)], s', rfl, ?_, rfl, _, _, rfl⟩
    unfold l1_Sale
    have ib := is_buyer_is (v.ok _ (List.mem_of_getElem? h2)) s'
    simp [ib]

/-! ### texts as lists of signs -/
open TL in
theorem tl_lit {x : Str} {l : List Nat} (h : x.cps.toList = l) : tl x = l := h
def sD (l : List Nat) : D := .str ⟨l.toArray⟩
theorem sD_tl (x : Str) : sD (TL.tl x) = .str x := by unfold sD; rw [TL.mk_tl]
theorem sD_inj {l m : List Nat} (h : sD l = sD m) : l = m := by
  unfold sD at h
  injection h with h
  injection h with h
  simpa using congrArg Array.toList h
theorem s_inj {l m : List Nat} : (⟨l.toArray⟩ : Str) = ⟨m.toArray⟩ ↔ l = m := ⟨fun h => sD_inj (by unfold sD; rw [h]), fun h => by rw [h]⟩
theorem dgs_nat (n : Nat) : dgs (n : Int) = ⟨(TL.numL n).toArray⟩ := TL.ext_tl (TL.tl_num n)
theorem dgs_int {i : Int} (h : 0 ≤ i) : D.str (dgs i) = sD (TL.numL i.toNat) := by
  obtain ⟨n, rfl⟩ := Int.eq_ofNat_of_zero_le h
  unfold sD
  rw [dgs_nat]; simp
theorem str_len (l : List Nat) : (⟨l.toArray⟩ : Str).length = l.length := by simp [Str.length]
theorem add_str (l m : List Nat) : (⟨l.toArray⟩ : Str) ++ ⟨m.toArray⟩ = ⟨(l ++ m).toArray⟩ := TL.ext_tl (by rw [TL.tl_append])
/-! ### == of texts -/
theorem eqv_strs : ∀ xs ys : List Str, PyData.eqvAll (xs.map PyData.str) (ys.map PyData.str) = decide (xs = ys)
  | [], [] => by (simp [PyData.eqvAll])
  | [], _ :: _ => by (simp [PyData.eqvAll])
  | _ :: _, [] => by (simp [PyData.eqvAll])
  | x :: xs, y :: ys => by
    rw [List.map_cons, List.map_cons, PyData.eqvAll, eqv_strs xs ys]
    simp only [PyData.eqv, List.cons.injEq]
    by_cases h : x = y <;> by_cases h2 : xs = ys <;> simp [h, h2]
theorem toPys_strs : ∀ xs : List Str, toPys (xs.map D.str) = some (xs.map PyData.str)
  | [] => rfl
  | x :: xs => by simp [toPys, toPy, toPys_strs xs]
def Asc (l : List Nat) : Prop := ∀ c ∈ l, c < 128
theorem asc_ok {x : Str} (h : Asc (TL.tl x)) : PyData.strOk x = true := by
  unfold PyData.strOk
  rw [← Array.all_toList, List.all_eq_true]
  intro c hc
  have := h c hc
  simp; omega
theorem lay_strs : ∀ xs : List Str, (∀ x ∈ xs, Asc (TL.tl x)) → PyData.canLayAll0 (xs.map PyData.str) = true ∧ PyData.depthAll (xs.map PyData.str) ≤ 1
  | [], _ => by simp [PyData.canLayAll0, PyData.depthAll]
  | x :: xs, hx => by
    have := lay_strs xs fun y hy => hx y (by simp [hy])
    have h0 := asc_ok (hx x (by simp))
    refine ⟨by simp [PyData.canLayAll0, PyData.canLay0, this.1, h0], ?_⟩
    have := this.2
    simp [PyData.depthAll, PyData.depth]
    omega
theorem pyok_strs (xs : List Str) (hx : ∀ x ∈ xs, Asc (TL.tl x)) : pyOk (.lst (xs.map .str)) = some (.list (xs.map .str)) := by
  have h := lay_strs xs hx
  have e : toPy (.lst (xs.map .str)) = some (.list (xs.map .str)) := by simp [toPy, toPys_strs]
  have s : SeqAt.shaped (.list (xs.map .str)) = true := by
    unfold SeqAt.shaped
    simp [PyData.canLay0, PyData.depth, h.1]
    have := h.2
    omega
  unfold pyOk
  rw [e]; simp [s]
theorem g_neSs (xs ys : List Str) (hx : ∀ x ∈ xs, Asc (TL.tl x)) (hy : ∀ x ∈ ys, Asc (TL.tl x)) : gNe (.lst (xs.map .str)) (.lst (ys.map .str)) = some (.bl (!decide (xs = ys))) := by
  unfold gNe eqD
  rw [pyok_strs _ hx, pyok_strs _ hy]
  simp [PyData.eqv, eqv_strs]
theorem pyok_str (x : Str) (hx : Asc (TL.tl x)) : pyOk (.str x) = some (.str x) := by
  unfold pyOk
  have s : SeqAt.shaped (.str x) = true := by
    unfold SeqAt.shaped
    simp [PyData.canLay0, PyData.depth, asc_ok hx]
  simp [toPy, s]
theorem g_eqS (x y : Str) (hx : Asc (TL.tl x)) (hy : Asc (TL.tl y)) : gEq (.str x) (.str y) = some (.bl (decide (x = y))) := by
  unfold gEq eqD
  rw [pyok_str _ hx, pyok_str _ hy]
  simp only [PyData.eqv, Option.map_some]
  by_cases h : x = y <;> simp [h]
theorem g_neS (x y : Str) (hx : Asc (TL.tl x)) (hy : Asc (TL.tl y)) : gNe (.str x) (.str y) = some (.bl (!decide (x = y))) := by
  unfold gNe eqD
  rw [pyok_str _ hx, pyok_str _ hy]
  simp only [PyData.eqv, Option.map_some]
  by_cases h : x = y <;> simp [h]
theorem rowS (ws : List (List Nat)) : ws.map sD = (ws.map fun l => (⟨l.toArray⟩ : Str)).map D.str := by rw [List.map_map]; rfl
theorem g_neL (ws vs : List (List Nat)) (hw : ∀ w ∈ ws, Asc w) (hv : ∀ w ∈ vs, Asc w) : gNe (.lst (ws.map sD)) (.lst (vs.map sD)) = some (.bl (!decide (ws = vs))) := by
  rw [rowS, rowS, g_neSs _ _ (fun x hx => by obtain ⟨l, h1, rfl⟩ := List.mem_map.mp hx; exact hw l h1) (fun x hx => by obtain ⟨l, h1, rfl⟩ := List.mem_map.mp hx; exact hv l h1)]
  have : (ws.map fun l => (⟨l.toArray⟩ : Str)) = (vs.map fun l => (⟨l.toArray⟩ : Str)) ↔ ws = vs := ⟨fun h => by
    have := congrArg (List.map TL.tl) h
    simpa [List.map_map, Function.comp_def] using this, fun h => by rw [h]⟩
  by_cases h : ws = vs <;> simp [h, this]
/-! ### numbers -/
open TL NumText in
def numIn (l : List Nat) : Int := if 1 ≤ l.length ∧ l.length ≤ 10 ∧ (∀ c ∈ l, 48 ≤ c ∧ c ≤ 57) ∧ ¬ (l.head? = some 48 ∧ l ≠ [48]) ∧ digitsVal l ≤ 1000000000 then (digitsVal l : Int) else -1
theorem mem_digs (c : Nat) : c ∈ ("0123456789" : Str).cps.toList ↔ 48 ≤ c ∧ c ≤ 57 := by
  have : ("0123456789" : Str).cps.toList = [48, 49, 50, 51, 52, 53, 54, 55, 56, 57] := by decide +kernel
  rw [this]
  simp only [List.mem_cons, List.not_mem_nil, or_false]
  omega
theorem lit0 : (D.str "0") = sD [48] := by
  have : TL.tl ("0" : Str) = [48] := by decide +kernel
  rw [← this, sD_tl]
theorem in_digs (c : Nat) : inU (.str ⟨#[c]⟩) (.str "0123456789") = some (.bl (decide (48 ≤ c ∧ c ≤ 57))) := by
  show some (D.bl (decide (c ∈ ("0123456789" : Str).cps.toList))) = _
  congr 2
  exact decide_eq_decide.mpr (mem_digs c)
open TL NumText in
theorem int_text {l : List Nat} (h : ∀ c ∈ l, 48 ≤ c ∧ c ≤ 57) (h1 : l ≠ []) (h2 : l.length ≤ 640) : gIntU [sD l] = some (.int (digitsVal l)) := by
  show (if (⟨l.toArray⟩ : Str).length ≤ 640 then (PySem.intText? ⟨l.toArray⟩).map D.int else none) = _
  rw [if_pos (by rw [str_len]; exact h2)]
  rw [intText_digits (x := ⟨l.toArray⟩) (fun c hc => h c (by simpa using hc)) (by simpa using h1) (by rw [str_len]; omega)]
  simp
theorem len_text (l : List Nat) (h : l.length ≤ 100000) : gLen [sD l] = some (.int l.length) := by
  show (if (⟨l.toArray⟩ : Str).length ≤ 100000 then some (D.int ((⟨l.toArray⟩ : Str).length : Int)) else none) = _
  rw [if_pos (by rw [str_len]; exact h), str_len]
theorem ix_text (l : List Nat) (h : l.length ≤ 100000) (i : Int) : gIx (sD l) (.int i) = (atI l i).map fun c => sD [c] := by
  show (if (⟨l.toArray⟩ : Str).length ≤ 100000 then (atI (⟨l.toArray⟩ : Str).cps.toList i).map fun c => D.str ⟨#[c]⟩ else none) = _
  rw [if_pos (by rw [str_len]; exact h)]; rfl
theorem eq_text (l m : List Nat) (hl : Asc l) (hm : Asc m) : gEq (sD l) (sD m) = some (.bl (decide (l = m))) := by
  unfold sD
  rw [g_eqS _ _ hl hm]
  congr 2
  exact decide_eq_decide.mpr s_inj
theorem ne_text (l m : List Nat) (hl : Asc l) (hm : Asc m) : gNe (sD l) (sD m) = some (.bl (!decide (l = m))) := by
  unfold sD
  rw [g_neS _ _ hl hm]
  congr 3
  exact decide_eq_decide.mpr s_inj
theorem it_text (l : List Nat) : cItStr (cVar 0) [some (sD l), none] = fun s => Out.ok (l.map fun c => D.str ⟨#[c]⟩) s := by
  funext s
  simp [sD, asS]
theorem is_digs (l : List Nat) (s : S) : compL (tgName 1) cYes (cOp inU (cVar 1) (cC (.str "0123456789"))) [some (sD l), none] (l.map fun c => D.str ⟨#[c]⟩) s = .ok (l.map fun c => .bl (decide (48 ≤ c ∧ c ≤ 57))) s :=
  comp_map (e := fun c => .bl (decide (48 ≤ c ∧ c ≤ 57))) fun c _ => ⟨_, rfl, fun s => by simp -implicitDefEqProofs [in_digs]⟩

open TL NumText in
theorem number_in_is (l : List Nat) (hl : l.length ≤ 100000) (s : S) : f_number_in [sD l] s = .ok (.int (numIn l)) s := by
  rw [u_number_in]; unfold b_number_in
  have hall : gAll [.lst (l.map fun c => .bl (decide (48 ≤ c ∧ c ≤ 57)))] = some (.bl (l.all fun c => decide (48 ≤ c ∧ c ≤ 57))) := g_allM l fun c => decide (48 ≤ c ∧ c ≤ 57)
  have gi : ∀ i j : Int, gGt (.int i) (.int j) = some (.bl (decide (j < i))) := fun _ _ => rfl
  unfold numIn
  by_cases h1 : 1 ≤ l.length
  · by_cases h2 : l.length ≤ 10
    · have a1 : (1 : Int) ≤ l.length := by omega
      have a2 : (l.length : Int) ≤ 10 := by omega
      by_cases h3 : ∀ c ∈ l, 48 ≤ c ∧ c ≤ 57
      · have a3 : (l.all fun c => decide (48 ≤ c ∧ c ≤ 57)) = true := List.all_eq_true.mpr fun c hc => decide_eq_true (h3 c hc)
        have it := int_text h3 (List.length_pos_iff.mp h1) (by omega)
        obtain ⟨c, hc⟩ : ∃ c, l.head? = some c := by
          cases l with
          | nil => simp at h1
          | cons c r => exact ⟨c, rfl⟩
        have hc0 : l[0]? = some c := by rw [← hc]; cases l <;> rfl
        have ac : Asc l := fun d hd => by have := h3 d hd; omega
        have a48 : Asc [48] := fun d hd => by
          have : d = 48 := by simpa using hd
          omega
        have hcm : c ∈ l := List.mem_of_getElem? hc0
        have i0 : gIx (sD l) (.int 0) = some (sD [c]) := by rw [ix_text l hl 0, at_0, hc0]; rfl
        have t1 := eq_text [c] [48] (fun d hd => ac d (by
          have : d = c := by simpa using hd
          rw [this]; exact hcm)) a48
        have t2 := ne_text l [48] ac a48
        obtain ⟨b1, hb1⟩ : ∃ b, decide ([c] = [48]) = b := ⟨_, rfl⟩
        obtain ⟨b2, hb2⟩ : ∃ b, (!decide (l = [48])) = b := ⟨_, rfl⟩
        rw [hb1] at t1
        rw [hb2] at t2
        have hb : (l.head? = some 48 ∧ l ≠ [48]) ↔ (b1 && b2) = true := by
          rw [hc, ← hb1, ← hb2]
          simp
        simp only [hb]
        simp -implicitDefEqProofs only [e_seq, e_ite, e_or, e_not, e_tst, e_chain, e_c, e_b, e_cons, e_nil, e_var, List.getElem?_cons_zero, Option.join_some, lift_some, bind_ok, len_text _ hl, g_le, a1, a2, decide_true, g_asB, if_true, Bool.not_true, Bool.false_eq_true, if_false, e_lc, it_text]
        rw [if_pos (by rw [List.length_map]; exact hl)]
        simp -implicitDefEqProofs only [wp_cons, wp_nil, List.set_cons_succ, List.set_cons_zero, is_digs, bind_ok, hall, a3, lift_some, g_asB, Bool.not_true, Bool.false_eq_true, if_false, e_next, e_tst, e_and, e_op, e_var, List.getElem?_cons_zero, Option.join_some, e_c, i0, at_0, hc0, Option.map_some, lit0, t1, t2, e_b, e_cons, e_nil, it, gi, e_ret, e_un, g_neg]
        by_cases h7 : digitsVal l ≤ 1000000000
        · have h8 : ¬ ((1000000000 : Int) < (digitsVal l : Int)) := by omega
          cases b1 <;> cases b2 <;> simp [h1, h2, h7, h8, it, gi, t1, t2] <;> exact h3
        · have h8 : ((1000000000 : Int) < (digitsVal l : Int)) := by omega
          cases b1 <;> cases b2 <;> simp [h1, h2, h7, h8, it, gi, t1, t2] <;> exact h3
      · rw [if_neg (by intro q; exact h3 q.2.2.1)]
        have a3 : (l.all fun c => decide (48 ≤ c ∧ c ≤ 57)) = false := by
          rw [Bool.eq_false_iff]; intro z
          exact h3 fun c hc => of_decide_eq_true (List.all_eq_true.mp z c hc)
        simp -implicitDefEqProofs only [e_seq, e_ite, e_or, e_not, e_tst, e_chain, e_c, e_b, e_cons, e_nil, e_var, List.getElem?_cons_zero, Option.join_some, lift_some, bind_ok, len_text _ hl, g_le, a1, a2, decide_true, g_asB, if_true, Bool.not_true, Bool.false_eq_true, if_false, e_lc, it_text]
        rw [if_pos (by rw [List.length_map]; exact hl)]
        simp -implicitDefEqProofs only [wp_cons, wp_nil, List.set_cons_succ, List.set_cons_zero, is_digs, bind_ok, hall, a3, lift_some, g_asB, Bool.not_false, if_true, e_un, e_ret, e_c, g_neg, ed_ret]
    · rw [if_neg (by intro q; exact h2 q.2.1)]
      have a1 : (1 : Int) ≤ l.length := by omega
      have a2 : ¬ (l.length : Int) ≤ 10 := by omega
      simp -implicitDefEqProofs only [e_seq, e_ite, e_or, e_not, e_tst, e_chain, e_c, e_b, e_cons, e_nil, e_var, List.getElem?_cons_zero, Option.join_some, lift_some, bind_ok, len_text _ hl, g_le, a1, a2, decide_true, decide_false, g_asB, if_true, Bool.not_false, e_un, e_ret, g_neg, ed_ret]
  · rw [if_neg (by intro q; exact h1 q.1)]
    have a1 : ¬ (1 : Int) ≤ l.length := by omega
    simp -implicitDefEqProofs only [e_seq, e_ite, e_or, e_not, e_tst, e_chain, e_c, e_b, e_cons, e_nil, e_var, List.getElem?_cons_zero, Option.join_some, lift_some, bind_ok, len_text _ hl, g_le, a1, decide_true, decide_false, g_asB, if_true, Bool.not_false, Bool.false_eq_true, if_false, e_un, e_ret, g_neg, ed_ret]

/-! ### splitting, joining -/
def splC (c : Nat) : List Nat → List Nat → List (List Nat)
  | acc, [] => [acc]
  | acc, d :: r => if d = c then acc :: splC c [] r else splC c (acc ++ [d]) r
theorem splC_cons (c d : Nat) (acc r : List Nat) : splC c acc (d :: r) = if d = c then acc :: splC c [] r else splC c (acc ++ [d]) r := by rw [splC]
theorem spl_C (c : Nat) : ∀ (l acc : List Nat), TL.spl [c] 0 acc l = splC c acc l
  | [], acc => rfl
  | d :: r, acc => by
    show (if TL.pre [c] (d :: r) = true then acc :: TL.spl [c] ([c].length - 1) [] r else TL.spl [c] 0 (acc ++ [d]) r) = _
    have e : TL.pre [c] (d :: r) = decide (d = c) := by
      unfold TL.pre
      rw [show (d :: r).take [c].length = [d] from rfl]
      by_cases h : d = c <;> simp [h]
    rw [e]
    by_cases h : d = c
    · subst h
      rw [decide_eq_true rfl, if_pos rfl, show [d].length - 1 = 0 from rfl, spl_C d r []]
      rw [splC_cons, if_pos rfl]
    · rw [decide_eq_false h, if_neg (by simp), spl_C c r]
      rw [splC_cons, if_neg h]
theorem splC_len (c : Nat) : ∀ (l acc : List Nat), ∀ p ∈ splC c acc l, p.length ≤ acc.length + l.length
  | [], acc, p, h => by
    have : p = acc := by simpa [splC] using h
    subst this; simp
  | d :: r, acc, p, h => by
    unfold splC at h
    split at h
    · rcases List.mem_cons.mp h with rfl | h
      · simp
      · have := splC_len c r [] p h
        simp at this ⊢; omega
    · have := splC_len c r (acc ++ [d]) p h
      simp at this ⊢; omega
theorem splC_many (c : Nat) : ∀ (l acc : List Nat), (splC c acc l).length ≤ l.length + 1
  | [], acc => by simp [splC]
  | d :: r, acc => by
    unfold splC
    split
    · have := splC_many c r []; simp; omega
    · have := splC_many c r (acc ++ [d]); simp; omega
theorem splC_none (c : Nat) : ∀ (l acc : List Nat), c ∉ l → splC c acc l = [acc ++ l]
  | [], acc, _ => by simp [splC]
  | d :: r, acc, h => by
    rw [splC_cons, if_neg (fun z => h (by simp [z])), splC_none c r _ (fun z => h (by simp [z]))]; simp
theorem splC_app (c : Nat) : ∀ (p acc r : List Nat), c ∉ p → splC c acc (p ++ c :: r) = (acc ++ p) :: splC c [] r
  | [], acc, r, _ => by
    rw [List.nil_append, List.append_nil, splC_cons, if_pos rfl]
  | d :: p, acc, r, h => by
    rw [List.cons_append, splC_cons, if_neg (fun z => h (by simp [z])), splC_app c p _ r (fun z => h (by simp [z]))]; simp
theorem splC_join (c : Nat) : ∀ (ps : List (List Nat)), ps ≠ [] → (∀ p ∈ ps, c ∉ p) → splC c [] (TL.joinL [c] ps) = ps
  | [], h, _ => absurd rfl h
  | [p], _, hp => by
    show splC c [] p = [p]
    rw [splC_none c p [] (hp p (by simp))]; rfl
  | p :: q :: r, _, hp => by
    show splC c [] (p ++ ([c] ++ TL.joinL [c] (q :: r))) = _
    rw [List.singleton_append, splC_app c p [] _ (hp p (by simp)), splC_join c (q :: r) (by simp) fun z hz => hp z (by simp [List.mem_cons.mp hz])]
    rfl
theorem split_text {y : Str} {c : Nat} (hy : TL.tl y = [c]) (hk : y.cps.all (· < 256) = true) (l : List Nat) (hl : l.length + 2 ≤ 100000) : gSplit ⟨l.toArray⟩ (.str y) = some (.lst ((splC c [] l).map sD)) := by
  show (if y.length ≠ 0 ∧ (⟨l.toArray⟩ : Str).length + 2 ≤ 100000 then some (D.lst ((Txt.split ⟨l.toArray⟩ y).map D.str)) else none) = _
  have h1 : y.length = 1 := by rw [TL.len_tl, hy]; rfl
  rw [if_pos ⟨by omega, by rw [str_len]; exact hl⟩]
  have e := TL.split_spl ⟨l.toArray⟩ y (by rw [hy]; simp) (TL.kind_ok hk)
  rw [hy, show TL.tl (⟨l.toArray⟩ : Str) = l from TL.tl_mk l, spl_C] at e
  rw [← e, List.map_map]
  congr 3
  all_goals (funext x; exact (sD_tl x).symm)
def sumL (ps : List (List Nat)) : Nat := (ps.map List.length).sum
theorem strs_of (ws : List (List Nat)) : strsD (ws.map sD) = some (ws.map fun l => (⟨l.toArray⟩ : Str)) := by
  induction ws with
  | nil => rfl
  | cons w ws ih =>
    rw [List.map_cons]
    unfold sD strsD
    have ih' : strsD (List.map (fun l => D.str ⟨l.toArray⟩) ws) = _ := ih
    rw [ih']; rfl
theorem join_text {y : Str} {S : List Nat} (hy : TL.tl y = S) (ws : List (List Nat)) (hl : sumL ws + ws.length * S.length ≤ 16777216) : gJoin y (.lst (ws.map sD)) = some (sD (TL.joinL S ws)) := by
  unfold gJoin
  rw [show seqD (.lst (ws.map sD)) = some (ws.map sD) from rfl, Option.bind_some, strs_of, Option.bind_some]
  have e1 : ((ws.map fun l => (⟨l.toArray⟩ : Str)).map (·.length)).sum = sumL ws := by
    unfold sumL
    rw [List.map_map]; congr 1
    all_goals exact List.map_congr_left fun l _ => str_len l
  rw [if_pos (by rw [e1, List.length_map, TL.len_tl y, hy]; exact hl)]
  rw [TL.join_eq, ← sD_tl, TL.tl_join, hy, List.map_map]
  congr 3
  all_goals exact List.map_congr_left (fun l _ => TL.tl_mk l) |>.trans (List.map_id ws)
theorem join_len (c : Nat) : ∀ ws : List (List Nat), (TL.joinL [c] ws).length ≤ sumL ws + ws.length
  | [] => by simp [TL.joinL, sumL]
  | [w] => by simp [TL.joinL, sumL]
  | w :: v :: r => by
    have ih := join_len c (v :: r)
    show (w ++ ([c] ++ TL.joinL [c] (v :: r))).length ≤ _
    simp [sumL] at ih ⊢; omega
/-! ### numbers there and back -/
open TL NumText in
theorem numL_head {n : Nat} (h : 0 < n) : ∃ c r, numL n = c :: r ∧ 49 ≤ c ∧ c ≤ 57 := by
  induction n using Nat.strongRecOn with
  | _ n ih =>
    by_cases h10 : n < 10
    · exact ⟨48 + n, [], numL_lt h10, by omega, by omega⟩
    · obtain ⟨c, r, e, h1, h2⟩ := ih (n / 10) (by omega) (by omega)
      exact ⟨c, r ++ [48 + n % 10], by rw [numL_step (by omega), e]; rfl, h1, h2⟩
open TL NumText in
theorem numIn_numL {n : Nat} (h : n ≤ 1000000000) : numIn (numL n) = n := by
  unfold numIn
  rw [if_pos, numL_val]
  refine ⟨?_, numL_len (by decide) (by omega), numL_digits n, ?_, by rw [numL_val]; exact h⟩
  · have := numL_ne n
    have := List.length_pos_iff.mpr this
    omega
  · rintro ⟨q1, q2⟩
    by_cases h0 : n = 0
    · subst h0; exact q2 (numL_lt (by decide))
    · obtain ⟨c, r, e, h1, h2⟩ := numL_head (n := n) (by omega)
      rw [e] at q1
      have : c = 48 := by simpa using q1
      omega
theorem numIn_ge (l : List Nat) : -1 ≤ numIn l ∧ numIn l ≤ 1000000000 := by
  unfold numIn
  split
  · omega
  · omega
open TL NumText in
theorem numIn_back {l : List Nat} (h : 0 ≤ numIn l) : l = numL (numIn l).toNat := by
  unfold numIn at h ⊢
  split at h
  · rename_i hc
    rw [if_pos hc, Int.toNat_natCast]
    obtain ⟨h1, h2, h3, h4, h5⟩ := hc
    match l, h1 with
    | c :: r, _ =>
      have hh : r.length = 0 ∨ ∃ d q, c :: r = d :: q ∧ 49 ≤ d := by
        by_cases hz : r = []
        · exact .inl (by rw [hz]; rfl)
        · refine .inr ⟨c, r, rfl, ?_⟩
          have := h3 c (by simp)
          by_cases w : c = 48
          · exact absurd ⟨by rw [List.head?_cons, w], fun z => hz (by injection z)⟩ h4
          · omega
      have e := toDigits_digitsVal r.length (c :: r) (by simp) h3 hh
      unfold numL
      rw [e, List.map_map]
      refine (List.map_id _).symm.trans (List.map_congr_left fun d hd => ?_)
      have := h3 d hd
      show d = (Char.ofNat d).toNat
      have hv : d.isValidChar := .inl (by omega)
      unfold Char.ofNat
      rw [dif_pos hv]
      rfl
  · omega
/-! ### pairs -/
def pairIn (l : List Nat) (b : Int) : Option P2 := match splC 58 [] l with
  | [p, q] => if numIn p ≤ b ∨ numIn q < 1 then none else some (numIn p, numIn q)
  | _ => none
def opD : Option P2 → D | none => .non | some x => encB x
theorem colon_tl : TL.tl (":" : Str) = [58] := by decide +kernel
theorem colon_k : (":" : Str).cps.all (· < 256) = true := by decide +kernel
theorem pair_in_is (l : List Nat) (hl : l.length + 2 ≤ 100000) (b : Int) (s : S) : f_pair_in [sD l, .int b] s = .ok (opD (pairIn l b)) s := by
  rw [u_pair_in]; unfold b_pair_in
  have e0 : asS (sD l) = some ⟨l.toArray⟩ := rfl
  have e1 := split_text colon_tl colon_k l hl
  have hlen := splC_len 58 l []
  have hm := splC_many 58 l []
  unfold pairIn
  generalize splC 58 [] l = ps at e1 hlen hm
  have gL : gLen [.lst (ps.map sD)] = some (.int ps.length) := by rw [g_lenL, List.length_map]
  match ps, hlen, hm, e1, gL with
  | [], _, _, e1, gL => simp -implicitDefEqProofs [e0, e1, opD]
  | [p], _, _, e1, gL => simp -implicitDefEqProofs [e0, e1, opD]
  | [p, q], hlen, _, e1, gL =>
    have h1 := number_in_is p (by have := hlen p (by simp); simp at this; omega)
    have h2 := number_in_is q (by have := hlen q (by simp); simp at this; omega)
    by_cases c1 : numIn p ≤ b
    · simp -implicitDefEqProofs [e0, e1, opD, h1, h2, c1]
    · by_cases c2 : numIn q < 1
      · simp -implicitDefEqProofs [e0, e1, opD, h1, h2, c1, c2]
      · simp -implicitDefEqProofs [e0, e1, opD, h1, h2, c1, c2, encB]
  | p :: q :: r :: t, _, _, e1, gL =>
    have : ¬ ((t.length : Int) + 1 + 1 + 1 = 2) := by omega
    simp -implicitDefEqProofs [e0, e1, opD, this]

def erO {α : Type} (l w : Int) (s : S) : Out α := .err ⟨"InvalidText", [.int w, .int l]⟩ s

/-! ### a line of a buyer -/
abbrev Er := Int × Int
def rowD (ws : List (List Nat)) : D := .lst (ws.map sD)
theorem upto_cons (a : Int) (n : Nat) : upto a (n + 1) = .int a :: upto (a + 1) n := by
  unfold upto
  rw [List.range_succ_eq_map, List.map_cons, List.map_map]
  congr 1
  · simp
  · refine List.map_congr_left fun i _ => ?_
    show D.int (a + ((i + 1 : Nat) : Int)) = _
    congr 1; omega
def lastW (bs : List P2) : Int := match bs.getLast? with | some x => x.1 | none => -1
def buyL (line : Int) : List P2 → Int → List (List Nat) → Except Er (List P2)
  | done, _, [] => .ok done
  | done, at_, w :: ws => match pairIn w (lastW done) with
    | none => .error (line, at_ + 1)
    | some x => if done.length = 5 then .error (line, at_ + 1) else buyL line (done ++ [x]) (at_ + 1) ws
theorem ne_nil (bs : List P2) : gNe (.lst (bs.map encB)) (.lst []) = some (.bl (decide (bs ≠ []))) := by
  have h1 : Sm 60 (.lst (bs.map encB)) := by
    simp only [Sm]
    exact Sms_iff.mpr fun d hd => by
      obtain ⟨x, _, rfl⟩ := List.mem_map.mp hd
      simp [encB, Sm, Sms]
  rw [gNe_sm h1 (by simp [Sm, Sms])]
  congr 2
  cases bs with
  | nil => simp
  | cons b bs => simp
theorem eq_nil (bs : List P2) : gEq (.lst (bs.map encB)) (.lst []) = some (.bl (decide (bs = []))) := by
  have h1 : Sm 60 (.lst (bs.map encB)) := by
    simp only [Sm]
    exact Sms_iff.mpr fun d hd => by
      obtain ⟨x, _, rfl⟩ := List.mem_map.mp hd
      simp [encB, Sm, Sms]
  rw [gEq_sm h1 (by simp [Sm, Sms])]
  congr 2
  cases bs with
  | nil => simp
  | cons b bs => simp
theorem last_arg (bs : List P2) (δ : En) (h : δ[2]? = some (some (.lst (bs.map encB)))) (s : S) : cIf (cPk (cTst (cOp gNe (cVar 2) (cLst cNil)))) (cScal (cOp gIx (cOp gIx (cVar 2) (cUn gNeg (cC (.int 1)))) (cC (.int 0)))) (cUn gNeg (cC (.int 1))) δ s = .ok (.int (lastW bs)) s := by
  rcases List.eq_nil_or_concat bs with e | ⟨pre, x, e⟩
  · subst e
    have h' := ne_nil []
    simp only [List.map_nil] at h h'
    simp -implicitDefEqProofs [h, h', lastW]
  · rw [List.concat_eq_append] at e
    have h' := ne_nil bs
    have hx : atI (bs.map encB) (-1) = some (encB x) := by rw [e, at_m1]; simp
    have hl : lastW bs = x.1 := by rw [e]; simp [lastW]
    have hn : decide (bs ≠ []) = true := by rw [e]; simp
    simp -implicitDefEqProofs only [e_if, e_pk, e_tst, e_op, e_var, h, Option.join_some, lift_some, bind_ok, e_lst, e_nil, List.length_nil, Nat.zero_le, if_true, h', hn, g_asB, calm_ok, e_scal, e_un, e_c, g_neg, g_ixL, hx, encB, g_ixT, at_0, List.getElem?_cons_zero, hl, PV.scal, if_true]
def W5 (ws : List (List Nat)) : Prop := ∀ w ∈ ws, w.length ≤ 99000
theorem buyer_for {full : List (List Nat)} (hw : W5 full) (line : Int) : ∀ (rest pre : List (List Nat)) (done : List P2) (d3 d4 : Option D) (s : S), full = pre ++ rest → done.length ≤ 5 →
    (∀ e, buyL line done pre.length rest = .error e → forL (tgName 3) l1_buyer_in (upto pre.length rest.length) [some (rowD full), some (.int line), some (.lst (done.map encB)), d3, d4] s = erO e.1 e.2 s) ∧
    (∀ bs, buyL line done pre.length rest = .ok bs → ∃ e3 e4, forL (tgName 3) l1_buyer_in (upto pre.length rest.length) [some (rowD full), some (.int line), some (.lst (done.map encB)), d3, d4] s = .ok (.next [some (rowD full), some (.int line), some (.lst (bs.map encB)), e3, e4]) s)
  | [], pre, done, d3, d4, s, _, _ => ⟨fun e h => by simp [buyL] at h, fun bs h => by
    have h : done = bs := by simpa [buyL] using h
    subst h; exact ⟨d3, d4, rfl⟩⟩
  | w :: ws, pre, done, d3, d4, s, hf, hd => by
    rw [List.length_cons, upto_cons, forL]
    rw [show tgName 3 (D.int (pre.length : Int)) [some (rowD full), some (.int line), some (.lst (done.map encB)), d3, d4] = some [some (rowD full), some (.int line), some (.lst (done.map encB)), some (.int (pre.length : Int)), d4] from rfl, lift_some, bind_ok]
    have hix : gIx (rowD full) (.int (pre.length : Int)) = some (sD w) := by
      unfold rowD
      rw [g_ixL, at_nat, hf]; simp
    have hwl := hw w (by rw [hf]; simp)
    have hp := pair_in_is w (by omega) (lastW done)
    have hl : ∀ s, cIf (cPk (cTst (cOp gNe (cVar 2) (cLst cNil)))) (cScal (cOp gIx (cOp gIx (cVar 2) (cUn gNeg (cC (.int 1)))) (cC (.int 0)))) (cUn gNeg (cC (.int 1))) [some (rowD full), some (.int line), some (.lst (done.map encB)), some (.int (pre.length : Int)), d4] s = .ok (.int (lastW done)) s := fun s => last_arg done _ rfl s
    unfold buyL
    cases hq : pairIn w (lastW done) with
    | none =>
      rw [hq] at hp
      have hp : ∀ s, f_pair_in [sD w, .int (lastW done)] s = .ok .non s := hp
      have key : l1_buyer_in [some (rowD full), some (.int line), some (.lst (done.map encB)), some (.int (pre.length : Int)), d4] s = erO line (pre.length + 1) s := by
        unfold l1_buyer_in
        simp -implicitDefEqProofs only [e_seq, e_q, e_set, e_call, e_cons, e_op, e_var, List.getElem?_cons_succ, List.getElem?_cons_zero, Option.join_some, lift_some, bind_ok, hix, hl, e_nil, List.length_cons, List.length_nil, if_true, hp, List.set_cons_succ, List.set_cons_zero, quiet_ok, e_ite, e_or, e_tst, e_c, isN_non, isNon1, g_asB, e_raise2, g_add, quiet_ok, List.reverse_cons, List.reverse_nil, List.nil_append, List.singleton_append, erO]
        try rfl
      refine ⟨fun e h => ?_, fun bs h => by simp at h⟩
      simp only [Except.error.injEq] at h
      subst h
      rw [key]; rfl
    | some x =>
      rw [hq] at hp
      have hp : ∀ s, f_pair_in [sD w, .int (lastW done)] s = .ok (encB x) s := hp
      have isN : isNonB (encB x) = false := rfl
      by_cases h5 : done.length = 5
      · have key : l1_buyer_in [some (rowD full), some (.int line), some (.lst (done.map encB)), some (.int (pre.length : Int)), d4] s = erO line (pre.length + 1) s := by
          unfold l1_buyer_in
          simp -implicitDefEqProofs only [e_seq, e_q, e_set, e_call, e_cons, e_op, e_var, List.getElem?_cons_succ, List.getElem?_cons_zero, Option.join_some, lift_some, bind_ok, hix, hl, e_nil, List.length_cons, List.length_nil, if_true, hp, List.set_cons_succ, List.set_cons_zero, quiet_ok, e_ite, e_or, e_tst, e_c, isN_non, isN, g_asB, Bool.false_eq_true, if_false, e_pk, e_b, g_lenL, List.length_map, h5, g_eqI, decide_true, calm_ok, e_raise2, g_add, List.reverse_cons, List.reverse_nil, List.nil_append, List.singleton_append, erO, Int.cast_ofNat_Int]
          try rfl
        simp only [h5, if_true]
        refine ⟨fun e h => ?_, fun bs h => by simp at h⟩
        simp only [Except.error.injEq] at h
        subst h
        rw [key]; rfl
      · have hi : ¬ ((done.length : Int) = 5) := by omega
        have key : l1_buyer_in [some (rowD full), some (.int line), some (.lst (done.map encB)), some (.int (pre.length : Int)), d4] s = .ok (.next [some (rowD full), some (.int line), some (.lst ((done ++ [x]).map encB)), some (.int (pre.length : Int)), some (encB x)]) s := by
          unfold l1_buyer_in
          have hc : done.length < 100000 := by omega
          simp -implicitDefEqProofs only [e_seq, e_q, e_set, e_call, e_cons, e_op, e_var, List.getElem?_cons_succ, List.getElem?_cons_zero, Option.join_some, lift_some, bind_ok, hix, hl, e_nil, List.length_cons, List.length_nil, if_true, hp, List.set_cons_succ, List.set_cons_zero, quiet_ok, e_ite, e_or, e_tst, e_c, isN_non, isN, g_asB, Bool.false_eq_true, if_false, e_pk, e_b, g_lenL, List.length_map, g_eqI, hi, decide_false, calm_ok, e_next, e_app, ow_eq, Option.bind_some, g_asLst, hc, List.map_append, List.map_cons, List.map_nil]
        rw [key, bind_ok]
        simp only [h5, if_false]
        have ih := buyer_for hw line ws (pre ++ [w]) (done ++ [x]) (some (.int (pre.length : Int))) (some (encB x)) s (by rw [hf]; simp) (by simp; omega)
        have e1 : ((pre ++ [w]).length : Int) = (pre.length : Int) + 1 := by simp
        rw [e1] at ih
        exact ih
def buyerIn (line : Int) (ws : List (List Nat)) : Except Er (List P2) := match buyL line [] 1 ws.tail with
  | .error e => .error e
  | .ok [] => .error (line, 2)
  | .ok bs => .ok bs
def ofE {α : Type} (enc : α → D) (s : S) : Except Er α → Out D
  | .error e => erO e.1 e.2 s
  | .ok a => .ok (enc a) s
theorem buyL_len (line : Int) : ∀ (rest : List (List Nat)) (done : List P2) (a : Int) (bs : List P2), done.length ≤ 5 → buyL line done a rest = .ok bs → bs.length ≤ 5
  | [], done, a, bs, h, e => by cases e; exact h
  | w :: ws, done, a, bs, h, e => by
    unfold buyL at e
    split at e
    · cases e
    · split at e
      · cases e
      · exact buyL_len line ws _ _ bs (by simp; omega) e
theorem buyer_in_is {full : List (List Nat)} (hw : W5 full) (hf : full ≠ []) (hl : full.length ≤ 50000) (line : Int) (s : S) : f_buyer_in [rowD full, .int line] s = ofE buD s (buyerIn line full) := by
  match full, hf with
  | w0 :: ws, _ =>
    rw [u_buyer_in]; unfold b_buyer_in buyerIn
    have gL : gLen [rowD (w0 :: ws)] = some (.int ((w0 :: ws).length : Int)) := by unfold rowD; rw [g_lenL, List.length_map]
    have r2 : gR2 [.int 1, .int ((w0 :: ws).length : Int)] = some (upto ([w0].length : Int) ws.length) := by
      rw [List.length_cons] at hl ⊢
      rw [g_r2 _ _ (by omega)]
      congr 2
      omega
    have key := buyer_for hw line ws [w0] [] none none s rfl (by simp)
    obtain ⟨k1, k2⟩ := key
    rw [show ([w0].length : Int) = 1 from rfl] at k1 k2 r2
    rw [List.tail_cons]
    have hfor : ∀ (E : Out Fl), forL (tgName 3) l1_buyer_in (upto 1 ws.length) [some (rowD (w0 :: ws)), some (.int line), some (.lst []), none, none] s = E →
      cFor (cQ (cItA gR2 (cCons (cC (.int 1)) (cCons (cB gLen (cCons (cVar 0) cNil)) cNil)))) (tgName 3) l1_buyer_in [some (rowD (w0 :: ws)), some (.int line), some (.lst []), none, none] s = E := fun E h => by
      simp -implicitDefEqProofs only [e_q, e_for, e_itA, e_cons, e_c, e_b, e_var, List.getElem?_cons_zero, Option.join_some, lift_some, bind_ok, e_nil, gL, r2, quiet_ok]
      exact h
    cases hb : buyL line [] 1 ws with
    | error e =>
      have h := hfor _ (k1 e hb)
      simp -implicitDefEqProofs only [e_seq, e_q, e_setL, e_lstL, e_nil, bind_ok, List.length_nil, Nat.zero_le, if_true, quiet_ok, List.set_cons_succ, List.set_cons_zero, h, ofE, erO, bind_err, bind_stuck]
    | ok bs =>
      obtain ⟨e3, e4, hk⟩ := k2 bs hb
      have h := hfor _ hk
      have hlen := buyL_len line ws [] 1 bs (by simp) hb
      match bs, hlen with
      | [], _ =>
        have h' := eq_nil []
        simp only [List.map_nil] at h h'
        simp -implicitDefEqProofs only [e_seq, e_q, e_setL, e_lstL, e_nil, bind_ok, List.length_nil, Nat.zero_le, if_true, quiet_ok, List.set_cons_succ, List.set_cons_zero, h, e_ite, e_pk, e_tst, e_op, e_var, List.getElem?_cons_succ, List.getElem?_cons_zero, Option.join_some, lift_some, e_lst, h', decide_true, g_asB, calm_ok, e_raise2, e_cons, e_c, List.length_cons, List.reverse_cons, List.reverse_nil, List.nil_append, List.singleton_append, ofE, erO, bind_err, bind_stuck]
        try rfl
      | b :: bs, hlen =>
        have h' := eq_nil (b :: bs)
        simp only [List.map_cons] at h h'
        have hn : decide (b :: bs = []) = false := by simp
        rw [hn] at h'
        simp -implicitDefEqProofs only [e_seq, e_q, e_setL, e_lstL, e_nil, bind_ok, List.length_nil, Nat.zero_le, if_true, quiet_ok, List.set_cons_succ, List.set_cons_zero, h, e_ite, e_pk, e_tst, e_op, e_var, List.getElem?_cons_succ, List.getElem?_cons_zero, Option.join_some, lift_some, e_lst, h', g_asB, calm_ok, Bool.false_eq_true, if_false, e_next, e_ret, e_b, e_cons, g_tupL, ed_ret, ofE, buD, List.map_cons]

/-! ### one step at a time -/
section
variable {g g' : D → D → Option D} {fa fb fc : En → M D} {ba bb : En → M Bool} {δ : En} {s : S} {a b c d : D} {r r' : Bool}
theorem op_r (ha : fa δ s = .ok a s) (hb : fb δ s = .ok b s) (h : g a b = some d) : cOp g fa fb δ s = .ok d s := by rw [e_op, ha, bind_ok, hb, bind_ok, h]; rfl
theorem tst_op (ha : fa δ s = .ok a s) (hb : fb δ s = .ok b s) (h : g a b = some (.bl r)) : cTst (cOp g fa fb) δ s = .ok r s := by rw [e_tst, op_r ha hb h]; rfl
theorem or_t (ha : ba δ s = .ok true s) : cOr ba bb δ s = .ok true s := by rw [e_or, ha]; rfl
theorem or_f (ha : ba δ s = .ok false s) (hb : bb δ s = .ok r s) : cOr ba bb δ s = .ok r s := by rw [e_or, ha, bind_ok, if_neg (by decide)]; exact hb
theorem not_r (ha : ba δ s = .ok r s) : cNot ba δ s = .ok (!r) s := by rw [e_not, ha]; rfl
theorem pk_r (ha : ba δ s = .ok r s) : cPk ba δ s = .ok r s := by rw [e_pk, ha]; rfl
theorem tst_r (ha : fa δ s = .ok (.bl r) s) : cTst fa δ s = .ok r s := by rw [e_tst, ha]; rfl
theorem chain_f (ha : fa δ s = .ok a s) (hb : fb δ s = .ok b s) (h : g a b = some (.bl false)) : cChain g g' fa fb fc δ s = .ok (.bl false) s := by rw [e_chain, ha, bind_ok, hb, bind_ok, h]; rfl
theorem chain_t (ha : fa δ s = .ok a s) (hb : fb δ s = .ok b s) (h : g a b = some (.bl true)) (hc : fc δ s = .ok c s) (h' : g' b c = some d) : cChain g g' fa fb fc δ s = .ok d s := by
  rw [e_chain, ha, bind_ok, hb, bind_ok, h, lift_some, bind_ok, g_asB, lift_some, bind_ok, if_pos rfl, hc, bind_ok, h']; rfl
theorem call1_r {F : List D → M D} (ha : fa δ s = .ok a s) (h : F [a] s = .ok d s) : cCall 1 F (cCons fa cNil) δ s = .ok d s := by
  rw [e_call, e_cons, ha, bind_ok, e_nil, bind_ok, bind_ok, if_pos (show [a].length = 1 from rfl)]; exact h
theorem call2_r {F : List D → M D} (ha : fa δ s = .ok a s) (hb : fb δ s = .ok b s) (h : F [a, b] s = .ok d s) : cCall 2 F (cCons fa (cCons fb cNil)) δ s = .ok d s := by
  rw [e_call, e_cons, ha, bind_ok, e_cons, hb, bind_ok, e_nil, bind_ok, bind_ok, bind_ok, if_pos (show [a, b].length = 2 from rfl)]; exact h
theorem b1_r {h : List D → Option D} (ha : fa δ s = .ok a s) (e : h [a] = some d) : cB h (cCons fa cNil) δ s = .ok d s := by
  rw [e_b, e_cons, ha, bind_ok, e_nil, bind_ok, bind_ok, e]; rfl
theorem lst0_r : cLst cNil δ s = .ok (.lst []) s := by rw [e_lst, e_nil, bind_ok]; rfl
theorem lst1_r (ha : fa δ s = .ok a s) : cLst (cCons fa cNil) δ s = .ok (.lst [a]) s := by
  rw [e_lst, e_cons, ha, bind_ok, e_nil, bind_ok, bind_ok]; rfl
theorem sl_to {n : Int} (ha : fa δ s = .ok a s) (h : gSl a none (some n) = some d) : cSl fa cNo (cPart (cC (.int n))) δ s = .ok d s := by
  rw [e_sl, ha, bind_ok, e_no, bind_ok, e_part, e_c, bind_ok, g_asI, lift_some, bind_ok, bind_ok, h]; rfl
end

/-! ### the whole text -/
def WOk (ws : List (List Nat)) : Prop := ∀ w ∈ ws, Asc w ∧ w.length ≤ 99000
theorem WOk.w5 {ws : List (List Nat)} (h : WOk ws) : W5 ws := fun w hw => (h w hw).2
def thW : List Nat := TL.tl ("things" : Str)
def buW : List Nat := TL.tl ("buyer" : Str)
theorem thW_asc : ∀ w ∈ [thW], Asc w := by
  have : thW = [116, 104, 105, 110, 103, 115] := by decide +kernel
  rw [this]; simp [Asc]
theorem buW_asc : ∀ w ∈ [buW], Asc w := by
  have : buW = [98, 117, 121, 101, 114] := by decide +kernel
  rw [this]; simp [Asc]
theorem lit_th : D.str "things" = sD thW := (sD_tl _).symm
theorem lit_bu : D.str "buyer" = sD buW := (sD_tl _).symm
theorem lit_e : D.str "" = sD [] := by
  have : TL.tl ("" : Str) = [] := by decide +kernel
  rw [← this, sD_tl]
theorem take1_asc {ws : List (List Nat)} (h : WOk ws) : ∀ w ∈ ws.take 1, Asc w := fun w hw => (h w (List.mem_of_mem_take hw)).1
theorem sl1 (ws : List (List Nat)) : gSl (rowD ws) none (some 1) = some (.lst ((ws.take 1).map sD)) := by
  show some (D.lst (cutD (ws.map sD) none (some 1))) = _
  rw [cut_to' _ 1 (by decide), List.map_take]; rfl
theorem ne_th {ws : List (List Nat)} (h : WOk ws) : gNe (.lst ((ws.take 1).map sD)) (.lst [sD thW]) = some (.bl (!decide (ws.take 1 = [thW]))) := g_neL _ [thW] (take1_asc h) thW_asc
theorem ne_bu {ws : List (List Nat)} (h : WOk ws) : gNe (.lst ((ws.take 1).map sD)) (.lst [sD buW]) = some (.bl (!decide (ws.take 1 = [buW]))) := g_neL _ [buW] (take1_asc h) buW_asc
def thingsIn (ws : List (List Nat)) : Except Er Int := if ws.take 1 = [thW] then
    match ws with
    | [_, w] => if 1 ≤ numIn w ∧ numIn w ≤ 3 then .ok (numIn w) else .error (1, 2)
    | _ :: w :: _ :: _ => if 1 ≤ numIn w ∧ numIn w ≤ 3 then .error (1, 3) else .error (1, 2)
    | _ => .error (1, 2)
  else .error (1, 1)
theorem things_in_is {ws : List (List Nat)} (h : WOk ws) (s : S) : f_things_in [rowD ws] s = ofE D.int s (thingsIn ws) := by
  rw [u_things_in]; unfold b_things_in thingsIn
  have v0 : ∀ s, cVar 0 [some (rowD ws)] s = .ok (rowD ws) s := fun _ => rfl
  have t1 : ∀ s, cTst (cOp gNe (cSl (cVar 0) cNo (cPart (cC (.int 1)))) (cLst (cCons (cC (.str "things")) cNil))) [some (rowD ws)] s = .ok (!decide (ws.take 1 = [thW])) s :=
    fun s => tst_op (sl_to (v0 s) (sl1 ws)) (lst1_r (by rw [e_c, lit_th])) (ne_th h)
  have gL : gLen [rowD ws] = some (.int (ws.length : Int)) := by unfold rowD; rw [g_lenL, List.length_map]
  have t2 : ∀ s, cTst (cOp gLt (cB gLen (cCons (cVar 0) cNil)) (cC (.int 2))) [some (rowD ws)] s = .ok (decide ((ws.length : Int) < 2)) s := fun s => tst_op (b1_r (v0 s) gL) rfl rfl
  have t4 : ∀ s, cTst (cOp gGt (cB gLen (cCons (cVar 0) cNil)) (cC (.int 2))) [some (rowD ws)] s = .ok (decide ((2 : Int) < ws.length)) s := fun s => tst_op (b1_r (v0 s) gL) rfl rfl
  by_cases c1 : ws.take 1 = [thW]
  · rw [if_pos c1]
    rw [decide_eq_true c1] at t1
    have num : ∀ (w : List Nat), w.length ≤ 99000 → gIx (rowD ws) (.int 1) = some (sD w) → (∀ s, cCall 1 f_number_in (cCons (cOp gIx (cVar 0) (cC (.int 1))) cNil) [some (rowD ws)] s = .ok (.int (numIn w)) s) ∧ (∀ s, cTst (cChain gLe gLe (cC (.int 1)) (cCall 1 f_number_in (cCons (cOp gIx (cVar 0) (cC (.int 1))) cNil)) (cC (.int 3))) [some (rowD ws)] s = .ok (decide (1 ≤ numIn w ∧ numIn w ≤ 3)) s) := fun w hw hi => by
      have a1 : ∀ s, cCall 1 f_number_in (cCons (cOp gIx (cVar 0) (cC (.int 1))) cNil) [some (rowD ws)] s = .ok (.int (numIn w)) s := fun s => call1_r (op_r (v0 s) rfl hi) (number_in_is w (by omega) s)
      refine ⟨a1, fun s => tst_r ?_⟩
      by_cases n1 : 1 ≤ numIn w
      · refine chain_t (rfl : cC (.int 1) _ s = _) (a1 s) (by rw [g_le, decide_eq_true n1]) rfl ?_
        rw [g_le]
        congr 2
        simp [n1]
      · rw [decide_eq_false (fun z => n1 z.1)]
        exact chain_f (rfl : cC (.int 1) _ s = _) (a1 s) (by rw [g_le, decide_eq_false n1])
    match ws, h with
    | [], _ => simp at c1
    | [a], h =>
      have t3 := fun s => or_t (bb := cNot (cTst (cChain gLe gLe (cC (.int 1)) (cCall 1 f_number_in (cCons (cOp gIx (cVar 0) (cC (.int 1))) cNil)) (cC (.int 3))))) (t2 s)
      simp -implicitDefEqProofs only [e_seq, e_q, e_ite, t1, quiet_ok, bind_ok, Bool.not_true, Bool.false_eq_true, if_false, e_next, t3, if_true, e_raise2, e_cons, e_c, e_nil, ofE, erO, List.length_cons, List.length_nil, List.reverse_cons, List.reverse_nil, List.nil_append, List.singleton_append]
      try rfl
    | [a, w], h =>
      obtain ⟨n1, n2⟩ := num w (h w (by simp)).2 (by unfold rowD; rw [g_ixL, at_1]; rfl)
      have hlt : decide ((([a, w].length : Nat) : Int) < 2) = false := rfl
      have hgt : decide ((2 : Int) < ([a, w].length : Nat)) = false := rfl
      rw [hlt] at t2
      rw [hgt] at t4
      have t3 := fun s => or_f (t2 s) (not_r (n2 s))
      by_cases n : 1 ≤ numIn w ∧ numIn w ≤ 3
      · rw [decide_eq_true n] at t3
        simp -implicitDefEqProofs only [if_pos n, e_seq, e_q, e_ite, t1, quiet_ok, bind_ok, Bool.not_true, Bool.false_eq_true, if_false, e_next, t3, t4, e_ret, n1, ed_ret, ofE]
      · rw [decide_eq_false n] at t3
        simp -implicitDefEqProofs only [if_neg n, e_seq, e_q, e_ite, t1, quiet_ok, bind_ok, Bool.not_true, Bool.not_false, Bool.false_eq_true, if_false, e_next, t3, if_true, e_raise2, e_cons, e_c, e_nil, ofE, erO, List.length_cons, List.length_nil, List.reverse_cons, List.reverse_nil, List.nil_append, List.singleton_append]
        try rfl
    | a :: w :: b :: t, h =>
      obtain ⟨n1, n2⟩ := num w (h w (by simp)).2 (by unfold rowD; rw [g_ixL, at_1]; rfl)
      have hlt : decide ((((a :: w :: b :: t).length : Nat) : Int) < 2) = false := by simp; omega
      have hgt : decide ((2 : Int) < ((a :: w :: b :: t).length : Nat)) = true := by simp; omega
      rw [hlt] at t2
      rw [hgt] at t4
      have t3 := fun s => or_f (t2 s) (not_r (n2 s))
      by_cases n : 1 ≤ numIn w ∧ numIn w ≤ 3
      · rw [decide_eq_true n] at t3
        simp -implicitDefEqProofs only [if_pos n, e_seq, e_q, e_ite, t1, quiet_ok, bind_ok, Bool.not_true, Bool.false_eq_true, if_false, e_next, t3, t4, if_true, e_raise2, e_cons, e_c, e_nil, ofE, erO, List.length_cons, List.length_nil, List.reverse_cons, List.reverse_nil, List.nil_append, List.singleton_append]
        try rfl
      · rw [decide_eq_false n] at t3
        simp -implicitDefEqProofs only [if_neg n, e_seq, e_q, e_ite, t1, quiet_ok, bind_ok, Bool.not_true, Bool.not_false, Bool.false_eq_true, if_false, e_next, t3, if_true, e_raise2, e_cons, e_c, e_nil, ofE, erO, List.length_cons, List.length_nil, List.reverse_cons, List.reverse_nil, List.nil_append, List.singleton_append]
        try rfl
  · rw [if_neg c1]
    rw [decide_eq_false c1] at t1
    simp -implicitDefEqProofs only [e_seq, e_q, e_ite, t1, quiet_ok, bind_ok, Bool.not_false, if_true, e_raise2, e_cons, e_c, e_nil, ofE, erO, List.length_cons, List.length_nil, List.reverse_cons, List.reverse_nil, List.nil_append, List.singleton_append]
    try rfl

/-! ### lines and words -/
def wrds (l : List Nat) : List (List Nat) := (splC 32 [] l).filter fun w => !decide (w = [])
def rowsOf (l : List Nat) : List (List (List Nat)) := (splC 10 [] l).map wrds
theorem splC_mem (c : Nat) : ∀ (l acc : List Nat), ∀ p ∈ splC c acc l, ∀ d ∈ p, d ∈ acc ∨ d ∈ l
  | [], acc, p, h, d, hd => by
    have : p = acc := by simpa [splC] using h
    subst this; exact .inl hd
  | e :: r, acc, p, h, d, hd => by
    rw [splC_cons] at h
    split at h
    · rcases List.mem_cons.mp h with rfl | h
      · exact .inl hd
      · rcases splC_mem c r [] p h d hd with q | q
        · cases q
        · exact .inr (by simp [q])
    · rcases splC_mem c r (acc ++ [e]) p h d hd with q | q
      · rcases List.mem_append.mp q with q | q
        · exact .inl q
        · exact .inr (by have : d = e := by simpa using q
                         simp [this])
      · exact .inr (by simp [q])
theorem splC_asc {c : Nat} {l : List Nat} (h : Asc l) : ∀ p ∈ splC c [] l, Asc p := fun p hp d hd => by
  rcases splC_mem c l [] p hp d hd with q | q
  · cases q
  · exact h d q
theorem wrds_ok {l : List Nat} (h : Asc l) (hl : l.length ≤ 99000) : WOk (wrds l) := fun w hw => by
  have hw := (List.mem_filter.mp hw).1
  have := splC_len 32 l [] w hw
  exact ⟨splC_asc h w hw, by simp at this; omega⟩
theorem rows_ok {l : List Nat} (h : Asc l) (hl : l.length ≤ 99000) : ∀ ws ∈ rowsOf l, WOk ws ∧ ws.length ≤ 99001 := fun ws hw => by
  obtain ⟨p, hp, rfl⟩ := List.mem_map.mp hw
  have h1 := splC_len 10 l [] p hp
  simp at h1
  have h2 := splC_many 32 p []
  have h3 : (wrds p).length ≤ (splC 32 [] p).length := List.length_filter_le ..
  exact ⟨wrds_ok (splC_asc h p hp) (by omega), by omega⟩
theorem sp_tl : TL.tl (" " : Str) = [32] := by decide +kernel
theorem sp_k : (" " : Str).cps.all (· < 256) = true := by decide +kernel
theorem nl_tl : TL.tl ("\n" : Str) = [10] := by decide +kernel
theorem nl_k : ("\n" : Str).cps.all (· < 256) = true := by decide +kernel
theorem words_comp {l : List Nat} (h : Asc l) (hl : l.length ≤ 99000) {δ : En} (h2 : 2 < δ.length) (s : S) : compL (tgName 2) (cTst (cOp gNe (cVar 2) (cC (.str "")))) (cVar 2) δ ((splC 32 [] l).map sD) s = .ok ((wrds l).map sD) s :=
  comp_pure (enc := sD) (p := fun w => !decide (w = [])) (e := sD) fun w hw => ⟨_, rfl, fun s => by
    have hg : (δ.set 2 (some (sD w)))[2]? = some (some (sD w)) := by rw [List.getElem?_set_self h2]
    refine tst_op (a := sD w) (by rw [e_var, hg]; rfl) (rfl : cC (.str "") _ s = _) ?_
    rw [lit_e, ne_text w [] (splC_asc h w hw) (by simp [Asc])], fun _ s => by
    have hg : (δ.set 2 (some (sD w)))[2]? = some (some (sD w)) := by rw [List.getElem?_set_self h2]
    rw [e_var, hg]; rfl⟩
def lineC : En → M D := cLc [2] (cItU (cM1 gSplit (cVar 3) (cC (.str " ")))) (tgName 2) (cTst (cOp gNe (cVar 2) (cC (.str "")))) (cVar 2)
theorem line_is {l : List Nat} (h : Asc l) (hl : l.length ≤ 99000) {δ : En} (h2 : 3 < δ.length) (h3 : δ[3]? = some (some (sD l))) (s : S) : lineC δ s = .ok (rowD (wrds l)) s := by
  unfold lineC
  have e0 : asS (sD l) = some ⟨l.toArray⟩ := rfl
  have e1 := split_text sp_tl sp_k l (by omega)
  have hm := splC_many 32 l []
  rw [e_lc, e_itU, e_m1, e_var, h3]
  rw [show (some (some (sD l))).join = some (sD l) from rfl, lift_some, bind_ok, e0, lift_some, bind_ok, e_c, bind_ok, e1, lift_some, bind_ok, g_seqL, lift_some, bind_ok, if_pos (by rw [List.length_map]; omega)]
  rw [wp_cons, wp_nil, words_comp h hl (by rw [List.length_set]; omega)]; rfl
theorem rows_is {l : List Nat} (h : Asc l) (hl : l.length ≤ 99000) (s : S) : cLc [3] (cItU (cM1 gSplit (cVar 0) (cC (.str "\n")))) (tgName 3) cYes (cLc [2] (cItU (cM1 gSplit (cVar 3) (cC (.str " ")))) (tgName 2) (cTst (cOp gNe (cVar 2) (cC (.str "")))) (cVar 2)) [some (sD l), none, none, none, none, none, none] s = .ok (.lst ((rowsOf l).map rowD)) s := by
  have e0 : asS (sD l) = some ⟨l.toArray⟩ := rfl
  have e1 := split_text nl_tl nl_k l (by omega)
  have hm := splC_many 10 l []
  rw [e_lc, e_itU, e_m1, e_var]
  rw [show ([some (sD l), none, none, none, none, none, none] : En)[0]?.join = some (sD l) from rfl, lift_some, bind_ok, e0, lift_some, bind_ok, e_c, bind_ok, e1, lift_some, bind_ok, g_seqL, lift_some, bind_ok, if_pos (by rw [List.length_map]; omega)]
  have key := comp_map (tg := tgName 3) (f := lineC) (δ := [some (sD l), none, none, none, none, none, none]) (enc := sD) (e := fun p => rowD (wrds p)) (xs := splC 10 [] l) (s := s) fun p hp => ⟨_, rfl, fun s => line_is (splC_asc h p hp) (by have := splC_len 10 l [] p hp; simp at this; omega) (by simp) rfl s⟩
  show (compL (tgName 3) cYes lineC _ ((splC 10 [] l).map sD) s).bind _ = _
  rw [wp_cons, wp_nil]
  show (compL (tgName 3) cYes lineC [some (sD l), none, none, none, none, none, none] ((splC 10 [] l).map sD) s).bind _ = _
  rw [key, bind_ok]
  unfold rowsOf
  rw [List.map_map]; rfl
/-! ### the buyers -/
def rdL : List (List P2) → Int → List (List (List Nat)) → Except Er (List (List P2))
  | crowd, _, [] => .ok crowd
  | crowd, a, r :: rs => if r.take 1 = [buW] ∧ crowd.length ≠ 4 then
      match buyerIn (a + 1) r with
      | .error e => .error e
      | .ok b => rdL (crowd ++ [b]) (a + 1) rs
    else .error (a + 1, 1)
theorem read_for {full : List (List (List Nat))} (hw : ∀ ws ∈ full, WOk ws ∧ ws.length ≤ 50000) (t : D) (m : D) (d2 d3 : Option D) : ∀ (rest pre : List (List (List Nat))) (crowd : List (List P2)) (d6 : Option D) (s : S), full = pre ++ rest → crowd.length ≤ 4 →
    (∀ e, rdL crowd pre.length rest = .error e → forL (tgName 6) l1_read (upto pre.length rest.length) [some t, some (.lst (full.map rowD)), d2, d3, some m, some (.lst (crowd.map buD)), d6] s = erO e.1 e.2 s) ∧
    (∀ bs, rdL crowd pre.length rest = .ok bs → ∃ e6, forL (tgName 6) l1_read (upto pre.length rest.length) [some t, some (.lst (full.map rowD)), d2, d3, some m, some (.lst (crowd.map buD)), d6] s = .ok (.next [some t, some (.lst (full.map rowD)), d2, d3, some m, some (.lst (bs.map buD)), e6]) s)
  | [], pre, crowd, d6, s, _, _ => ⟨fun e h => by simp [rdL] at h, fun bs h => by
    have h : crowd = bs := by simpa [rdL] using h
    subst h; exact ⟨d6, rfl⟩⟩
  | r :: rs, pre, crowd, d6, s, hf, hd => by
    rw [List.length_cons, upto_cons, forL]
    rw [show tgName 6 (D.int (pre.length : Int)) [some t, some (.lst (full.map rowD)), d2, d3, some m, some (.lst (crowd.map buD)), d6] = some [some t, some (.lst (full.map rowD)), d2, d3, some m, some (.lst (crowd.map buD)), some (.int (pre.length : Int))] from rfl, lift_some, bind_ok]
    have hix : gIx (.lst (full.map rowD)) (.int (pre.length : Int)) = some (rowD r) := by
      rw [g_ixL, at_nat, hf]; simp
    obtain ⟨hr, hrl⟩ := hw r (by rw [hf]; simp)
    let δ : En := [some t, some (.lst (full.map rowD)), d2, d3, some m, some (.lst (crowd.map buD)), some (.int (pre.length : Int))]
    have x1 : ∀ s, cOp gIx (cVar 1) (cVar 6) δ s = .ok (rowD r) s := fun s => op_r rfl rfl hix
    have x2 : ∀ s, cOp gAdd (cVar 6) (cC (.int 1)) δ s = .ok (.int (pre.length + 1)) s := fun s => op_r rfl rfl (g_add _ _)
    have t1 : ∀ s, cTst (cOp gNe (cSl (cOp gIx (cVar 1) (cVar 6)) cNo (cPart (cC (.int 1)))) (cLst (cCons (cC (.str "buyer")) cNil))) δ s = .ok (!decide (r.take 1 = [buW])) s :=
      fun s => tst_op (sl_to (x1 s) (sl1 r)) (lst1_r (by rw [e_c, lit_bu])) (ne_bu hr)
    have t2 : ∀ s, cPk (cTst (cOp gEq (cB gLen (cCons (cVar 5) cNil)) (cC (.int 4)))) δ s = .ok (decide (crowd.length = 4)) s := fun s => pk_r (tst_op (b1_r (a := .lst (crowd.map buD)) rfl (g_lenL _)) rfl (by
      rw [g_eqI, List.length_map]
      congr 2
      exact decide_eq_decide.mpr (by omega)))
    have t3 : ∀ s, cOr (cTst (cOp gNe (cSl (cOp gIx (cVar 1) (cVar 6)) cNo (cPart (cC (.int 1)))) (cLst (cCons (cC (.str "buyer")) cNil)))) (cPk (cTst (cOp gEq (cB gLen (cCons (cVar 5) cNil)) (cC (.int 4))))) δ s = .ok (!decide (r.take 1 = [buW] ∧ crowd.length ≠ 4)) s := fun s => by
      by_cases c1 : r.take 1 = [buW]
      · by_cases c2 : crowd.length = 4
        · rw [decide_eq_false (fun z => z.2 c2)]
          rw [decide_eq_true c1] at t1
          rw [decide_eq_true c2] at t2
          exact or_f (t1 s) (t2 s)
        · rw [decide_eq_true ⟨c1, c2⟩]
          rw [decide_eq_true c1] at t1
          rw [decide_eq_false c2] at t2
          exact or_f (t1 s) (t2 s)
      · rw [decide_eq_false (fun z => c1 z.1)]
        rw [decide_eq_false c1] at t1
        exact or_t (t1 s)
    unfold rdL
    by_cases c : r.take 1 = [buW] ∧ crowd.length ≠ 4
    · rw [decide_eq_true c] at t3
      have hne : r ≠ [] := by intro z; rw [z] at c; simp at c
      have hb := buyer_in_is hr.w5 hne hrl (pre.length + 1)
      have cl : ∀ s, cCall 2 f_buyer_in (cCons (cQ (cOp gIx (cVar 1) (cVar 6))) (cCons (cQ (cOp gAdd (cVar 6) (cC (.int 1)))) cNil)) δ s = ofE buD s (buyerIn (pre.length + 1) r) := fun s => by
        rw [e_call, e_cons, e_q, x1, quiet_ok, bind_ok, e_cons, e_q, x2, quiet_ok, bind_ok, e_nil, bind_ok, bind_ok, bind_ok, if_pos (show [rowD r, D.int (pre.length + 1)].length = 2 from rfl)]
        exact hb s
      have key : l1_read δ s = (ofE buD s (buyerIn (pre.length + 1) r)).bind fun b s1 => .ok (.next [some t, some (.lst (full.map rowD)), d2, d3, some m, some (.lst (crowd.map buD ++ [b])), some (.int (pre.length : Int))]) s1 := by
        have hc : (crowd.map buD).length < 100000 := by rw [List.length_map]; omega
        unfold l1_read
        rw [e_seq, e_ite, e_q, t3, quiet_ok, bind_ok, if_neg (by simp), e_next, bind_ok]
        show cApp 5 _ δ s = _
        rw [e_app, ow_eq, show (δ[5]?.join.bind asLst) = some (crowd.map buD) from rfl, lift_some, bind_ok, cl]
        cases ofE buD s (buyerIn (pre.length + 1) r) with
        | ok b s1 => rw [bind_ok, bind_ok, if_pos hc]; rfl
        | err => rfl
        | stuck => rfl
      show (∀ e, _ → (l1_read δ s).bind _ = _) ∧ (∀ bs, _ → ∃ e6, (l1_read δ s).bind _ = _)
      rw [key]
      cases hq : buyerIn (pre.length + 1) r with
      | error e =>
        simp only [if_pos c, hq]
        refine ⟨fun e' h => ?_, fun bs h => by simp at h⟩
        simp only [Except.error.injEq] at h
        subst h
        rfl
      | ok b =>
        simp only [if_pos c, hq]
        have ih := read_for hw t m d2 d3 rs (pre ++ [r]) (crowd ++ [b]) (some (.int (pre.length : Int))) s (by rw [hf]; simp) (by have := c.2; simp; omega)
        have e1 : ((pre ++ [r]).length : Int) = (pre.length : Int) + 1 := by simp
        rw [e1, List.map_append] at ih
        exact ih
    · rw [decide_eq_false c] at t3
      have key : l1_read δ s = erO (pre.length + 1) 1 s := by
        unfold l1_read
        simp -implicitDefEqProofs only [e_seq, e_q, e_ite, t3, quiet_ok, bind_ok, Bool.not_false, if_true, e_raise2, e_cons, x2, e_c, e_nil, erO, List.length_cons, List.length_nil, List.reverse_cons, List.reverse_nil, List.nil_append, List.singleton_append]
        try rfl
      show (∀ e, _ → (l1_read δ s).bind _ = _) ∧ (∀ bs, _ → ∃ e6, (l1_read δ s).bind _ = _)
      rw [key]
      simp only [if_neg c]
      refine ⟨fun e' h => ?_, fun bs h => by simp at h⟩
      simp only [Except.error.injEq] at h
      subst h
      rfl

/-! ### what is read is a sale -/
def PO (y : P2) : Prop := 0 ≤ y.1 ∧ y.1 ≤ 1000000000 ∧ 1 ≤ y.2 ∧ y.2 ≤ 1000000000
theorem pairIn_ok {l : List Nat} {b : Int} {x : P2} (hb : -1 ≤ b) (h : pairIn l b = some x) : b < x.1 ∧ PO x := by
  unfold pairIn at h
  split at h
  · rename_i p q _
    split at h
    · cases h
    · rename_i hc
      have h : (numIn p, numIn q) = x := by simpa using h
      subst h
      have h1 := numIn_ge p
      have h2 := numIn_ge q
      have a1 : ¬ numIn p ≤ b := fun z => hc (.inl z)
      have a2 : ¬ numIn q < 1 := fun z => hc (.inr z)
      exact ⟨by show b < numIn p; omega, by show 0 ≤ numIn p; omega, by show numIn p ≤ _; omega, by show 1 ≤ numIn q; omega, by show numIn q ≤ _; omega⟩
  · cases h
theorem lastW_ge {bs : List P2} (h : ∀ y ∈ bs, PO y) : -1 ≤ lastW bs := by
  unfold lastW
  cases e : bs.getLast? with
  | none => simp
  | some x =>
    have := (h x (List.mem_of_getLast? e)).1
    show -1 ≤ x.1
    omega
theorem le_lastW {bs : List P2} (h : bs.Pairwise fun a b => a.1 < b.1) : ∀ y ∈ bs, y.1 ≤ lastW bs := by
  rcases List.eq_nil_or_concat bs with e | ⟨pre, x, e⟩
  · subst e; simp
  · rw [List.concat_eq_append] at e
    subst e
    have hl : lastW (pre ++ [x]) = x.1 := by simp [lastW]
    rw [hl]
    intro y hy
    rcases List.mem_append.mp hy with q | q
    · have := (List.pairwise_append.mp h).2.2 y q x (by simp)
      omega
    · have : y = x := by simpa using q
      subst this; omega
theorem buyL_ok (line : Int) : ∀ (rest : List (List Nat)) (done : List P2) (a : Int) (bs : List P2), (∀ y ∈ done, PO y) → done.Pairwise (fun a b => a.1 < b.1) → buyL line done a rest = .ok bs → (∀ y ∈ bs, PO y) ∧ bs.Pairwise (fun a b => a.1 < b.1)
  | [], done, a, bs, h1, h2, e => by
    have e : done = bs := by simpa [buyL] using e
    subst e; exact ⟨h1, h2⟩
  | w :: ws, done, a, bs, h1, h2, e => by
    unfold buyL at e
    split at e
    · cases e
    · rename_i x hx
      split at e
      · cases e
      · obtain ⟨p1, p2⟩ := pairIn_ok (lastW_ge h1) hx
        refine buyL_ok line ws _ _ bs (fun y hy => ?_) (List.pairwise_append.mpr ⟨h2, by simp, fun y hy z hz => ?_⟩) e
        · rcases List.mem_append.mp hy with q | q
          · exact h1 y q
          · have : y = x := by simpa using q
            subst this; exact p2
        · have : z = x := by simpa using hz
          subst this
          have := le_lastW h2 y hy
          omega
theorem buyerIn_vu {line : Int} {ws : List (List Nat)} {b : List P2} (h : buyerIn line ws = .ok b) : VU b := by
  unfold buyerIn at h
  split at h
  · cases h
  · cases h
  · rename_i bs hne e
    have h : bs = b := by simpa using h
    subst h
    obtain ⟨h1, h2⟩ := buyL_ok line _ [] 1 bs (by simp) (by simp) e
    have h3 := buyL_len line _ [] 1 bs (by simp) e
    refine ⟨?_, h3, h1, h2⟩
    cases bs with
    | nil => exact absurd rfl (hne)
    | cons b bs => simp
theorem rdL_ok : ∀ (rest : List (List (List Nat))) (crowd : List (List P2)) (a : Int) (bs : List (List P2)), (∀ b ∈ crowd, VU b) → crowd.length ≤ 4 → rdL crowd a rest = .ok bs → (∀ b ∈ bs, VU b) ∧ bs.length ≤ 4
  | [], crowd, a, bs, h1, h2, e => by
    have e : crowd = bs := by simpa [rdL] using e
    subst e; exact ⟨h1, h2⟩
  | r :: rs, crowd, a, bs, h1, h2, e => by
    unfold rdL at e
    split at e
    · rename_i hc
      split at e
      · cases e
      · rename_i b hb
        refine rdL_ok rs _ _ bs (fun c hcm => ?_) (by have := hc.2; simp; omega) e
        rcases List.mem_append.mp hcm with q | q
        · exact h1 c q
        · have : c = b := by simpa using q
          subst this; exact buyerIn_vu hb
    · cases e
theorem thingsIn_ok {ws : List (List Nat)} {m : Int} (h : thingsIn ws = .ok m) : 1 ≤ m ∧ m ≤ 3 := by
  unfold thingsIn at h
  split at h
  · split at h
    · split at h
      · rename_i hc
        cases h; exact hc
      · cases h
    · split at h <;> cases h
    · cases h
  · cases h
def readR (rows : List (List (List Nat))) : Except Er (List (List P2) × Int) := match thingsIn (rows.headD []) with
  | .error e => .error e
  | .ok m => match rdL [] 1 rows.tail with
    | .error e => .error e
    | .ok [] => .error (rows.length + 1, 1)
    | .ok bs => .ok (bs, m)
theorem eq_nilB (bs : List (List P2)) : gEq (.lst (bs.map buD)) (.lst []) = some (.bl (decide (bs = []))) := by
  have h1 : Sm 60 (.lst (bs.map buD)) := by
    simp only [Sm]
    exact Sms_iff.mpr fun d hd => by
      obtain ⟨x, _, rfl⟩ := List.mem_map.mp hd
      unfold buD
      simp only [Sm]
      exact Sms_iff.mpr fun d hd => by
        obtain ⟨x, _, rfl⟩ := List.mem_map.mp hd
        simp [encB, Sm, Sms]
  rw [gEq_sm h1 (by simp [Sm, Sms])]
  congr 2
  cases bs with
  | nil => simp
  | cons b bs => simp
theorem read_is {l : List Nat} (ha : Asc l) (hl : l.length ≤ 49000) (s : S) : f_read [sD l] s = ofE (fun x => salD x.1 x.2) s (readR (rowsOf l)) := by
  have hok := rows_ok ha (by omega)
  have hlen : ∀ ws ∈ rowsOf l, WOk ws ∧ ws.length ≤ 50000 := fun ws hw => by
    obtain ⟨p, hp, e⟩ := List.mem_map.mp hw
    refine ⟨(hok ws hw).1, ?_⟩
    subst e
    have h1 := splC_len 10 l [] p hp
    simp at h1
    have h2 := splC_many 32 p []
    have h3 : (wrds p).length ≤ (splC 32 [] p).length := List.length_filter_le ..
    omega
  have hm : (rowsOf l).length ≤ 49001 := by
    have := splC_many 10 l []
    unfold rowsOf
    rw [List.length_map]; omega
  have hne : rowsOf l ≠ [] := by
    unfold rowsOf
    intro z
    have z := List.map_eq_nil_iff.mp z
    revert z
    cases l with
    | nil => simp [splC]
    | cons d r =>
      rw [splC_cons]
      split
      · simp
      · have : ∀ (r acc : List Nat), splC 10 acc r ≠ [] := by
          intro r
          induction r with
          | nil => intro acc; simp [splC]
          | cons e r ih => intro acc; rw [splC_cons]; split <;> simp [ih]
        exact this _ _
  rw [u_read]; unfold b_read
  have hR := rows_is ha (by omega)
  generalize rowsOf l = rows at hlen hm hne hR
  match rows, hne with
  | r0 :: rs, _ =>
    have hix : gIx (.lst ((r0 :: rs).map rowD)) (.int 0) = some (rowD r0) := by rw [g_ixL, at_0]; rfl
    let δ1 : En := [some (sD l), some (.lst ((r0 :: rs).map rowD)), none, none, none, none, none]
    have p0 : ∀ s, cPar (pCons [5] 4 (cV (cCall 1 f_things_in (cCons (cQ (cOp gIx (cVar 1) (cC (.int 0)))) cNil))) (pCons [5] 5 (cN (cQ (cLstL cNil))) pNil)) δ1 s = (ofE D.int s (thingsIn r0)).bind fun m s1 => .ok (.next [some (sD l), some (.lst ((r0 :: rs).map rowD)), none, none, some m, some (.lst []), none]) s1 := fun s => by
      have x1 : ∀ s, cOp gIx (cVar 1) (cC (.int 0)) δ1 s = .ok (rowD r0) s := fun s => op_r rfl rfl hix
      have c1 : cCall 1 f_things_in (cCons (cQ (cOp gIx (cVar 1) (cC (.int 0)))) cNil) δ1 s = ofE D.int s (thingsIn r0) := by
        rw [e_call, e_cons, e_q, x1, quiet_ok, bind_ok, e_nil, bind_ok, bind_ok, if_pos (show [rowD r0].length = 1 from rfl)]
        exact things_in_is (hlen r0 (by simp)).1 s
      rw [e_par, e_pcons, e_cV, c1]
      cases ofE D.int s (thingsIn r0) with
      | ok m s1 => rfl
      | err => rfl
      | stuck => rfl
    have s0 : ∀ s, cQ (cSet 1 (cLc [3] (cItU (cM1 gSplit (cVar 0) (cC (.str "\n")))) (tgName 3) cYes (cLc [2] (cItU (cM1 gSplit (cVar 3) (cC (.str " ")))) (tgName 2) (cTst (cOp gNe (cVar 2) (cC (.str "")))) (cVar 2)))) [some (sD l), none, none, none, none, none, none] s = .ok (.next δ1) s := fun s => by
      rw [e_q, e_set, hR, bind_ok]; rfl
    rw [e_seq, s0, bind_ok]
    dsimp only
    rw [e_seq, p0]
    unfold readR
    rw [List.headD_cons, List.tail_cons]
    cases hT : thingsIn r0 with
    | error e => simp only [ofE, erO, bind_err, bind_stuck]
    | ok m =>
      have hm13 := thingsIn_ok hT
      rw [show ofE D.int s (Except.ok m) = Out.ok (D.int m) s from rfl, bind_ok, bind_ok]
      dsimp only
      have gL : gLen [.lst ((r0 :: rs).map rowD)] = some (.int ((r0 :: rs).length : Int)) := by rw [g_lenL, List.length_map]
      have r2 : gR2 [.int 1, .int ((r0 :: rs).length : Int)] = some (upto ([r0].length : Int) rs.length) := by
        rw [List.length_cons] at hm ⊢
        rw [g_r2 _ _ (by omega)]
        congr 2
        omega
      obtain ⟨k1, k2⟩ := read_for hlen (sD l) (.int m) none none rs [r0] [] none s rfl (by simp)
      rw [show ([r0].length : Int) = 1 from rfl] at k1 k2 r2
      have hfor : ∀ (E : Out Fl), forL (tgName 6) l1_read (upto 1 rs.length) [some (sD l), some (.lst ((r0 :: rs).map rowD)), none, none, some (.int m), some (.lst []), none] s = E →
          cFor (cQ (cItA gR2 (cCons (cC (.int 1)) (cCons (cB gLen (cCons (cVar 1) cNil)) cNil)))) (tgName 6) l1_read [some (sD l), some (.lst ((r0 :: rs).map rowD)), none, none, some (.int m), some (.lst []), none] s = E := fun E h => by
        have q1 : cItA gR2 (cCons (cC (.int 1)) (cCons (cB gLen (cCons (cVar 1) cNil)) cNil)) [some (sD l), some (.lst ((r0 :: rs).map rowD)), none, none, some (.int m), some (.lst []), none] s = .ok (upto 1 rs.length) s := by
          rw [e_itA, e_cons, e_c, bind_ok, e_cons, b1_r (a := .lst ((r0 :: rs).map rowD)) rfl gL, bind_ok, e_nil, bind_ok, bind_ok, bind_ok, r2]; rfl
        rw [e_for, e_q, q1, quiet_ok, bind_ok]; exact h
      cases hb : rdL [] 1 rs with
      | error e =>
        rw [e_seq, hfor _ (k1 e hb)]; simp only [ofE, erO, bind_err, bind_stuck]
      | ok bs =>
        obtain ⟨e6, hk⟩ := k2 bs hb
        rw [e_seq, hfor _ hk, bind_ok]
        have hvs := rdL_ok rs [] 1 bs (by simp) (by simp) hb
        have t1 : ∀ s, cPk (cTst (cOp gEq (cVar 5) (cLst cNil))) [some (sD l), some (.lst ((r0 :: rs).map rowD)), none, none, some (.int m), some (.lst (bs.map buD)), e6] s = .ok (decide (bs = [])) s := fun s => pk_r (tst_op (a := .lst (bs.map buD)) rfl lst0_r (eq_nilB bs))
        match bs, hvs, t1 with
        | [], _, t1 =>
          rw [decide_eq_true rfl] at t1
          have gA : cOp gAdd (cB gLen (cCons (cVar 1) cNil)) (cC (.int 1)) [some (sD l), some (.lst ((r0 :: rs).map rowD)), none, none, some (.int m), some (.lst (([] : List (List P2)).map buD)), e6] s = .ok (.int ((r0 :: rs).length + 1)) s := op_r (b1_r (a := .lst ((r0 :: rs).map rowD)) rfl gL) rfl (g_add _ _)
          dsimp only
          rw [e_seq, e_ite, e_q, t1, quiet_ok, bind_ok, if_pos rfl]
          rw [e_raise2, e_cons, gA]; rfl
        | b :: bs, hvs, t1 =>
          rw [decide_eq_false (by simp)] at t1
          have v : VS (b :: bs) m := ⟨by simp, hvs.2, hvs.1, hm13.1, hm13.2⟩
          dsimp only
          rw [e_seq, e_ite, e_q, t1, quiet_ok, bind_ok, if_neg (by simp), e_next, bind_ok]
          have cl : cCall 2 f_Sale (cCons (cB gTuple (cCons (cVar 5) cNil)) (cCons (cVar 4) cNil)) [some (sD l), some (.lst ((r0 :: rs).map rowD)), none, none, some (.int m), some (.lst ((b :: bs).map buD)), e6] s = .ok (salD (b :: bs) m) s := by
            exact call2_r (b1_r (a := .lst ((b :: bs).map buD)) rfl (g_tupL _)) (rfl : cVar 4 _ s = .ok (.int m) s) (sale_is v s)
          dsimp only
          rw [e_q, e_ret, cl]; rfl

theorem tot_cons0 (x : P2) (l : List P2) : tot (x :: l) = x.2 + tot l := by simp [tot]

theorem range_split {n x : Nat} {pre post : List Nat} (e : List.range n = pre ++ x :: post) : x = pre.length ∧ pre.length < n := by
  have hl := congrArg List.length e
  simp at hl
  have h1 : (List.range n)[pre.length]? = some x := by rw [e]; simp
  rw [List.getElem?_range (by omega)] at h1
  exact ⟨by cases h1; rfl, by omega⟩
theorem mul_one_rep (d : D) (k : Int) (h0 : 0 ≤ k) (h1 : k ≤ 10) : gMul (.lst [d]) (.int k) = some (.lst (List.replicate k.toNat d)) := by
  show (if k ≤ 100000 ∧ -100000 ≤ k ∧ [d].length * k.toNat ≤ 100000 then some (D.lst (List.replicate k.toNat [d]).flatten) else none) = _
  rw [if_pos ⟨by omega, by omega, by simp; omega⟩]
  congr 2
  generalize k.toNat = m
  induction m with
  | zero => rfl
  | succ m ih => rw [List.replicate_succ, List.flatten_cons, ih, List.replicate_succ]; rfl

/-! ### the draw of a buyer -/
theorem draw_is (s : S) {m : Int} (h0 : 0 < m) (h1 : m < 1073741824) : ∃ v s', 0 ≤ v ∧ v < m ∧ drawF [.row, .int m] s = .ok (.int v) s' :=
  ⟨(draw s m).1, (draw s m).2, (draw_lt s h0).1, (draw_lt s h0).2, by show (if 0 < m ∧ m < 1073741824 then _ else _) = _; rw [if_pos ⟨h0, h1⟩]⟩
theorem pick4 {a b c d v : Int} (h0 : 0 ≤ v) (h1 : v < 4) : ∃ m, atI [D.int a, D.int b, D.int c, D.int d] v = some (.int m) ∧ (m = a ∨ m = b ∨ m = c ∨ m = d) := by
  have : v = 0 ∨ v = 1 ∨ v = 2 ∨ v = 3 := by omega
  rcases this with rfl | rfl | rfl | rfl
  · exact ⟨a, rfl, by simp⟩
  · exact ⟨b, rfl, by simp⟩
  · exact ⟨c, rfl, by simp⟩
  · exact ⟨d, rfl, by simp⟩
theorem pow6 : gPow (.int 10) (.int 6) = some (.int 1000000) := g_pow 10 6
theorem pow8 : gPow (.int 10) (.int 8) = some (.int 100000000) := g_pow 10 8

theorem law_buyer_is {n : Int} (n1 : 1 ≤ n) (n5 : n ≤ 5) (s : S) : ∃ ys s', VU ys ∧ (ys.length : Int) ≤ n ∧ (∀ y ∈ ys, y.2 ≤ 100000000 ∧ y.1 ≤ 6000000) ∧ (∀ y, ys.head? = some y → y.1 ≤ 3) ∧ f__law_buyer [.row, .int n] s = .ok (buD ys) s' := by
  obtain ⟨w0, s1, a1, a2, a3⟩ := draw_is s (m := 4) (by omega) (by omega)
  obtain ⟨c0, s2, b1, b2, b3⟩ := draw_is s1 (m := 4) (by omega) (by omega)
  obtain ⟨st, p1, p2⟩ := pick4 (a := 1) (b := 3) (c := 9) (d := 1000000) b1 b2
  obtain ⟨k, s3, k1, k2, k3⟩ := draw_is s2 (m := n) (by omega) (by omega)
  have hst : 0 < st ∧ st ≤ 1000000 := by omega
  have key := for_inv (tg := tgName 5) (F := l1__law_buyer) (enc := fun (i : Nat) => D.int (i : Int)) (xs := List.range (k.toNat + 1))
    (fun pre δ s' => ∃ (ys : List P2) (w : Int) (d : Option D), δ = [some .row, some (.int n), some (.int w), some (.lst (ys.map encB)), some (.int st), d] ∧ ys.length = pre.length ∧ (∀ y ∈ ys, 0 ≤ y.1 ∧ y.1 < w ∧ 1 ≤ y.2 ∧ y.2 ≤ 100000000) ∧ ys.Pairwise (fun a b => a.1 < b.1) ∧ 0 ≤ w ∧ w ≤ 3 + 1000000 * pre.length ∧ ∀ y, ys.head? = some y → y.1 ≤ 3)
    (δ := [some .row, some (.int n), some (.int w0), some (.lst []), some (.int st), none]) (s := s3) ⟨[], w0, none, rfl, rfl, by simp, by simp, a1, by simp; omega, by simp⟩ ?_
  · obtain ⟨δ', s', h1, ys, w, d, rfl, g1, g2, g3, g4, g5, g6⟩ := key
    rw [List.length_range] at g1 g5
    refine ⟨ys, s', ⟨by omega, by omega, fun y hy => ?_, g3⟩, by omega, fun y hy => ?_, g6, ?_⟩
    · have := g2 y hy
      omega
    · have := g2 y hy
      omega
    · have r1 : gR1 [.int (1 + k)] = some ((List.range (k.toNat + 1)).map fun (i : Nat) => D.int (i : Int)) := by
        have := g_r1 (k.toNat + 1) (by omega)
        rw [upto0] at this
        rw [show (1 + k) = ((k.toNat + 1 : Nat) : Int) by omega]; exact this
      rw [u__law_buyer]; unfold b__law_buyer
      simp -implicitDefEqProofs [a3, b3, k3, p1, pow6, r1]
      rw [h1]; simp [buD]
  · rintro pre x post δ s' e ⟨ys, w, d, rfl, g1, g2, g3, g4, g5, g6⟩
    obtain ⟨hx, hpl⟩ := range_split e
    obtain ⟨c1, t1, q1, q2, q3⟩ := draw_is s' (m := 4) (by omega) (by omega)
    obtain ⟨m, r1, r2⟩ := pick4 (a := 1) (b := 3) (c := 9) (d := 100000000) q1 q2
    have hm : 0 < m ∧ m ≤ 100000000 := by omega
    obtain ⟨u, t2, u1, u2, u3⟩ := draw_is t1 (m := m) (by omega) (by omega)
    obtain ⟨z, t3, z1, z2, z3⟩ := draw_is t2 (m := st) (by omega) (by omega)
    refine ⟨_, [some .row, some (.int n), some (.int (w + 1 + z)), some (.lst ((ys ++ [(w, 1 + u)]).map encB)), some (.int st), some (.int (x : Int))], t3, rfl, ?_, ys ++ [(w, 1 + u)], w + 1 + z, _, rfl, by simp; omega, ?_, ?_, by omega, by simp; omega, fun y hy => ?_⟩
    · unfold l1__law_buyer
      simp -implicitDefEqProofs [q3, r1, u3, z3, pow8, encB, show ys.length < 100000 by omega]
    · intro y hy
      rcases List.mem_append.mp hy with q | q
      · have := g2 y q
        omega
      · have : y = (w, 1 + u) := by simpa using q
        subst this
        exact ⟨g4, by show w < w + 1 + z; omega, by show 1 ≤ 1 + u; omega, by show 1 + u ≤ _; omega⟩
    · refine List.pairwise_append.mpr ⟨g3, by simp, fun a ha b hb => ?_⟩
      have : b = (w, 1 + u) := by simpa using hb
      subst this
      exact (g2 a ha).2.1
    · cases ys with
      | nil =>
        have hy : (w, 1 + u) = y := by simpa using hy
        subst hy
        simp only [List.length_nil] at g1
        rw [← g1] at g5
        simpa using g5
      | cons z ys => exact g6 y (by simpa using hy)

abbrev lawD (bs : List (List P2)) (m : Int) : D := .dic ["buyers", "things"] [crD bs, .int m]

/-! ### drawn sales -/
structure DrB (k : Int) (b : List P2) : Prop where
  vu : VU b
  len : (b.length : Int) ≤ k
  wt : ∀ y ∈ b, y.2 ≤ 100000000 ∧ y.1 ≤ 6000000
  hd : ∀ y, b.head? = some y → y.1 ≤ 3
theorem parts_comp {k : Int} (k1 : 1 ≤ k) (k5 : k ≤ 5) {c1 c3 : Option D} : ∀ (xs : List Nat) (s : S), ∃ (bs : List (List P2)) (s' : S), bs.length = xs.length ∧ (∀ b ∈ bs, DrB k b) ∧ compL (tgName 4) cYes (cCall 2 f__law_buyer (cCons (cVar 0) (cCons (cVar 2) cNil))) [some .row, c1, some (.int k), c3, none] (xs.map fun (i : Nat) => D.int (i : Int)) s = .ok (bs.map buD) s'
  | [], s => ⟨[], s, rfl, by simp, rfl⟩
  | x :: xs, s => by
    obtain ⟨b, s1, v, h1, h2, h2', h3⟩ := law_buyer_is k1 k5 s
    obtain ⟨bs, s2, g1, g2, g3⟩ := parts_comp k1 k5 xs s1
    refine ⟨b :: bs, s2, by simp [g1], ?_, ?_⟩
    · intro c hc
      rcases List.mem_cons.mp hc with rfl | z
      · exact ⟨v, h1, h2, h2'⟩
      · exact g2 c z
    · rw [List.map_cons, List.map_cons]
      show ((lift (tgName 4 (D.int (x : Int)) _) s).bind _) = _
      simp -implicitDefEqProofs [tgName, h3]
      rw [g3]; rfl
theorem law_parts_is {n k : Int} (n1 : 1 ≤ n) (n4 : n ≤ 4) (k1 : 1 ≤ k) (k5 : k ≤ 5) (s : S) : ∃ bs m s', VS bs m ∧ (bs.length : Int) ≤ n ∧ (∀ b ∈ bs, DrB k b) ∧ f__law_parts [.row, .int n, .int k] s = .ok (lawD bs m) s' := by
  obtain ⟨a, s1, a1, a2, a3⟩ := draw_is s (m := n) (by omega) (by omega)
  obtain ⟨bs, s2, g1, g2, g3⟩ := parts_comp (c1 := some (.int n)) (c3 := none) k1 k5 (List.range (a.toNat + 1)) s1
  obtain ⟨t, s3, t1, t2, t3⟩ := draw_is s2 (m := 3) (by omega) (by omega)
  rw [List.length_range] at g1
  refine ⟨bs, 1 + t, s3, ⟨by omega, by omega, fun b hb => (g2 b hb).vu, by omega, by omega⟩, by omega, g2, ?_⟩
  have r1 : gR1 [.int (1 + a)] = some ((List.range (a.toNat + 1)).map fun (i : Nat) => D.int (i : Int)) := by
    have := g_r1 (a.toNat + 1) (by omega)
    rw [upto0] at this
    rw [show (1 + a) = ((a.toNat + 1 : Nat) : Int) by omega]; exact this
  rw [u__law_parts]; unfold b__law_parts
  simp -implicitDefEqProofs [a3, r1, show a.toNat + 1 ≤ 100000 by omega]
  rw [g3]
  simp -implicitDefEqProofs [t3]

/-! ### the text of a sale -/
theorem add_text {l m : List Nat} (h : l.length + m.length ≤ 100000) : gAdd (sD l) (sD m) = some (sD (l ++ m)) := by
  show (if (⟨l.toArray⟩ : Str).length + (⟨m.toArray⟩ : Str).length ≤ 100000 then some (D.str ((⟨l.toArray⟩ : Str) ++ ⟨m.toArray⟩)) else none) = _
  rw [if_pos (by rw [str_len, str_len]; exact h), add_str]; rfl
theorem str_int {i : Int} (h0 : 0 ≤ i) (h1 : i ≤ 1000000000) : gStrI [.int i] = some (sD (TL.numL i.toNat)) := by
  have hb : Bd 40 i := bd_of ⟨by omega, by omega⟩
  have hl := hb.log
  show (if i.natAbs.log2 < 1920 then some (D.str (dgs i)) else none) = _
  rw [if_pos (by omega), dgs_int h0]
def pW (x : P2) : List Nat := TL.numL x.1.toNat ++ ([58] ++ TL.numL x.2.toNat)
def bRow (b : List P2) : List (List Nat) := buW :: b.map pW
def rowsT (bs : List (List P2)) (m : Int) : List (List (List Nat)) := [thW, TL.numL m.toNat] :: bs.map bRow
theorem numL_le {i : Int} (h1 : i ≤ 1000000000) : (TL.numL i.toNat).length ≤ 10 := TL.numL_len (by decide) (by omega)
theorem lit_co : D.str ":" = sD [58] := by rw [← colon_tl, sD_tl]
theorem pW_len {x : P2} (h : PO x) : (pW x).length ≤ 21 := by
  have h1 := numL_le h.2.1
  have h2 := numL_le h.2.2.2
  unfold pW
  simp; omega
theorem numL_asc (n : Nat) : ∀ c ∈ TL.numL n, 33 ≤ c ∧ c < 128 := fun c hc => by
  have := TL.numL_digits n c hc
  omega
theorem pW_asc (x : P2) : ∀ c ∈ pW x, 33 ≤ c ∧ c < 128 := fun c hc => by
  unfold pW at hc
  rcases List.mem_append.mp hc with q | q
  · exact numL_asc _ c q
  · rcases List.mem_append.mp q with q | q
    · have : c = 58 := by simpa using q
      omega
    · exact numL_asc _ c q
theorem pW_ne (x : P2) : pW x ≠ [] := by unfold pW; simp
/-- words: signs, some of them, not too many -/
def Wd (w : List Nat) : Prop := w ≠ [] ∧ w.length ≤ 30 ∧ ∀ c ∈ w, 33 ≤ c ∧ c < 128
theorem Wd.asc {w : List Nat} (h : Wd w) : Asc w := fun c hc => (h.2.2 c hc).2
theorem thW_wd : Wd thW := by
  have : thW = [116, 104, 105, 110, 103, 115] := by decide +kernel
  rw [this]; simp [Wd]
theorem buW_wd : Wd buW := by
  have : buW = [98, 117, 121, 101, 114] := by decide +kernel
  rw [this]; simp [Wd]
theorem pW_wd {x : P2} (h : PO x) : Wd (pW x) := ⟨pW_ne x, by have := pW_len h; omega, pW_asc x⟩
structure RB (k : Nat) (rows : List (List (List Nat))) : Prop where
  ne : rows ≠ []
  len : rows.length ≤ 5 + k
  row : ∀ ws ∈ rows, ws.length ≤ 6 + k ∧ ∀ w ∈ ws, Wd w
def textOf (rows : List (List (List Nat))) : List Nat := TL.joinL [10] (rows.map (TL.joinL [32]))
theorem join_mem (c : Nat) : ∀ (ws : List (List Nat)) (d : Nat), d ∈ TL.joinL [c] ws → d = c ∨ ∃ w ∈ ws, d ∈ w
  | [], d, h => by cases h
  | [w], d, h => .inr ⟨w, by simp, h⟩
  | w :: v :: r, d, h => by
    have h : d ∈ w ++ ([c] ++ TL.joinL [c] (v :: r)) := h
    rcases List.mem_append.mp h with q | q
    · exact .inr ⟨w, by simp, q⟩
    · rcases List.mem_append.mp q with q | q
      · exact .inl (by simpa using q)
      · rcases join_mem c (v :: r) d q with q | ⟨z, h1, h2⟩
        · exact .inl q
        · exact .inr ⟨z, by simp [List.mem_cons.mp h1], h2⟩
theorem wrds_join {ws : List (List Nat)} (h : ∀ w ∈ ws, Wd w) : wrds (TL.joinL [32] ws) = ws := by
  unfold wrds
  by_cases hn : ws = []
  · subst hn
    show (splC 32 [] []).filter _ = []
    simp [splC]
  · rw [splC_join 32 ws hn fun w hw hc => by have := (h w hw).2.2 32 hc; omega]
    exact List.filter_eq_self.mpr fun w hw => by simp [(h w hw).1]
theorem rows_text {k : Nat} {rows : List (List (List Nat))} (h : RB k rows) : rowsOf (textOf rows) = rows := by
  unfold rowsOf textOf
  rw [splC_join 10 _ (by simp [h.ne]) fun p hp hc => by
    obtain ⟨ws, hw, rfl⟩ := List.mem_map.mp hp
    rcases join_mem 32 ws 10 hc with q | ⟨w, h1, h2⟩
    · omega
    · have := ((h.row ws hw).2 w h1).2.2 10 h2
      omega]
  rw [List.map_map]
  refine (List.map_congr_left fun ws hw => ?_).trans (List.map_id rows)
  exact wrds_join (h.row ws hw).2
theorem sumL_le {n : Nat} : ∀ {ws : List (List Nat)}, (∀ w ∈ ws, w.length ≤ n) → sumL ws ≤ n * ws.length
  | [], _ => by simp [sumL]
  | w :: ws, h => by
    have ih := sumL_le (ws := ws) fun v hv => h v (by simp [hv])
    have := h w (by simp)
    unfold sumL at *
    rw [List.map_cons, List.sum_cons, List.length_cons, Nat.mul_succ]; omega
theorem line_len {k : Nat} (hk : k ≤ 10) {ws : List (List Nat)} (h : ws.length ≤ 6 + k ∧ ∀ w ∈ ws, Wd w) : sumL ws ≤ 30 * (6 + k) ∧ (TL.joinL [32] ws).length ≤ 600 := by
  have h1 := sumL_le fun w hw => (h.2 w hw).2.1
  have h2 := join_len 32 ws
  have h3 : 30 * ws.length ≤ 30 * (6 + k) := Nat.mul_le_mul_left 30 h.1
  omega
theorem text_ok {k : Nat} (hk : k ≤ 10) {rows : List (List (List Nat))} (h : RB k rows) : Asc (textOf rows) ∧ sumL (rows.map (TL.joinL [32])) ≤ 9000 ∧ (textOf rows).length ≤ 9100 := by
  have h1 := sumL_le (n := 600) (ws := rows.map (TL.joinL [32])) fun p hp => by
    obtain ⟨ws, hw, rfl⟩ := List.mem_map.mp hp
    exact (line_len hk (h.row ws hw)).2
  have h2 := join_len 10 (rows.map (TL.joinL [32]))
  rw [List.length_map] at h1 h2
  have h3 := h.len
  refine ⟨fun d hd => ?_, by omega, by show (TL.joinL _ _).length ≤ _; omega⟩
  rcases join_mem 10 _ d hd with q | ⟨p, hp, q⟩
  · omega
  · obtain ⟨ws, hw, rfl⟩ := List.mem_map.mp hp
    rcases join_mem 32 ws d q with q | ⟨w, h1, h2⟩
    · omega
    · exact (((h.row ws hw).2 w h1).2.2 d h2).2
theorem line_join {k : Nat} (hk : k ≤ 10) {ws : List (List Nat)} (h : ws.length ≤ 6 + k ∧ ∀ w ∈ ws, Wd w) : gJoin " " (rowD ws) = some (sD (TL.joinL [32] ws)) :=
  join_text sp_tl ws (by have := (line_len hk h).1; simp; omega)
theorem text_join {k : Nat} (hk : k ≤ 10) {rows : List (List (List Nat))} (h : RB k rows) : gJoin "\n" (.lst (rows.map fun ws => sD (TL.joinL [32] ws))) = some (sD (textOf rows)) := by
  have e : (rows.map fun ws => sD (TL.joinL [32] ws)) = (rows.map (TL.joinL [32])).map sD := by rw [List.map_map]; rfl
  rw [e]
  exact join_text nl_tl _ (by have := (text_ok hk h).2.1; have := h.len; simp; omega)
theorem asS_lit (x : Str) : asS (.str x) = some x := rfl
theorem lines_comp {k : Nat} (hk : k ≤ 10) {rows : List (List (List Nat))} (h : RB k rows) {δ : En} {j : Nat} (hj : j < δ.length) (s : S) : compL (tgName j) cYes (cM1 gJoin (cC (.str " ")) (cVar j)) δ (rows.map rowD) s = .ok (rows.map fun ws => sD (TL.joinL [32] ws)) s :=
  comp_map (enc := rowD) (e := fun ws => sD (TL.joinL [32] ws)) fun ws hw => ⟨_, rfl, fun s => by
    have hg : (δ.set j (some (rowD ws)))[j]? = some (some (rowD ws)) := by rw [List.getElem?_set_self hj]
    rw [e_m1, e_c, bind_ok, asS_lit, lift_some, bind_ok, e_var, hg, show (some (some (rowD ws))).join = some (rowD ws) from rfl, lift_some, bind_ok, line_join hk (h.row ws hw)]; rfl⟩
theorem rows_rb {bs : List (List P2)} {m : Int} (v : VS bs m) : RB 0 (rowsT bs m) := by
  refine ⟨by unfold rowsT; simp, ?_, fun ws hw => ?_⟩
  · have := v.len4
    unfold rowsT
    simp; omega
  · unfold rowsT at hw
    rcases List.mem_cons.mp hw with rfl | hw
    · refine ⟨by simp, fun w hw => ?_⟩
      have hw : w = thW ∨ w = TL.numL m.toNat := by simpa using hw
      rcases hw with rfl | rfl
      · exact thW_wd
      · exact ⟨TL.numL_ne _, by have := numL_le (i := m) (by have := v.m3; omega); omega, numL_asc _⟩
    · obtain ⟨b, hb, rfl⟩ := List.mem_map.mp hw
      have vb := v.ok b hb
      refine ⟨by have := vb.len5; unfold bRow; simp; omega, fun w hw => ?_⟩
      unfold bRow at hw
      rcases List.mem_cons.mp hw with rfl | hw
      · exact buW_wd
      · obtain ⟨x, hx, rfl⟩ := List.mem_map.mp hw
        exact pW_wd (vb.ok x hx)
theorem law_text_is {bs : List (List P2)} {m : Int} (v : VS bs m) (s : S) : f__law_text [lawD bs m] s = .ok (.lst ((rowsT bs m).map rowD)) s := by
  rw [u__law_text]; unfold b__law_text
  have key := for_inv (tg := tgName 2) (F := l1__law_text) (enc := buD) (xs := bs)
    (fun pre δ s' => s' = s ∧ ∃ d2 d3 d4, δ = [some (lawD bs m), some (.lst (([thW, TL.numL m.toNat] :: pre.map bRow).map rowD)), d2, d3, d4]) (δ := [some (lawD bs m), some (.lst [rowD [thW, TL.numL m.toNat]]), none, none, none]) (s := s) ⟨rfl, none, none, none, rfl⟩ ?_
  · obtain ⟨δ', s', h1, rfl, d2, d3, d4, rfl⟩ := key
    have m1 := str_int (i := m) (by have := v.m1; omega) (by have := v.m3; omega)
    have e0 : cSetL 1 (cLstL (cCons (cLst (cCons (cC (.str "things")) (cCons (cB gStrI (cCons (cUn (gKey "things") (cVar 0)) cNil)) cNil))) cNil)) [some (lawD bs m), none, none, none, none] s' = .ok (.next [some (lawD bs m), some (.lst [rowD [thW, TL.numL m.toNat]]), none, none, none]) s' := by
      have k1 : cUn (gKey "things") (cVar 0) [some (lawD bs m), none, none, none, none] s' = .ok (.int m) s' := by
        rw [e_un, e_var]
        show lift (gKey "things" (lawD bs m)) s' = _
        rw [g_kt]; rfl
      rw [e_setL, e_lstL, e_cons, e_lst, e_cons, e_c, bind_ok, e_cons, b1_r k1 m1, bind_ok, e_nil, bind_ok, bind_ok, bind_ok, lit_th]; rfl
    have e1 : cItU (cUn (gKey "buyers") (cVar 0)) [some (lawD bs m), some (.lst [rowD [thW, TL.numL m.toNat]]), none, none, none] s' = .ok (bs.map buD) s' := by
      rw [e_itU, e_un, e_var]
      show ((lift (gKey "buyers" (lawD bs m)) s').bind _) = _
      rw [g_kb]; rfl
    rw [e_seq, e0, bind_ok]
    dsimp only
    rw [e_seq, e_for, e1, bind_ok, h1, bind_ok]
    rfl
  · rintro pre b post δ s' e ⟨rfl, d2, d3, d4, rfl⟩
    have hb : b ∈ bs := by rw [e]; simp
    have vb := v.ok b hb
    let δ1 : En := [some (lawD bs m), some (.lst (([thW, TL.numL m.toNat] :: pre.map bRow).map rowD)), some (buD b), d3, d4]
    refine ⟨δ1, [some (lawD bs m), some (.lst (([thW, TL.numL m.toNat] :: (pre ++ [b]).map bRow).map rowD)), some (buD b), d3, d4], s', rfl, ?_, rfl, _, _, _, rfl⟩
    have hcomp : compL (tgTup 2 (tgCons (tgName 3) (tgCons (tgName 4) tgNil))) cYes (cOp gAdd (cOp gAdd (cB gStrI (cCons (cVar 3) cNil)) (cC (.str ":"))) (cB gStrI (cCons (cVar 4) cNil))) [some (lawD bs m), some (.lst (([thW, TL.numL m.toNat] :: pre.map bRow).map rowD)), some (buD b), none, none] (b.map encB) s' = .ok (b.map fun x => sD (pW x)) s' :=
      comp_map (enc := encB) (e := fun x => sD (pW x)) fun x hx => by
        have hx := vb.ok x hx
        refine ⟨_, rfl, fun s => ?_⟩
        have a1 := str_int hx.1 hx.2.1
        have a2 := str_int (i := x.2) (by omega) hx.2.2.2
        have l1 := numL_le hx.2.1
        have l2 := numL_le hx.2.2.2
        unfold pW
        rw [← List.append_assoc]
        refine op_r (op_r (b1_r rfl a1) (by rw [e_c, lit_co]) (add_text (by simp; omega))) (b1_r rfl a2) (add_text (by simp; omega))
    have hlc : cLc [3, 4] (cItU (cVar 2)) (tgTup 2 (tgCons (tgName 3) (tgCons (tgName 4) tgNil))) cYes (cOp gAdd (cOp gAdd (cB gStrI (cCons (cVar 3) cNil)) (cC (.str ":"))) (cB gStrI (cCons (cVar 4) cNil))) δ1 s' = .ok (.lst (b.map fun x => sD (pW x))) s' := by
      rw [e_lc, e_itU, e_var]
      show ((lift (seqD (buD b)) s').bind _) = _
      unfold buD
      rw [g_seqT, lift_some, bind_ok, if_pos (by have := vb.len5; rw [List.length_map]; omega)]
      show (compL _ cYes _ [some (lawD bs m), some (.lst (([thW, TL.numL m.toNat] :: pre.map bRow).map rowD)), some (buD b), none, none] (b.map encB) s').bind _ = _
      rw [hcomp]; rfl
    have hadd : gAdd (.lst [sD buW]) (.lst (b.map fun x => sD (pW x))) = some (rowD (bRow b)) := by
      rw [g_addL _ _ (by have := vb.len5; simp; omega)]
      unfold rowD bRow
      simp
    unfold l1__law_text
    rw [e_app, ow_eq]
    show ((lift (some (([thW, TL.numL m.toNat] :: pre.map bRow).map rowD)) s').bind _) = _
    rw [lift_some, bind_ok, op_r (lst1_r (by rw [e_c, lit_bu])) hlc hadd, bind_ok]
    have hl : (([thW, TL.numL m.toNat] :: pre.map bRow).map rowD).length < 100000 := by
      have h1 := congrArg List.length e
      have := v.len4
      simp at h1 ⊢; omega
    rw [if_pos hl]
    show Out.ok (Fl.next [some (lawD bs m), some (.lst ((([thW, TL.numL m.toNat] :: pre.map bRow).map rowD) ++ [rowD (bRow b)])), some (buD b), d3, d4]) s' = _
    simp

/-! ### the text of a sale is read back -/
theorem pairIn_pW {x : P2} (h : PO x) {b : Int} (hb : b < x.1) : pairIn (pW x) b = some x := by
  have e : splC 58 [] (pW x) = [TL.numL x.1.toNat, TL.numL x.2.toNat] := by
    unfold pW
    rw [List.singleton_append, splC_app 58 _ [] _ (TL.numL_free (.inr (by decide))), splC_none 58 _ _ (TL.numL_free (.inr (by decide)))]; simp
  have n1 : numIn (TL.numL x.1.toNat) = x.1 := by rw [numIn_numL (by have := h.2.1; omega)]; have := h.1; omega
  have n2 : numIn (TL.numL x.2.toNat) = x.2 := by rw [numIn_numL (by have := h.2.2.2; omega)]; have := h.2.2.1; omega
  unfold pairIn
  rw [e]
  show (if numIn (TL.numL x.1.toNat) ≤ b ∨ numIn (TL.numL x.2.toNat) < 1 then none else some (numIn (TL.numL x.1.toNat), numIn (TL.numL x.2.toNat))) = _
  rw [n1, n2, if_neg (by have := h.2.2.1; omega)]
theorem lastW_snoc (bs : List P2) (x : P2) : lastW (bs ++ [x]) = x.1 := by simp [lastW]
theorem buyL_pW (line : Int) : ∀ (b done : List P2) (a : Int), (∀ y ∈ b, PO y) → (∀ y ∈ b, lastW done < y.1) → b.Pairwise (fun a b => a.1 < b.1) → done.length + b.length ≤ 5 → buyL line done a (b.map pW) = .ok (done ++ b)
  | [], done, a, _, _, _, _ => by simp [buyL]
  | x :: b, done, a, h1, h2, h3, h4 => by
    rw [List.map_cons]
    unfold buyL
    rw [pairIn_pW (h1 x (by simp)) (h2 x (by simp))]
    rw [List.length_cons] at h4
    have hx := List.pairwise_cons.mp h3
    show (if done.length = 5 then _ else _) = _
    rw [if_neg (by omega), buyL_pW line b (done ++ [x]) (a + 1) (fun y hy => h1 y (by simp [hy])) (fun y hy => by rw [lastW_snoc]; exact hx.1 y hy) hx.2 (by simp; omega)]
    simp
theorem buyerIn_row (line : Int) {b : List P2} (v : VU b) : buyerIn line (bRow b) = .ok b := by
  unfold buyerIn bRow
  rw [List.tail_cons, buyL_pW line b [] 1 v.ok (fun y hy => by have := (v.ok y hy).1; show (-1 : Int) < y.1; omega) v.up (by have := v.len5; simp; omega)]
  have := v.len1
  cases b with
  | nil => simp at this
  | cons x b => rfl
theorem rdL_rows : ∀ (bs crowd : List (List P2)) (a : Int), (∀ b ∈ bs, VU b) → crowd.length + bs.length ≤ 4 → rdL crowd a (bs.map bRow) = .ok (crowd ++ bs)
  | [], crowd, a, _, _ => by simp [rdL]
  | b :: bs, crowd, a, h1, h2 => by
    rw [List.map_cons]
    unfold rdL
    rw [List.length_cons] at h2
    rw [if_pos ⟨rfl, by omega⟩, buyerIn_row (a + 1) (h1 b (by simp))]
    show rdL (crowd ++ [b]) (a + 1) (bs.map bRow) = _
    rw [rdL_rows bs (crowd ++ [b]) (a + 1) (fun c hc => h1 c (by simp [hc])) (by simp; omega)]
    simp
theorem readR_rows {bs : List (List P2)} {m : Int} (v : VS bs m) : readR (rowsT bs m) = .ok (bs, m) := by
  unfold readR rowsT
  rw [List.headD_cons, List.tail_cons]
  have nm : numIn (TL.numL m.toNat) = m := by rw [numIn_numL (by have := v.m3; omega)]; have := v.m1; omega
  have e1 : thingsIn [thW, TL.numL m.toNat] = .ok m := by
    unfold thingsIn
    rw [if_pos (show List.take 1 [thW, TL.numL m.toNat] = [thW] from rfl)]
    show (if 1 ≤ numIn (TL.numL m.toNat) ∧ numIn (TL.numL m.toNat) ≤ 3 then Except.ok (numIn (TL.numL m.toNat)) else _) = _
    rw [nm, if_pos ⟨v.m1, v.m3⟩]
  have e2 := rdL_rows bs [] 1 v.ok (by have := v.len4; simp; omega)
  rw [List.nil_append] at e2
  rw [e1]
  dsimp only
  rw [e2]
  have := v.len1
  cases bs with
  | nil => simp at this
  | cons b bs => rfl

/-! ### the law's numbers and pairs -/
section
variable {fa fb : En → M D} {ba bb : En → M Bool} {δ : En} {s : S} {d : D} {r : Bool}
theorem orV_t (ha : fa δ s = .ok (.bl true) s) : cOrV fa fb δ s = .ok (.bl true) s := by rw [e_orV, ha]; rfl
theorem orV_f (ha : fa δ s = .ok (.bl false) s) (hb : fb δ s = .ok d s) : cOrV fa fb δ s = .ok d s := by rw [e_orV, ha, bind_ok, g_asB, lift_some, bind_ok, if_neg (by decide)]; exact hb
theorem andV_f (ha : fa δ s = .ok (.bl false) s) : cAndV fa fb δ s = .ok (.bl false) s := by rw [e_andV, ha]; rfl
theorem andV_t (ha : fa δ s = .ok (.bl true) s) (hb : fb δ s = .ok d s) : cAndV fa fb δ s = .ok d s := by rw [e_andV, ha, bind_ok, g_asB, lift_some, bind_ok, if_pos rfl]; exact hb
end
theorem pow9 : gPow (.int 10) (.int 9) = some (.int 1000000000) := g_pow 10 9
open TL NumText in
theorem law_number_is {w : List Nat} (ha : Asc w) (hl : w.length ≤ 99000) {low : Int} (h0 : 0 ≤ low) (s : S) : f__law_number [sD w, .int low] s = .ok (.bl (decide (low ≤ numIn w))) s := by
  rw [u__law_number]; unfold b__law_number
  let δ : En := [some (sD w), some (.int low), none]
  have v0 : cVar 0 δ s = .ok (sD w) s := rfl
  have t1 : cTst (cOp gEq (cVar 0) (cC (.str ""))) δ s = .ok (decide (w = [])) s := tst_op v0 (by rw [e_c, lit_e]) (eq_text w [] ha (by simp [Asc]))
  have t2 : cTst (cOp gGt (cB gLen (cCons (cVar 0) cNil)) (cC (.int 10))) δ s = .ok (decide ((10 : Int) < w.length)) s := tst_op (b1_r v0 (len_text w (by omega))) rfl rfl
  have hcomp : compL (tgName 2) cYes (cOp inU (cVar 2) (cC (.str "0123456789"))) δ (w.map fun c => D.str ⟨#[c]⟩) s = .ok (w.map fun c => .bl (decide (48 ≤ c ∧ c ≤ 57))) s :=
    comp_map (e := fun c => .bl (decide (48 ≤ c ∧ c ≤ 57))) fun c _ => ⟨_, rfl, fun s => op_r rfl rfl (in_digs c)⟩
  have hlc : cLc [2] (cItStr (cVar 0)) (tgName 2) cYes (cOp inU (cVar 2) (cC (.str "0123456789"))) δ s = .ok (.lst (w.map fun c => .bl (decide (48 ≤ c ∧ c ≤ 57)))) s := by
    rw [e_lc, e_itStr, v0, bind_ok, show asS (sD w) = some ⟨w.toArray⟩ from rfl, lift_some, bind_ok, bind_ok, if_pos (by rw [List.length_map]; show w.length ≤ 100000; omega)]
    show (compL _ cYes _ δ (w.map fun c => D.str ⟨#[c]⟩) s).bind _ = _
    rw [hcomp]; rfl
  have t3 : cTst (cB gAll (cCons (cLc [2] (cItStr (cVar 0)) (tgName 2) cYes (cOp inU (cVar 2) (cC (.str "0123456789")))) cNil)) δ s = .ok (w.all fun c => decide (48 ≤ c ∧ c ≤ 57)) s := tst_r (b1_r hlc (g_allM w fun c => decide (48 ≤ c ∧ c ≤ 57)))
  show ((cSeq (cIte _ _ _) _ δ s).bind endD) = _
  have neg : ¬ (1 ≤ w.length ∧ w.length ≤ 10 ∧ (∀ c ∈ w, 48 ≤ c ∧ c ≤ 57)) → decide (low ≤ numIn w) = false := fun h => by
    have e : numIn w = -1 := by
      unfold numIn
      rw [if_neg fun z => h ⟨z.1, z.2.1, z.2.2.1⟩]
    rw [e]; exact decide_eq_false (by omega)
  by_cases h1 : w = []
  · rw [decide_eq_true h1] at t1
    rw [neg (by rw [h1]; simp), e_seq, e_ite, or_t t1, bind_ok]; rfl
  · rw [decide_eq_false h1] at t1
    by_cases h2 : w.length ≤ 10
    · rw [decide_eq_false (by omega)] at t2
      by_cases h3 : ∀ c ∈ w, 48 ≤ c ∧ c ≤ 57
      · have a3 : (w.all fun c => decide (48 ≤ c ∧ c ≤ 57)) = true := List.all_eq_true.mpr fun c hc => decide_eq_true (h3 c hc)
        rw [a3] at t3
        have hpos := List.length_pos_iff.mpr h1
        have it := int_text h3 h1 (by omega)
        obtain ⟨c, hc0⟩ : ∃ c, w[0]? = some c := ⟨w[0], List.getElem?_eq_getElem hpos⟩
        have hcm : c ∈ w := List.mem_of_getElem? hc0
        have hh : w.head? = some c := by rw [List.head?_eq_getElem?]; exact hc0
        have a48 : Asc [48] := fun d hd => by
          have : d = 48 := by simpa using hd
          omega
        have ac : Asc [c] := fun d hd => by
          have : d = c := by simpa using hd
          rw [this]; exact ha c hcm
        have u1 : cOp gEq (cVar 0) (cC (.str "0")) δ s = .ok (.bl (decide (w = [48]))) s := op_r v0 (by rw [e_c, lit0]) (eq_text w [48] ha a48)
        have u2 : cOp gNe (cOp gIx (cVar 0) (cC (.int 0))) (cC (.str "0")) δ s = .ok (.bl (!decide ([c] = [48]))) s := op_r (op_r v0 rfl (by rw [ix_text w (by omega) 0, at_0, hc0]; rfl)) (by rw [e_c, lit0]) (ne_text [c] [48] ac a48)
        have u4 : cB gIntU (cCons (cVar 0) cNil) δ s = .ok (.int (digitsVal w)) s := b1_r v0 it
        have u5 : cOp gPow (cC (.int 10)) (cC (.int 9)) δ s = .ok (.int 1000000000) s := op_r rfl rfl pow9
        have u6 : cChain gLe gLe (cVar 1) (cB gIntU (cCons (cVar 0) cNil)) (cOp gPow (cC (.int 10)) (cC (.int 9))) δ s = .ok (.bl (decide (low ≤ (digitsVal w : Int) ∧ (digitsVal w : Int) ≤ 1000000000))) s := by
          by_cases c1 : low ≤ (digitsVal w : Int)
          · refine chain_t (rfl : cVar 1 δ s = .ok (.int low) s) u4 (by rw [g_le, decide_eq_true c1]) u5 ?_
            rw [g_le]
            congr 2
            simp [c1]
          · rw [decide_eq_false (fun z => c1 z.1)]
            exact chain_f (rfl : cVar 1 δ s = .ok (.int low) s) u4 (by rw [g_le, decide_eq_false c1])
        have hn : numIn w = if ¬ (c = 48 ∧ w ≠ [48]) ∧ digitsVal w ≤ 1000000000 then (digitsVal w : Int) else -1 := by
          unfold numIn
          rw [hh]
          by_cases q : ¬ (c = 48 ∧ w ≠ [48]) ∧ digitsVal w ≤ 1000000000
          · rw [if_pos q, if_pos ⟨by omega, h2, h3, fun z => q.1 ⟨by simpa using z.1, z.2⟩, q.2⟩]
          · rw [if_neg q, if_neg fun z => q ⟨fun y => z.2.2.2.1 ⟨by rw [y.1], y.2⟩, z.2.2.2.2⟩]
        have fin : cAndV (cOrV (cOp gEq (cVar 0) (cC (.str "0"))) (cOp gNe (cOp gIx (cVar 0) (cC (.int 0))) (cC (.str "0")))) (cChain gLe gLe (cVar 1) (cB gIntU (cCons (cVar 0) cNil)) (cOp gPow (cC (.int 10)) (cC (.int 9)))) δ s = .ok (.bl (decide (low ≤ numIn w))) s := by
          by_cases q : c = 48 ∧ w ≠ [48]
          · rw [hn, if_neg (fun z => z.1 q), decide_eq_false (by omega)]
            rw [decide_eq_false q.2] at u1
            rw [q.1] at u2
            exact andV_f (orV_f u1 u2)
          · have ho : cOrV (cOp gEq (cVar 0) (cC (.str "0"))) (cOp gNe (cOp gIx (cVar 0) (cC (.int 0))) (cC (.str "0"))) δ s = .ok (.bl true) s := by
              by_cases q1 : w = [48]
              · rw [decide_eq_true q1] at u1
                exact orV_t u1
              · have q2 : c ≠ 48 := fun z => q ⟨z, q1⟩
                rw [decide_eq_false q1] at u1
                rw [show (!decide ([c] = [48])) = true by simp [q2]] at u2
                exact orV_f u1 u2
            rw [andV_t ho u6, hn]
            congr 2
            by_cases q3 : digitsVal w ≤ 1000000000
            · rw [if_pos ⟨q, q3⟩]
              exact decide_eq_decide.mpr ⟨fun z => z.1, fun z => ⟨z, by omega⟩⟩
            · rw [if_neg (fun z => q3 z.2)]
              exact decide_eq_decide.mpr ⟨fun z => by omega, fun z => by omega⟩
        rw [e_seq, e_ite, or_f t1 (or_f t2 (not_r t3)), bind_ok]
        show ((cRet _ δ s).bind endD) = _
        rw [e_ret, fin]; rfl
      · have a3 : (w.all fun c => decide (48 ≤ c ∧ c ≤ 57)) = false := by
          rw [Bool.eq_false_iff]; intro z
          exact h3 fun c hc => of_decide_eq_true (List.all_eq_true.mp z c hc)
        rw [a3] at t3
        rw [neg (fun z => h3 z.2.2), e_seq, e_ite, or_f t1 (or_f t2 (not_r t3)), bind_ok]; rfl
    · rw [decide_eq_true (by omega)] at t2
      rw [neg (fun z => h2 z.2.1), e_seq, e_ite, or_f t1 (or_t t2), bind_ok]; rfl
theorem int_back {p : List Nat} (h : 0 ≤ numIn p) : gIntU [sD p] = some (.int (numIn p)) := by
  have e := numIn_back h
  have hn := (numIn_ge p).2
  have h1 := int_text (l := p) (by rw [e]; exact TL.numL_digits _) (by rw [e]; exact TL.numL_ne _) (by rw [e]; have := numL_le (i := numIn p) hn; omega)
  rw [h1]
  congr 2
  conv => lhs; rw [e, TL.numL_val]
  omega
/-- what stood before, as a text and as a number -/
def Bef (bf : List Nat) (b : Int) : Prop := (bf = [] ∧ b = -1) ∨ (0 ≤ b ∧ b ≤ 1000000000 ∧ bf = TL.numL b.toNat)
theorem Bef.asc {bf : List Nat} {b : Int} (h : Bef bf b) : Asc bf := by
  rcases h with ⟨rfl, _⟩ | ⟨_, _, rfl⟩
  · simp [Asc]
  · exact fun c hc => (numL_asc _ c hc).2
theorem pair_bad {ps : List (List Nat)} (h : ps.length ≠ 2) (d0 d1 : Option D) (s : S) : ((cSeq (cIte (cOr (cTst (cOp gNe (cB gLen (cCons (cVar 2) cNil)) (cC (.int 2)))) (cOr (cNot (cTst (cCall 2 f__law_number (cCons (cOp gIx (cVar 2) (cC (.int 0))) (cCons (cC (.int 0)) cNil))))) (cNot (cTst (cCall 2 f__law_number (cCons (cOp gIx (cVar 2) (cC (.int 1))) (cCons (cC (.int 1)) cNil))))))) (cRet (cC (.bl false))) cNext) (cRet (cOrV (cOp gEq (cVar 1) (cC (.str ""))) (cOp gGt (cB gIntU (cCons (cOp gIx (cVar 2) (cC (.int 0))) cNil)) (cB gIntU (cCons (cVar 1) cNil))))) [d0, d1, some (.lst (ps.map sD))] s).bind endD) = .ok (.bl false) s := by
  have t1 : cTst (cOp gNe (cB gLen (cCons (cVar 2) cNil)) (cC (.int 2))) [d0, d1, some (.lst (ps.map sD))] s = .ok (!decide ((ps.length : Int) = 2)) s := tst_op (b1_r (a := .lst (ps.map sD)) rfl (by rw [g_lenL, List.length_map])) rfl (g_neI _ _)
  rw [decide_eq_false (by omega)] at t1
  rw [e_seq, e_ite, or_t t1, bind_ok]; rfl
theorem law_pair_is {w bf : List Nat} {b : Int} (ha : Asc w) (hl : w.length ≤ 90000) (hb : Bef bf b) (s : S) : f__law_pair [sD w, sD bf] s = .ok (.bl (pairIn w b).isSome) s := by
  rw [u__law_pair]; unfold b__law_pair
  have e1 := split_text colon_tl colon_k w (by omega)
  have hlen := splC_len 58 w []
  have hasc := splC_asc (c := 58) ha
  have hs : ∀ x : Option D, cSet 2 (cM1 gSplit (cVar 0) (cC (.str ":"))) [some (sD w), some (sD bf), x] s = .ok (.next [some (sD w), some (sD bf), some (.lst ((splC 58 [] w).map sD))]) s := fun x => by
    rw [e_set, e_m1, e_var]
    show (((lift (some (sD w)) s).bind _).bind _) = _
    rw [lift_some, bind_ok, show asS (sD w) = some ⟨w.toArray⟩ from rfl, lift_some, bind_ok, e_c, bind_ok, e1]; rfl
  rw [e_seq, hs none, bind_ok]
  dsimp only
  unfold pairIn
  generalize splC 58 [] w = ps at hlen hasc
  match ps, hlen, hasc with
  | [], _, _ => exact pair_bad (ps := []) (by simp) _ _ s
  | [p], _, _ => exact pair_bad (ps := [p]) (by simp) _ _ s
  | p :: q :: r :: t, _, _ => exact pair_bad (ps := p :: q :: r :: t) (by simp) _ _ s
  | [p, q], hlen, hasc =>
    let δ' : En := [some (sD w), some (sD bf), some (.lst ([p, q].map sD))]
    have t1 : cTst (cOp gNe (cB gLen (cCons (cVar 2) cNil)) (cC (.int 2))) δ' s = .ok false s := tst_op (b1_r (a := .lst ([p, q].map sD)) rfl (g_lenL _)) rfl (g_neI _ _)
    have hp := hlen p (by simp)
    have hq := hlen q (by simp)
    simp only [List.length_nil, Nat.zero_add] at hp hq
    have i0 : cOp gIx (cVar 2) (cC (.int 0)) δ' s = .ok (sD p) s := op_r (a := .lst ([p, q].map sD)) rfl rfl rfl
    have i1 : cOp gIx (cVar 2) (cC (.int 1)) δ' s = .ok (sD q) s := op_r (a := .lst ([p, q].map sD)) rfl rfl rfl
    have n0 := tst_r (call2_r i0 (rfl : cC (.int 0) δ' s = _) (law_number_is (hasc p (by simp)) (by omega) (by decide) s))
    have n1 := tst_r (call2_r i1 (rfl : cC (.int 1) δ' s = _) (law_number_is (hasc q (by simp)) (by omega) (by decide) s))
    show ((cSeq (cIte _ _ _) _ δ' s).bind endD) = .ok (.bl (if numIn p ≤ b ∨ numIn q < 1 then none else some (numIn p, numIn q)).isSome) s
    have gp := numIn_ge p
    have gq := numIn_ge q
    have hbm : -1 ≤ b := by rcases hb with ⟨_, rfl⟩ | ⟨h, _, _⟩ <;> omega
    by_cases c0 : 0 ≤ numIn p
    · rw [decide_eq_true c0] at n0
      by_cases c1 : 1 ≤ numIn q
      · rw [decide_eq_true c1] at n1
        rw [e_seq, e_ite, or_f t1 (or_f (not_r n0) (not_r n1)), bind_ok]
        show ((cRet _ δ' s).bind endD) = _
        have fin : cOrV (cOp gEq (cVar 1) (cC (.str ""))) (cOp gGt (cB gIntU (cCons (cOp gIx (cVar 2) (cC (.int 0))) cNil)) (cB gIntU (cCons (cVar 1) cNil))) δ' s = .ok (.bl (decide (b < numIn p))) s := by
          have u1 : cOp gEq (cVar 1) (cC (.str "")) δ' s = .ok (.bl (decide (bf = []))) s := op_r (a := sD bf) rfl (by rw [e_c, lit_e]) (eq_text bf [] hb.asc (by simp [Asc]))
          rcases hb with ⟨h1, h2⟩ | ⟨h1, h2, h3⟩
          · rw [decide_eq_true h1] at u1
            rw [orV_t u1, decide_eq_true (by omega)]
          · have hne : bf ≠ [] := by rw [h3]; exact TL.numL_ne _
            rw [decide_eq_false hne] at u1
            have hbn : numIn bf = b := by rw [h3, numIn_numL (by omega)]; omega
            have u2 : cB gIntU (cCons (cVar 1) cNil) δ' s = .ok (.int b) s := b1_r (a := sD bf) rfl (by rw [int_back (by omega), hbn])
            exact orV_f u1 (op_r (b1_r i0 (int_back c0)) u2 rfl)
        rw [e_ret, fin]
        by_cases c2 : b < numIn p
        · rw [decide_eq_true c2, if_neg (by omega)]; rfl
        · rw [decide_eq_false c2, if_pos (.inl (by omega))]; rfl
      · rw [decide_eq_false c1] at n1
        rw [e_seq, e_ite, or_f t1 (or_f (not_r n0) (not_r n1)), bind_ok, if_pos (.inr (by omega) : numIn p ≤ b ∨ numIn q < 1)]; rfl
    · rw [decide_eq_false c0] at n0
      rw [e_seq, e_ite, or_f t1 (or_t (not_r n0)), bind_ok, if_pos (.inl (by omega) : numIn p ≤ b ∨ numIn q < 1)]; rfl

/-! ### the law's first wrong word -/
theorem pairIn_parts {w : List Nat} {b : Int} {x : P2} (hb : -1 ≤ b) (h : pairIn w b = some x) : ∃ p q, splC 58 [] w = [p, q] ∧ x = (numIn p, numIn q) ∧ 0 ≤ numIn p := by
  have ok := (pairIn_ok hb h).2
  unfold pairIn at h
  split at h
  · rename_i p q e
    split at h
    · cases h
    · have h : (numIn p, numIn q) = x := by simpa using h
      subst h
      exact ⟨p, q, e, rfl, ok.1⟩
  · cases h
def erD (e : Er) : D := .lst [.int e.1, .int e.2]
theorem lst2_r {fa fb : En → M D} {δ : En} {s : S} {a b : D} (ha : fa δ s = .ok a s) (hb : fb δ s = .ok b s) : cLst (cCons fa (cCons fb cNil)) δ s = .ok (.lst [a, b]) s := by
  rw [e_lst, e_cons, ha, bind_ok, e_cons, hb, bind_ok, e_nil, bind_ok, bind_ok, bind_ok]; rfl
theorem wrong_for {R : D} {full : List (List Nat)} {k : Int} (hix : gIx R (.int k) = some (rowD full)) (hw : WOk full) (hw9 : ∀ w ∈ full, w.length ≤ 90000) : ∀ (rest pre : List (List Nat)) (done : List P2) (bf : List Nat) (d3 : Option D) (s : S), full = pre ++ rest → pre.length = done.length + 1 → done.length ≤ 5 → (∀ y ∈ done, PO y) → Bef bf (lastW done) →
    (∀ e, buyL (k + 1) done pre.length rest = .error e → forL (tgName 3) l1__law_wrong (upto pre.length rest.length) [some R, some (.int k), some (sD bf), d3] s = .ok (.ret (erD e)) s) ∧
    (∀ bs, buyL (k + 1) done pre.length rest = .ok bs → ∃ e2 e3, forL (tgName 3) l1__law_wrong (upto pre.length rest.length) [some R, some (.int k), some (sD bf), d3] s = .ok (.next [some R, some (.int k), e2, e3]) s)
  | [], pre, done, bf, d3, s, _, _, _, _, _ => ⟨fun e h => by simp [buyL] at h, fun bs h => ⟨some (sD bf), d3, rfl⟩⟩
  | w :: ws, pre, done, bf, d3, s, hf, hp, hd, hpo, hb => by
    rw [List.length_cons, upto_cons, forL]
    rw [show tgName 3 (D.int (pre.length : Int)) [some R, some (.int k), some (sD bf), d3] = some [some R, some (.int k), some (sD bf), some (.int (pre.length : Int))] from rfl, lift_some, bind_ok]
    let δ : En := [some R, some (.int k), some (sD bf), some (.int (pre.length : Int))]
    have x1 : ∀ s, cOp gIx (cVar 0) (cVar 1) δ s = .ok (rowD full) s := fun s => op_r (a := R) rfl rfl hix
    have x2 : ∀ s, cOp gIx (cOp gIx (cVar 0) (cVar 1)) (cVar 3) δ s = .ok (sD w) s := fun s => op_r (x1 s) rfl (by unfold rowD; rw [g_ixL, at_nat, hf]; simp)
    have hwm : w ∈ full := by rw [hf]; simp
    have ha := (hw w hwm).1
    have hl9 := hw9 w hwm
    have r1 : ∀ s, cLst (cCons (cOp gAdd (cVar 1) (cC (.int 1))) (cCons (cOp gAdd (cVar 3) (cC (.int 1))) cNil)) δ s = .ok (erD (k + 1, pre.length + 1)) s := fun s => lst2_r (op_r rfl rfl (g_add _ _)) (op_r rfl rfl (g_add _ _))
    have hbm : -1 ≤ lastW done := lastW_ge hpo
    show (∀ e, _ → (l1__law_wrong δ s).bind _ = _) ∧ (∀ bs, _ → ∃ e2 e3, (l1__law_wrong δ s).bind _ = _)
    by_cases h5 : done.length = 5
    · have t1 : cTst (cOp gEq (cVar 3) (cC (.int 6))) δ s = .ok true s := tst_op (a := .int (pre.length : Int)) rfl rfl (by rw [g_eqI, decide_eq_true (by omega)])
      have key : l1__law_wrong δ s = .ok (.ret (erD (k + 1, pre.length + 1))) s := by
        unfold l1__law_wrong
        rw [e_seq, e_ite, or_t t1, bind_ok, if_pos rfl, e_ret, r1]; rfl
      have hbl : buyL (k + 1) done pre.length (w :: ws) = .error (k + 1, pre.length + 1) := by
        unfold buyL
        cases pairIn w (lastW done) with
        | none => rfl
        | some x => simp only [h5, if_true]
      rw [key, hbl]
      refine ⟨fun e h => ?_, fun bs h => by simp at h⟩
      have h : (k + 1, (pre.length : Int) + 1) = e := by simpa using h
      subst h; rfl
    · have t1 : cTst (cOp gEq (cVar 3) (cC (.int 6))) δ s = .ok false s := tst_op (a := .int (pre.length : Int)) rfl rfl (by rw [g_eqI, decide_eq_false (by omega)])
      have t2 : cTst (cCall 2 f__law_pair (cCons (cOp gIx (cOp gIx (cVar 0) (cVar 1)) (cVar 3)) (cCons (cVar 2) cNil))) δ s = .ok (pairIn w (lastW done)).isSome s := tst_r (call2_r (x2 s) (rfl : cVar 2 δ s = .ok (sD bf) s) (law_pair_is ha hl9 hb s))
      cases hq : pairIn w (lastW done) with
      | none =>
        rw [hq] at t2
        have key : l1__law_wrong δ s = .ok (.ret (erD (k + 1, pre.length + 1))) s := by
          unfold l1__law_wrong
          rw [e_seq, e_ite, or_f t1 (not_r t2), bind_ok, show (!(none : Option P2).isSome) = true from rfl, if_pos rfl, e_ret, r1]; rfl
        have hbl : buyL (k + 1) done pre.length (w :: ws) = .error (k + 1, pre.length + 1) := by
          unfold buyL
          rw [hq]
        rw [key, hbl]
        refine ⟨fun e h => ?_, fun bs h => by simp at h⟩
        have h : (k + 1, (pre.length : Int) + 1) = e := by simpa using h
        subst h; rfl
      | some x =>
        rw [hq] at t2
        obtain ⟨p, q, hs, hx, h0⟩ := pairIn_parts hbm hq
        have hxo := (pairIn_ok hbm hq).2
        have e1 := split_text colon_tl colon_k w (by omega)
        rw [hs] at e1
        have sp : cOp gIx (cM1 gSplit (cOp gIx (cOp gIx (cVar 0) (cVar 1)) (cVar 3)) (cC (.str ":"))) (cC (.int 0)) δ s = .ok (sD p) s := by
          refine op_r (a := .lst [sD p, sD q]) ?_ rfl rfl
          rw [e_m1, x2, bind_ok, show asS (sD w) = some ⟨w.toArray⟩ from rfl, lift_some, bind_ok, e_c, bind_ok, e1]; rfl
        have key : l1__law_wrong δ s = .ok (.next [some R, some (.int k), some (sD p), some (.int (pre.length : Int))]) s := by
          unfold l1__law_wrong
          rw [e_seq, e_ite, or_f t1 (not_r t2), bind_ok]
          show cSet 2 _ δ s = _
          rw [e_set, sp]; rfl
        have hbl : buyL (k + 1) done pre.length (w :: ws) = buyL (k + 1) (done ++ [x]) (pre.length + 1) ws := by
          rw [buyL, hq]
          show (if done.length = 5 then _ else _) = _
          rw [if_neg h5]
        rw [key, hbl]
        have hpn : p = TL.numL (numIn p).toNat := numIn_back h0
        have ih := wrong_for hix hw hw9 ws (pre ++ [w]) (done ++ [x]) p (some (.int (pre.length : Int))) s (by rw [hf]; simp) (by simp; omega) (by simp; omega) (fun y hy => by
          rcases List.mem_append.mp hy with q | q
          · exact hpo y q
          · have : y = x := by simpa using q
            subst this; exact hxo) (by
          rw [lastW_snoc, hx]
          exact .inr ⟨h0, (numIn_ge p).2, hpn⟩)
        have e1 : ((pre ++ [w]).length : Int) = (pre.length : Int) + 1 := by simp
        rw [e1] at ih
        exact ih
theorem buyL_count (line : Int) : ∀ (rest : List (List Nat)) (done : List P2) (a : Int) (bs : List P2), buyL line done a rest = .ok bs → bs.length = done.length + rest.length
  | [], done, a, bs, e => by
    have e : done = bs := by simpa [buyL] using e
    subst e; rfl
  | w :: ws, done, a, bs, e => by
    unfold buyL at e
    split at e
    · cases e
    · split at e
      · cases e
      · have := buyL_count line ws _ _ bs e
        simp at this ⊢; omega
theorem wrong_rows {rows : List (List (List Nat))} (hok : ∀ ws ∈ rows, WOk ws ∧ ws.length ≤ 50000 ∧ ∀ w ∈ ws, w.length ≤ 90000) : ∀ (rest pre : List (List (List Nat))) (crowd : List (List P2)) (d1 d2 d3 : Option D) (s : S), rows = pre ++ rest → pre.length = crowd.length + 1 → crowd.length ≤ 4 →
    (∀ e, rdL crowd pre.length rest = .error e → forL (tgName 1) l2__law_wrong (upto pre.length rest.length) [some (.lst (rows.map rowD)), d1, d2, d3] s = .ok (.ret (erD e)) s) ∧
    (∀ bs, rdL crowd pre.length rest = .ok bs → ∃ e1 e2 e3, forL (tgName 1) l2__law_wrong (upto pre.length rest.length) [some (.lst (rows.map rowD)), d1, d2, d3] s = .ok (.next [some (.lst (rows.map rowD)), e1, e2, e3]) s)
  | [], pre, crowd, d1, d2, d3, s, _, _, _ => ⟨fun e h => by simp [rdL] at h, fun bs h => ⟨d1, d2, d3, rfl⟩⟩
  | r :: rs, pre, crowd, d1, d2, d3, s, hf, hp, hd => by
    rw [List.length_cons, upto_cons, forL]
    rw [show tgName 1 (D.int (pre.length : Int)) [some (.lst (rows.map rowD)), d1, d2, d3] = some [some (.lst (rows.map rowD)), some (.int (pre.length : Int)), d2, d3] from rfl, lift_some, bind_ok]
    let R : D := .lst (rows.map rowD)
    have hix : gIx R (.int (pre.length : Int)) = some (rowD r) := by
      show gIx (.lst (rows.map rowD)) (.int (pre.length : Int)) = some (rowD r)
      rw [g_ixL, at_nat, hf]; simp
    obtain ⟨hr, hrl, hr9⟩ := hok r (by rw [hf]; simp)
    let δ : En := [some R, some (.int (pre.length : Int)), d2, d3]
    have x1 : ∀ s, cOp gIx (cVar 0) (cVar 1) δ s = .ok (rowD r) s := fun s => op_r (a := R) rfl rfl hix
    have t1 : ∀ s, cTst (cOp gNe (cSl (cOp gIx (cVar 0) (cVar 1)) cNo (cPart (cC (.int 1)))) (cLst (cCons (cC (.str "buyer")) cNil))) δ s = .ok (!decide (r.take 1 = [buW])) s :=
      fun s => tst_op (sl_to (x1 s) (sl1 r)) (lst1_r (by rw [e_c, lit_bu])) (ne_bu hr)
    have t2 : ∀ s, cTst (cOp gEq (cVar 1) (cC (.int 5))) δ s = .ok (decide (crowd.length = 4)) s := fun s => tst_op (a := .int (pre.length : Int)) rfl rfl (by
      rw [g_eqI]
      congr 2
      exact decide_eq_decide.mpr (by omega))
    have t3 : cOr (cTst (cOp gNe (cSl (cOp gIx (cVar 0) (cVar 1)) cNo (cPart (cC (.int 1)))) (cLst (cCons (cC (.str "buyer")) cNil)))) (cTst (cOp gEq (cVar 1) (cC (.int 5)))) δ s = .ok (!decide (r.take 1 = [buW] ∧ crowd.length ≠ 4)) s := by
      by_cases c1 : r.take 1 = [buW]
      · by_cases c2 : crowd.length = 4
        · rw [decide_eq_false (fun z => z.2 c2)]
          rw [decide_eq_true c1] at t1
          rw [decide_eq_true c2] at t2
          exact or_f (t1 s) (t2 s)
        · rw [decide_eq_true ⟨c1, c2⟩]
          rw [decide_eq_true c1] at t1
          rw [decide_eq_false c2] at t2
          exact or_f (t1 s) (t2 s)
      · rw [decide_eq_false (fun z => c1 z.1)]
        rw [decide_eq_false c1] at t1
        exact or_t (t1 s)
    have gL : gLen [rowD r] = some (.int (r.length : Int)) := by unfold rowD; rw [g_lenL, List.length_map]
    have t4 : cTst (cOp gEq (cB gLen (cCons (cOp gIx (cVar 0) (cVar 1)) cNil)) (cC (.int 1))) δ s = .ok (decide ((r.length : Int) = 1)) s := tst_op (b1_r (x1 s) gL) rfl (g_eqI _ _)
    show (∀ e, _ → (l2__law_wrong δ s).bind _ = _) ∧ (∀ bs, _ → ∃ e1 e2 e3, (l2__law_wrong δ s).bind _ = _)
    unfold rdL
    by_cases c : r.take 1 = [buW] ∧ crowd.length ≠ 4
    · rw [decide_eq_true c] at t3
      simp only [if_pos c]
      match r, hix, hr, hrl, hr9, x1, t3, gL, t4, c with
      | [], _, _, _, _, _, _, _, _, c => exact absurd c.1 (by simp)
      | [r0], hix, hr, hrl, hr9, x1, t3, gL, t4, c =>
        have t4 : cTst (cOp gEq (cB gLen (cCons (cOp gIx (cVar 0) (cVar 1)) cNil)) (cC (.int 1))) δ s = .ok true s := t4
        have r1 : cLst (cCons (cOp gAdd (cVar 1) (cC (.int 1))) (cCons (cC (.int 2)) cNil)) δ s = .ok (erD (pre.length + 1, 2)) s := lst2_r (op_r rfl rfl (g_add _ _)) rfl
        have key : l2__law_wrong δ s = .ok (.ret (erD (pre.length + 1, 2))) s := by
          unfold l2__law_wrong
          rw [e_seq, e_ite, t3, bind_ok]
          show cSeq _ _ δ s = _
          rw [e_seq, e_ite, t4, bind_ok, if_pos rfl, e_ret, r1]; rfl
        have hbi : buyerIn (pre.length + 1) [r0] = .error ((pre.length : Int) + 1, 2) := rfl
        rw [key, hbi]
        refine ⟨fun e h => ?_, fun bs h => by simp at h⟩
        have h : ((pre.length : Int) + 1, (2 : Int)) = e := by simpa using h
        subst h; rfl
      | r0 :: r1 :: rt, hix, hr, hrl, hr9, x1, t3, gL, t4, c =>
        rw [decide_eq_false (by simp; omega)] at t4
        have r2 : gR2 [.int 1, .int ((r0 :: r1 :: rt).length : Int)] = some (upto 1 (r1 :: rt).length) := by
          rw [List.length_cons] at hrl ⊢
          rw [g_r2 _ _ (by omega)]
          congr 2
          omega
        let δ2 : En := [some R, some (.int (pre.length : Int)), some (sD []), d3]
        have x1' : cOp gIx (cVar 0) (cVar 1) δ2 s = .ok (rowD (r0 :: r1 :: rt)) s := op_r (a := R) rfl rfl hix
        have ir : cItA gR2 (cCons (cC (.int 1)) (cCons (cB gLen (cCons (cOp gIx (cVar 0) (cVar 1)) cNil)) cNil)) δ2 s = .ok (upto 1 (r1 :: rt).length) s := by
          rw [e_itA, e_cons, e_c, bind_ok, e_cons, b1_r x1' gL, bind_ok, e_nil, bind_ok, bind_ok, bind_ok, r2]; rfl
        have key : l2__law_wrong δ s = forL (tgName 3) l1__law_wrong (upto 1 (r1 :: rt).length) δ2 s := by
          unfold l2__law_wrong
          rw [e_seq, e_ite, t3, bind_ok]
          show cSeq _ _ δ s = _
          rw [e_seq, e_ite, t4, bind_ok, if_neg (by decide), e_next, bind_ok]
          dsimp only
          rw [e_seq, e_set, e_c, bind_ok, bind_ok, lit_e]
          show cFor _ _ _ δ2 s = _
          rw [e_for, ir, bind_ok]
        have inner := wrong_for (k := (pre.length : Int)) hix hr hr9 (r1 :: rt) [r0] [] [] d3 s rfl rfl (by simp) (by simp) (.inl ⟨rfl, rfl⟩)
        obtain ⟨k1, k2⟩ := inner
        rw [key]
        have hbi : buyerIn (pre.length + 1) (r0 :: r1 :: rt) = match buyL (pre.length + 1) [] 1 (r1 :: rt) with | .error e => .error e | .ok [] => .error ((pre.length : Int) + 1, 2) | .ok bs => .ok bs := rfl
        rw [hbi]
        cases hb : buyL ((pre.length : Int) + 1) [] 1 (r1 :: rt) with
        | error e =>
          have h1 := k1 e hb
          refine ⟨fun e' h => ?_, fun bs h => by simp at h⟩
          have h : e = e' := by simpa using h
          subst h
          show (forL (tgName 3) l1__law_wrong (upto (([r0] : List (List Nat)).length : Int) (r1 :: rt).length) δ2 s).bind _ = _
          rw [h1]; rfl
        | ok b =>
          obtain ⟨e2, e3, h2⟩ := k2 b hb
          have hcount := buyL_count _ _ _ _ _ hb
          match b, hcount, h2 with
          | [], hcount, _ => simp at hcount
          | x :: b, hcount, h2 =>
            have ih := wrong_rows hok rs (pre ++ [r0 :: r1 :: rt]) (crowd ++ [x :: b]) (some (.int (pre.length : Int))) e2 e3 s (by rw [hf]; simp) (by simp; omega) (by have := c.2; simp; omega)
            have e1 : ((pre ++ [r0 :: r1 :: rt]).length : Int) = (pre.length : Int) + 1 := by simp
            rw [e1] at ih
            have h3 : forL (tgName 3) l1__law_wrong (upto 1 (r1 :: rt).length) δ2 s = .ok (.next [some R, some (.int (pre.length : Int)), e2, e3]) s := h2
            rw [h3]
            exact ih
    · rw [decide_eq_false c] at t3
      have r1 : cLst (cCons (cOp gAdd (cVar 1) (cC (.int 1))) (cCons (cC (.int 1)) cNil)) δ s = .ok (erD (pre.length + 1, 1)) s := lst2_r (op_r rfl rfl (g_add _ _)) rfl
      have key : l2__law_wrong δ s = .ok (.ret (erD (pre.length + 1, 1))) s := by
        unfold l2__law_wrong
        rw [e_seq, e_ite, t3, bind_ok, show (!false) = true from rfl, if_pos rfl, e_ret, r1]; rfl
      rw [key]
      simp only [if_neg c]
      refine ⟨fun e h => ?_, fun bs h => by simp at h⟩
      have h : ((pre.length : Int) + 1, (1 : Int)) = e := by simpa using h
      subst h; rfl

/-! ### the law's verdict on a text, and the program's -/
def rfD {α : Type} : Except Er α → D
  | .error e => erD e
  | .ok _ => .non
theorem num123 (w : List Nat) : (1 ≤ numIn w ∧ numIn w ≤ 3) ↔ (w = [49] ∨ w = [50] ∨ w = [51]) := by
  constructor
  · rintro ⟨h1, h2⟩
    have e := numIn_back (l := w) (by omega)
    have : numIn w = 1 ∨ numIn w = 2 ∨ numIn w = 3 := by omega
    rcases this with h | h | h
    · rw [h] at e; exact .inl (e.trans (TL.numL_lt (n := 1) (by decide)))
    · rw [h] at e; exact .inr (.inl (e.trans (TL.numL_lt (n := 2) (by decide))))
    · rw [h] at e; exact .inr (.inr (e.trans (TL.numL_lt (n := 3) (by decide))))
  · have k : ∀ n : Nat, n < 10 → numIn [48 + n] = n := fun n hn => by
      rw [← TL.numL_lt hn, numIn_numL (by omega)]
    rintro (rfl | rfl | rfl)
    · rw [show numIn [49] = 1 from k 1 (by decide)]; decide
    · rw [show numIn [50] = 2 from k 2 (by decide)]; decide
    · rw [show numIn [51] = 3 from k 3 (by decide)]; decide
theorem lit123 : D.str "1" = sD [49] ∧ D.str "2" = sD [50] ∧ D.str "3" = sD [51] := by
  have h1 : TL.tl ("1" : Str) = [49] := by decide +kernel
  have h2 : TL.tl ("2" : Str) = [50] := by decide +kernel
  have h3 : TL.tl ("3" : Str) = [51] := by decide +kernel
  rw [← h1, ← h2, ← h3, sD_tl, sD_tl, sD_tl]; exact ⟨rfl, rfl, rfl⟩
theorem notin123 (w : List Nat) : gNotIn (sD w) (.lst [sD [49], sD [50], sD [51]]) = some (.bl (!decide (1 ≤ numIn w ∧ numIn w ≤ 3))) := by
  show some (D.bl (!(((⟨[49].toArray⟩ : Str) == ⟨w.toArray⟩) || (((⟨[50].toArray⟩ : Str) == ⟨w.toArray⟩) || (((⟨[51].toArray⟩ : Str) == ⟨w.toArray⟩) || false))))) = _
  congr 3
  have b : ∀ l : List Nat, ((⟨l.toArray⟩ : Str) == ⟨w.toArray⟩) = decide (w = l) := fun l => by
    by_cases h : w = l
    · subst h; simp
    · rw [decide_eq_false h]
      have : ¬ ((⟨l.toArray⟩ : Str) = ⟨w.toArray⟩) := fun z => h (s_inj.mp z).symm
      simpa using this
  rw [b, b, b]
  by_cases h : 1 ≤ numIn w ∧ numIn w ≤ 3
  · rw [decide_eq_true h]
    rcases (num123 w).mp h with rfl | rfl | rfl <;> simp
  · rw [decide_eq_false h]
    have h' := fun z => h ((num123 w).mpr z)
    rw [decide_eq_false (fun z => h' (.inl z)), decide_eq_false (fun z => h' (.inr (.inl z))), decide_eq_false (fun z => h' (.inr (.inr z)))]; rfl
theorem rdL_count : ∀ (rest : List (List (List Nat))) (crowd : List (List P2)) (a : Int) (bs : List (List P2)), rdL crowd a rest = .ok bs → bs.length = crowd.length + rest.length
  | [], crowd, a, bs, e => by
    have e : crowd = bs := by simpa [rdL] using e
    subst e; rfl
  | r :: rs, crowd, a, bs, e => by
    unfold rdL at e
    split at e
    · split at e
      · cases e
      · have := rdL_count rs _ _ bs e
        simp at this ⊢; omega
    · cases e
def ROk (rows : List (List (List Nat))) : Prop := rows ≠ [] ∧ rows.length ≤ 50000 ∧ ∀ ws ∈ rows, WOk ws ∧ ws.length ≤ 50000 ∧ ∀ w ∈ ws, w.length ≤ 90000
theorem law_wrong_is {rows : List (List (List Nat))} (hok : ROk rows) (s : S) : f__law_wrong [.lst (rows.map rowD)] s = .ok (rfD (readR rows)) s := by
  obtain ⟨hne, hm, hok⟩ := hok
  rw [u__law_wrong]; unfold b__law_wrong
  match rows, hne with
  | ws :: rs, _ =>
    generalize hR : D.lst ((ws :: rs).map rowD) = R
    let δ : En := [some R, none, none, none]
    obtain ⟨hw, hwl, hw9⟩ := hok ws (by simp)
    have x0 : ∀ s, cOp gIx (cVar 0) (cC (.int 0)) δ s = .ok (rowD ws) s := fun s => op_r (a := R) rfl rfl (by rw [← hR, g_ixL, at_0]; rfl)
    have t1 : cTst (cOp gNe (cSl (cOp gIx (cVar 0) (cC (.int 0))) cNo (cPart (cC (.int 1)))) (cLst (cCons (cC (.str "things")) cNil))) δ s = .ok (!decide (ws.take 1 = [thW])) s := tst_op (sl_to (x0 s) (sl1 ws)) (lst1_r (by rw [e_c, lit_th])) (ne_th hw)
    have gL : gLen [rowD ws] = some (.int (ws.length : Int)) := by unfold rowD; rw [g_lenL, List.length_map]
    have t2 : cTst (cOp gLt (cB gLen (cCons (cOp gIx (cVar 0) (cC (.int 0))) cNil)) (cC (.int 2))) δ s = .ok (decide ((ws.length : Int) < 2)) s := tst_op (b1_r (x0 s) gL) rfl rfl
    have t4 : cTst (cOp gGt (cB gLen (cCons (cOp gIx (cVar 0) (cC (.int 0))) cNil)) (cC (.int 2))) δ s = .ok (decide ((2 : Int) < ws.length)) s := tst_op (b1_r (x0 s) gL) rfl rfl
    have r1 : ∀ a b : Int, cLst (cCons (cC (.int a)) (cCons (cC (.int b)) cNil)) δ s = .ok (erD (a, b)) s := fun a b => lst2_r rfl rfl
    show ((cSeq (cIte _ _ _) _ δ s).bind endD) = _
    unfold readR thingsIn
    rw [List.headD_cons, List.tail_cons]
    by_cases c1 : ws.take 1 = [thW]
    · rw [if_pos c1]
      rw [decide_eq_true c1] at t1
      rw [e_seq, e_ite, t1, bind_ok, if_neg (by decide), e_next, bind_ok]
      dsimp only
      match ws, x0, hw, hwl, hw9, t2, t4, gL, c1, hR with
      | [], _, _, _, _, _, _, _, c1, _ => exact absurd c1 (by simp)
      | [a], x0, hw, hwl, hw9, t2, t4, gL, c1, hR =>
        have t2 : cTst (cOp gLt (cB gLen (cCons (cOp gIx (cVar 0) (cC (.int 0))) cNil)) (cC (.int 2))) δ s = .ok true s := t2
        rw [e_seq, e_ite, or_t t2, bind_ok, if_pos rfl, e_ret, r1]; rfl
      | a :: w :: t, x0, hw, hwl, hw9, t2, t4, gL, c1, hR =>
        rw [decide_eq_false (by simp; omega)] at t2
        have x1 : cOp gIx (cOp gIx (cVar 0) (cC (.int 0))) (cC (.int 1)) δ s = .ok (sD w) s := op_r (x0 s) rfl (by unfold rowD; rw [g_ixL, at_1]; rfl)
        have l3 : cLst (cCons (cC (.str "1")) (cCons (cC (.str "2")) (cCons (cC (.str "3")) cNil))) δ s = .ok (.lst [sD [49], sD [50], sD [51]]) s := by
          rw [← lit123.1, ← lit123.2.1, ← lit123.2.2]; rfl
        have t3 : cTst (cOp gNotIn (cOp gIx (cOp gIx (cVar 0) (cC (.int 0))) (cC (.int 1))) (cLst (cCons (cC (.str "1")) (cCons (cC (.str "2")) (cCons (cC (.str "3")) cNil))))) δ s = .ok (!decide (1 ≤ numIn w ∧ numIn w ≤ 3)) s := tst_op x1 l3 (notin123 w)
        by_cases n : 1 ≤ numIn w ∧ numIn w ≤ 3
        · rw [decide_eq_true n] at t3
          rw [e_seq, e_ite, or_f t2 t3, bind_ok, if_neg (by decide), e_next, bind_ok]
          dsimp only
          match t, x0, hw, hwl, hw9, t2, t4, gL, c1, x1, hR with
          | b :: t, x0, hw, hwl, hw9, t2, t4, gL, c1, x1, hR =>
            rw [decide_eq_true (by simp; omega)] at t4
            rw [e_seq, e_ite, t4, bind_ok, if_pos rfl, e_ret, r1]
            simp only [if_pos n]; rfl
          | [], x0, hw, hwl, hw9, t2, t4, gL, c1, x1, hR =>
            have t4 : cTst (cOp gGt (cB gLen (cCons (cOp gIx (cVar 0) (cC (.int 0))) cNil)) (cC (.int 2))) δ s = .ok false s := t4
            rw [e_seq, e_ite, t4, bind_ok, if_neg (by decide), e_next, bind_ok]
            dsimp only
            rw [if_pos n]
            dsimp only
            have gR : gLen [R] = some (.int ((([a, w] :: rs).length : Nat) : Int)) := by rw [← hR, g_lenL, List.length_map]
            have r2 : gR2 [.int 1, .int ((([a, w] :: rs).length : Nat) : Int)] = some (upto 1 rs.length) := by
              rw [List.length_cons] at hm ⊢
              rw [g_r2 _ _ (by omega)]
              congr 2
              omega
            have ir : cItA gR2 (cCons (cC (.int 1)) (cCons (cB gLen (cCons (cVar 0) cNil)) cNil)) δ s = .ok (upto 1 rs.length) s := by
              rw [e_itA, e_cons, e_c, bind_ok, e_cons, b1_r (a := R) rfl gR, bind_ok, e_nil, bind_ok, bind_ok, bind_ok, r2]; rfl
            obtain ⟨k1, k2⟩ := wrong_rows hok rs [[a, w]] [] none none none s rfl rfl (by simp)
            rw [show (([[a, w]] : List (List (List Nat))).length : Int) = 1 from rfl, hR] at k1 k2
            rw [e_seq, e_for, ir, bind_ok]
            cases hb : rdL [] 1 rs with
            | error e =>
              have h1 := k1 e hb
              have h1 : forL (tgName 1) l2__law_wrong (upto 1 rs.length) δ s = .ok (.ret (erD e)) s := h1
              rw [h1]; rfl
            | ok bs =>
              obtain ⟨e1, e2, e3, h2⟩ := k2 bs hb
              have h2 : forL (tgName 1) l2__law_wrong (upto 1 rs.length) δ s = .ok (.next [some R, e1, e2, e3]) s := h2
              have hc := rdL_count _ _ _ _ hb
              rw [h2, bind_ok]
              dsimp only
              have t5 : cTst (cOp gEq (cB gLen (cCons (cVar 0) cNil)) (cC (.int 1))) [some R, e1, e2, e3] s = .ok (decide (((([a, w] :: rs).length : Nat) : Int) = 1)) s := tst_op (b1_r (a := R) rfl gR) rfl (g_eqI _ _)
              clear ir r2 gR k1 k2 hb h2 hR hok hm
              match rs, bs, hc, t5 with
              | [], [], _, t5 =>
                have t5 : cTst (cOp gEq (cB gLen (cCons (cVar 0) cNil)) (cC (.int 1))) [some R, e1, e2, e3] s = .ok true s := t5
                rw [e_ret, e_if, t5]; rfl
              | [], b :: bs, hc, _ => simp at hc
              | r :: rs, [], hc, _ => simp at hc
              | r :: rs, b :: bs, _, t5 =>
                rw [decide_eq_false (by simp; omega)] at t5
                rw [e_ret, e_if, t5]; rfl
        · rw [decide_eq_false n] at t3
          rw [e_seq, e_ite, or_f t2 t3, bind_ok, show (!false) = true from rfl, if_pos rfl, e_ret, r1]
          cases t with
          | nil => simp only [if_neg n]; rfl
          | cons b t => simp only [if_neg n]; rfl
    · rw [if_neg c1]
      rw [decide_eq_false c1] at t1
      rw [e_seq, e_ite, t1, bind_ok, show (!false) = true from rfl, if_pos rfl, e_ret, r1]; rfl

/-! ### how a text is refused -/
theorem xfl_it : xFl "InvalidText" = (["word", "line"] : List Str) := by decide +kernel
theorem fld_line (a b : D) : fldOf "line" ⟨"InvalidText", [b, a]⟩ = some a := by
  unfold fldOf
  rw [xfl_it]
  have h1 : (("line" : Str) == ("word" : Str)) = false := by decide +kernel
  simp [List.lookup, h1]
theorem fld_word (a b : D) : fldOf "word" ⟨"InvalidText", [b, a]⟩ = some b := by
  unfold fldOf
  rw [xfl_it]
  simp [List.lookup]
theorem refused_is {l : List Nat} (ha : Asc l) (hl : l.length ≤ 49000) (s : S) : f__law_refused [sD l] s = .ok (rfD (readR (rowsOf l))) s := by
  rw [u__law_refused]; unfold b__law_refused
  have hr : cCall 1 f_read (cCons (cQ (cVar 0)) cNil) [some (sD l), some .non, none] s = ofE (fun x => salD x.1 x.2) s (readR (rowsOf l)) := by
    rw [e_call, e_cons, e_q, e_var]
    exact read_is ha hl s
  rw [e_seq, e_set, e_c, bind_ok, bind_ok]
  show ((cSeq (cTry _ _ _) _ [some (sD l), some .non, none] s).bind endD) = _
  rw [e_seq, e_try, hr]
  cases readR (rowsOf l) with
  | ok x => rfl
  | error e =>
    show (((tryO xsL h1__law_refused [some (sD l), some .non, none] (.err ⟨"InvalidText", [.int e.2, .int e.1]⟩ s)).bind _).bind endD) = _
    have hx : (("InvalidText" : Str)) ∈ xsL := by simp [xsL]
    rw [tryO_err, if_pos hx]
    unfold h1__law_refused
    rw [tryH_cons, if_pos (show isA "InvalidText" "InvalidText" = true by decide +kernel), e_hdAs, if_pos (by simp)]
    have f1 : cFld "InvalidText" "line" ⟨"InvalidText", [.int e.2, .int e.1]⟩ ([some (sD l), some .non, none].set 2 none) s = .ok (.int e.1) s := by
      rw [e_fld, if_pos rfl, fld_line]; rfl
    have f2 : cFld "InvalidText" "word" ⟨"InvalidText", [.int e.2, .int e.1]⟩ ([some (sD l), some .non, none].set 2 none) s = .ok (.int e.2) s := by
      rw [e_fld, if_pos rfl, fld_word]; rfl
    rw [e_xlst, e_xcons, f1, bind_ok, e_xcons, f2]
    rfl
/-! ### the texts are changed -/
theorem cutD_map {α β : Type} (f : α → β) (l : List α) (lo hi : Option Int) : cutD (l.map f) lo hi = (cutD l lo hi).map f := by
  unfold cutD
  rw [List.length_map, List.map_take, List.map_drop]
theorem cut_lo {α : Type} (l : List α) {k : Int} (h : 0 ≤ k) : cutD l (some k) none = l.drop k.toNat := by
  obtain ⟨n, rfl⟩ : ∃ n : Nat, k = n := ⟨k.toNat, by omega⟩
  unfold cutD
  rw [HT.sIx_nat, HT.sIx_none, Int.toNat_natCast]
  rcases Nat.le_total n l.length with q | q
  · rw [Nat.min_eq_left q, ← List.length_drop, List.take_length]
  · rw [Nat.min_eq_right q, Nat.sub_self, List.take_zero, List.drop_eq_nil_of_le q]
theorem cut_mid {α : Type} (l : List α) (p q : Nat) (hp : p ≤ l.length) : cutD l (some (p : Int)) (some (q : Int)) = (l.drop p).take (min q l.length - p) := by
  unfold cutD
  rw [HT.sIx_nat, HT.sIx_nat, Nat.min_eq_left hp]
theorem sl_up {rows : List (List (List Nat))} {n : Int} (h : 0 ≤ n) : gSl (.lst (rows.map rowD)) none (some n) = some (.lst ((rows.take n.toNat).map rowD)) := by
  show some (D.lst (cutD (rows.map rowD) none (some n))) = _
  rw [cut_to' _ n h, List.map_take]
theorem sl_dn {rows : List (List (List Nat))} {n : Int} (h : 0 ≤ n) : gSl (.lst (rows.map rowD)) (some n) none = some (.lst ((rows.drop n.toNat).map rowD)) := by
  show some (D.lst (cutD (rows.map rowD) (some n) none)) = _
  rw [cut_lo _ h, List.map_drop]
theorem slw_up {ws : List (List Nat)} {n : Int} (h : 0 ≤ n) : gSl (rowD ws) none (some n) = some (rowD (ws.take n.toNat)) := by
  show some (D.lst (cutD (ws.map sD) none (some n))) = _
  rw [cut_to' _ n h]
  unfold rowD
  rw [List.map_take]
theorem slw_dn {ws : List (List Nat)} {n : Int} (h : 0 ≤ n) : gSl (rowD ws) (some n) none = some (rowD (ws.drop n.toNat)) := by
  show some (D.lst (cutD (ws.map sD) (some n) none)) = _
  rw [cut_lo _ h]
  unfold rowD
  rw [List.map_drop]
theorem addw {a b : List (List Nat)} (h : a.length + b.length ≤ 100000) : gAdd (rowD a) (rowD b) = some (rowD (a ++ b)) := by
  unfold rowD
  rw [g_addL _ _ (by simpa using h), List.map_append]
theorem addr {a b : List (List (List Nat))} (h : a.length + b.length ≤ 100000) : gAdd (.lst (a.map rowD)) (.lst (b.map rowD)) = some (.lst ((a ++ b).map rowD)) := by
  rw [g_addL _ _ (by simpa using h), List.map_append]
section
variable {fa fl fh : En → M D} {δ : En} {s : S} {a d : D} {n m : Int}
theorem sl_from (ha : fa δ s = .ok a s) (hl : fl δ s = .ok (.int n) s) (h : gSl a (some n) none = some d) : cSl fa (cPart fl) cNo δ s = .ok d s := by
  rw [e_sl, ha, bind_ok, e_part, hl, bind_ok, g_asI, lift_some, bind_ok, bind_ok, e_no, bind_ok, h]; rfl
theorem sl_upto (ha : fa δ s = .ok a s) (hl : fl δ s = .ok (.int n) s) (h : gSl a none (some n) = some d) : cSl fa cNo (cPart fl) δ s = .ok d s := by
  rw [e_sl, ha, bind_ok, e_no, bind_ok, e_part, hl, bind_ok, g_asI, lift_some, bind_ok, bind_ok, h]; rfl
theorem sl_both (ha : fa δ s = .ok a s) (hl : fl δ s = .ok (.int n) s) (hh : fh δ s = .ok (.int m) s) (h : gSl a (some n) (some m) = some d) : cSl fa (cPart fl) (cPart fh) δ s = .ok d s := by
  rw [e_sl, ha, bind_ok, e_part, hl, bind_ok, g_asI, lift_some, bind_ok, bind_ok, e_part, hh, bind_ok, g_asI, lift_some, bind_ok, bind_ok, h]; rfl
end
def oddS : List Str := ["things", "buyer", "1", "2", "4", "0", "0:1", "1:0", "1:1", "7:2", "50:1", "01:1", "1:01", "-1:1", "1:1:1", "1:", ":1", "x", "1000000000:1", "1000000001:1", "0:1000000001", "999:99999999999"]
def oddL : List (List Nat) := oddS.map TL.tl
def wdB (w : List Nat) : Bool := !w.isEmpty && decide (w.length ≤ 30) && w.all fun c => decide (33 ≤ c ∧ c < 128)
theorem wdB_wd {w : List Nat} (h : wdB w = true) : Wd w := by
  unfold wdB at h
  simp only [Bool.and_eq_true, Bool.not_eq_true', decide_eq_true_eq, List.all_eq_true] at h
  exact ⟨fun z => by rw [z] at h; simp at h, h.1.2, h.2⟩
theorem odd_wd : ∀ w ∈ oddL, Wd w := fun w hw => wdB_wd (List.all_eq_true.mp (show oddL.all wdB = true by decide +kernel) w hw)
theorem odd_len : oddL.length = 22 := rfl
theorem odd_D : oddS.map D.str = oddL.map sD := by
  unfold oddL
  rw [List.map_map]
  exact List.map_congr_left fun x _ => (sD_tl x).symm
theorem RB.mono {k : Nat} {rows : List (List (List Nat))} (h : RB k rows) : RB (k + 1) rows := ⟨h.ne, by have := h.len; omega, fun ws hw => ⟨by have := (h.row ws hw).1; omega, (h.row ws hw).2⟩⟩
theorem or_rows {k : Nat} {rows : List (List (List Nat))} (hl : rows.length ≤ 5 + k) (hr : ∀ ws ∈ rows, ws.length ≤ 6 + k ∧ ∀ w ∈ ws, Wd w) {fa : En → M D} {δ : En} {s : S} (ha : fa δ s = .ok (.lst (rows.map rowD)) s) : ∃ rows', RB k rows' ∧ cOrL fa (cLst (cCons (cLst cNil) cNil)) δ s = .ok (.lst (rows'.map rowD)) s := by
  cases rows with
  | nil =>
    refine ⟨[[]], ⟨by simp, by simp; omega, fun ws hw => by
      have : ws = [] := by simpa using hw
      subst this; simp⟩, ?_⟩
    rw [e_orL, ha, bind_ok, List.map_nil, g_asLst, lift_some, bind_ok, if_pos (show ([] : List D).isEmpty = true from rfl)]
    exact lst1_r lst0_r
  | cons r rows =>
    refine ⟨r :: rows, ⟨by simp, hl, hr⟩, ?_⟩
    rw [e_orL, ha, bind_ok, g_asLst, lift_some, bind_ok, if_neg (by simp)]
theorem mul_row (ws : List (List Nat)) {v : Int} (h0 : 0 ≤ v) (h1 : v < 2) : gMulU (.lst [rowD ws]) (.int (2 * v)) = some (.lst ((List.replicate (2 * v).toNat ws).map rowD)) := by
  show gMul (.lst [rowD ws]) (.int (2 * v)) = _
  rw [mul_one_rep _ _ (by omega) (by omega), List.map_replicate]

def oddD : D := .lst (oddS.map D.str)
theorem take_wd {l : List (List Nat)} {n : Nat} (h : ∀ w ∈ l, Wd w) : ∀ w ∈ l.take n, Wd w := fun w hw => h w (List.mem_of_mem_take hw)
theorem drop_wd {l : List (List Nat)} {n : Nat} (h : ∀ w ∈ l, Wd w) : ∀ w ∈ l.drop n, Wd w := fun w hw => h w (List.mem_of_mem_drop hw)
theorem draw_at (s : S) {δ : En} (h1 : δ[1]? = some (some .row)) {f : En → M D} {n : Int} (hf : ∀ s, f δ s = .ok (.int n) s) (n0 : 0 < n) (n1 : n < 1073741824) : ∃ v s', 0 ≤ v ∧ v < n ∧ cCall 2 f__law_taken (cCons (cVar 1) (cCons f cNil)) δ s = .ok (.int v) s' := by
  obtain ⟨v, s', a1, a2, a3⟩ := draw_is s n0 n1
  refine ⟨v, s', a1, a2, ?_⟩
  rw [e_call, e_cons, e_var, h1, show (some (some D.row)).join = some D.row from rfl, lift_some, bind_ok, e_cons, hf, bind_ok, e_nil, bind_ok, bind_ok, bind_ok, if_pos (show [D.row, D.int n].length = 2 from rfl)]
  exact a3
theorem change {k : Nat} (hk : k ≤ 8) {rows : List (List (List Nat))} (h : RB k rows) (x : Nat) (d0 d3 d4 d6 d8 d9 d10 d11 d12 d13 : Option D) (s : S) : ∃ rows' e6 e8 e9 e10 e11 e12 e13 s', RB (k + 1) rows' ∧
    l1_law [d0, some .row, some oddD, d3, d4, some (.lst (rows.map rowD)), d6, some (.int (x : Int)), d8, d9, d10, d11, d12, d13] s = .ok (.next [d0, some .row, some oddD, d3, d4, some (.lst (rows'.map rowD)), e6, some (.int (x : Int)), e8, e9, e10, e11, e12, e13]) s' := by
  have hn := h.len
  have hpos := List.length_pos_iff.mpr h.ne
  let R : D := .lst (rows.map rowD)
  let δ0 : En := [d0, some .row, some oddD, d3, d4, some R, d6, some (.int (x : Int)), d8, d9, d10, d11, d12, d13]
  have gR : ∀ s, cB gLen (cCons (cVar 5) cNil) δ0 s = .ok (.int (rows.length : Int)) s := fun s => b1_r (a := R) rfl (by show gLen [.lst (rows.map rowD)] = _; rw [g_lenL, List.length_map])
  obtain ⟨pl, s1, p0, p1, p2⟩ := draw_at s (δ := δ0) rfl gR (by omega) (by omega)
  obtain ⟨kd, s2, k0, k1, k2⟩ := draw_at s1 (δ := δ0) rfl (f := cC (.int 6)) (n := 6) (fun _ => rfl) (by omega) (by omega)
  have hpar : cPar (pCons [] 8 (cV (cCall 2 f__law_taken (cCons (cVar 1) (cCons (cB gLen (cCons (cVar 5) cNil)) cNil)))) (pCons [] 9 (cV (cCall 2 f__law_taken (cCons (cVar 1) (cCons (cC (.int 6)) cNil)))) pNil)) δ0 s = .ok (.next [d0, some .row, some oddD, d3, d4, some R, d6, some (.int (x : Int)), some (.int pl), some (.int kd), d10, d11, d12, d13]) s2 := by
    rw [e_par, e_pcons, e_cV, p2, bind_ok, bind_ok, pc_v, if_neg (by simp), lift_some, bind_ok, e_pcons, e_cV, k2, bind_ok, bind_ok, pc_v, if_neg (by simp), lift_some, bind_ok, e_pnil, bind_ok]; rfl
  obtain ⟨np, rfl⟩ : ∃ n : Nat, pl = n := ⟨pl.toNat, by omega⟩
  have hnp : np < rows.length := by omega
  let ws := rows[np]
  have hwm : ws ∈ rows := List.getElem_mem hnp
  obtain ⟨hwl, hwd⟩ := h.row ws hwm
  let δ1 : En := [d0, some .row, some oddD, d3, d4, some R, d6, some (.int (x : Int)), some (.int (np : Int)), some (.int kd), d10, d11, d12, d13]
  let δ2 : En := [d0, some .row, some oddD, d3, d4, some R, some (rowD ws), some (.int (x : Int)), some (.int (np : Int)), some (.int kd), d10, d11, d12, d13]
  have hw6 : cSet 6 (cOp gIx (cVar 5) (cVar 8)) δ1 s2 = .ok (.next δ2) s2 := by
    rw [e_set, op_r (a := R) (b := .int (np : Int)) (d := rowD ws) rfl rfl (by show gIx (.lst (rows.map rowD)) (.int (np : Int)) = _; rw [g_ixL, at_nat, List.getElem?_map, List.getElem?_eq_getElem hnp]; rfl)]; rfl
  have gW : ∀ s, cOp gAdd (cB gLen (cCons (cVar 6) cNil)) (cC (.int 1)) δ2 s = .ok (.int ((ws.length : Int) + 1)) s := fun s => op_r (b1_r (a := rowD ws) rfl (by unfold rowD; rw [g_lenL, List.length_map])) rfl (g_add _ _)
  obtain ⟨sp, s3, q0, q1, q2⟩ := draw_at s2 (δ := δ2) rfl gW (by omega) (by omega)
  let δ3 : En := [d0, some .row, some oddD, d3, d4, some R, some (rowD ws), some (.int (x : Int)), some (.int (np : Int)), some (.int kd), some (.int sp), d11, d12, d13]
  have hs10 : cSet 10 (cCall 2 f__law_taken (cCons (cVar 1) (cCons (cOp gAdd (cB gLen (cCons (cVar 6) cNil)) (cC (.int 1))) cNil))) δ2 s2 = .ok (.next δ3) s3 := by rw [e_set, q2]; rfl
  obtain ⟨more, s4, m1, m2, m3⟩ : ∃ (more : List (List Nat)) (s4 : S), more.length ≤ 1 ∧ (∀ w ∈ more, Wd w) ∧ cIf (cTst (cOp gNe (cVar 9) (cC (.int 1)))) (cLst (cCons (cOp gIx (cVar 2) (cCall 2 f__law_taken (cCons (cVar 1) (cCons (cB gLen (cCons (cVar 2) cNil)) cNil)))) cNil)) (cLst cNil) δ3 s3 = .ok (rowD more) s4 := by
    have t : cTst (cOp gNe (cVar 9) (cC (.int 1))) δ3 s3 = .ok (!decide (kd = 1)) s3 := tst_op (a := .int kd) rfl rfl (g_neI _ _)
    by_cases c : kd = 1
    · rw [decide_eq_true c] at t
      exact ⟨[], s3, by simp, by simp, by rw [e_if, t, bind_ok, if_neg (by decide)]; exact lst0_r⟩
    · rw [decide_eq_false c] at t
      have gO : ∀ s, cB gLen (cCons (cVar 2) cNil) δ3 s = .ok (.int 22) s := fun s => b1_r (a := oddD) rfl rfl
      obtain ⟨v, s4, v0, v1, v2⟩ := draw_at s3 (δ := δ3) rfl gO (by omega) (by omega)
      obtain ⟨nv, rfl⟩ : ∃ n : Nat, v = n := ⟨v.toNat, by omega⟩
      have hv : nv < oddL.length := by rw [odd_len]; omega
      refine ⟨[oddL[nv]], s4, by simp, fun w hw => by
        have : w = oddL[nv] := by simpa using hw
        rw [this]; exact odd_wd _ (List.getElem_mem hv), ?_⟩
      have e1 : cOp gIx (cVar 2) (cCall 2 f__law_taken (cCons (cVar 1) (cCons (cB gLen (cCons (cVar 2) cNil)) cNil))) δ3 s3 = .ok (sD oddL[nv]) s4 := by
        rw [e_op, e_var]
        show ((lift (some oddD) s3).bind _) = _
        rw [lift_some, bind_ok, v2, bind_ok]
        have : gIx oddD (.int (nv : Int)) = some (sD oddL[nv]) := by
          unfold oddD
          rw [odd_D, g_ixL, at_nat, List.getElem?_map, List.getElem?_eq_getElem hv]; rfl
        rw [this]; rfl
      rw [e_if, t, bind_ok, show (!false) = true from rfl, if_pos rfl, e_lst, e_cons, e1, bind_ok, e_nil, bind_ok, bind_ok]; rfl
  let δ4 : En := [d0, some .row, some oddD, d3, d4, some R, some (rowD ws), some (.int (x : Int)), some (.int (np : Int)), some (.int kd), some (.int sp), some (rowD more), d12, d13]
  have hs11 : cSet 11 (cIf (cTst (cOp gNe (cVar 9) (cC (.int 1)))) (cLst (cCons (cOp gIx (cVar 2) (cCall 2 f__law_taken (cCons (cVar 1) (cCons (cB gLen (cCons (cVar 2) cNil)) cNil)))) cNil)) (cLst cNil)) δ3 s3 = .ok (.next δ4) s4 := by rw [e_set, m3]; rfl
  have start : ∀ F, (cSeq (cPar (pCons [] 8 (cV (cCall 2 f__law_taken (cCons (cVar 1) (cCons (cB gLen (cCons (cVar 5) cNil)) cNil)))) (pCons [] 9 (cV (cCall 2 f__law_taken (cCons (cVar 1) (cCons (cC (.int 6)) cNil)))) pNil)))
    (cSeq (cSet 6 (cOp gIx (cVar 5) (cVar 8)))
    (cSeq (cSet 10 (cCall 2 f__law_taken (cCons (cVar 1) (cCons (cOp gAdd (cB gLen (cCons (cVar 6) cNil)) (cC (.int 1))) cNil))))
    (cSeq (cSet 11 (cIf (cTst (cOp gNe (cVar 9) (cC (.int 1)))) (cLst (cCons (cOp gIx (cVar 2) (cCall 2 f__law_taken (cCons (cVar 1) (cCons (cB gLen (cCons (cVar 2) cNil)) cNil)))) cNil)) (cLst cNil))) F)))) δ0 s = F δ4 s4 := fun F => by
    rw [e_seq, hpar, bind_ok]
    show cSeq _ _ δ1 s2 = _
    rw [e_seq, hw6, bind_ok]
    show cSeq _ _ δ2 s2 = _
    rw [e_seq, hs10, bind_ok]
    show cSeq _ _ δ3 s3 = _
    rw [e_seq, hs11, bind_ok]
  show ∃ rows' e6 e8 e9 e10 e11 e12 e13 s', RB (k + 1) rows' ∧ l1_law δ0 s = _
  unfold l1_law
  rw [start]
  have t4 : cTst (cOp gLt (cVar 9) (cC (.int 4))) δ4 s4 = .ok (decide (kd < 4)) s4 := tst_op (a := .int kd) rfl rfl (g_lt _ _)
  have v5 : ∀ s, cVar 5 δ4 s = .ok R s := fun _ => rfl
  have v8 : ∀ s, cVar 8 δ4 s = .ok (.int (np : Int)) s := fun _ => rfl
  have up : ∀ s, cSl (cVar 5) cNo (cPart (cVar 8)) δ4 s = .ok (.lst ((rows.take np).map rowD)) s := fun s => sl_upto (v5 s) (v8 s) (sl_up (by omega))
  have dn1 : ∀ s, cSl (cVar 5) (cPart (cOp gAdd (cVar 8) (cC (.int 1)))) cNo δ4 s = .ok (.lst ((rows.drop (np + 1)).map rowD)) s := fun s => sl_from (v5 s) (op_r (v8 s) rfl (g_add _ _)) (by
    rw [show gSl R _ _ = _ from sl_dn (rows := rows) (n := (np : Int) + 1) (by omega)]
    congr 3)
  have tot : ∀ (mid : List (List (List Nat))) (q : Nat), mid.length ≤ 2 → np + mid.length + (rows.length - q) ≤ 5 + (k + 1) → (∀ w ∈ mid, w.length ≤ 6 + (k + 1) ∧ ∀ u ∈ w, Wd u) → (rows.take np ++ mid ++ rows.drop q).length ≤ 5 + (k + 1) ∧ ∀ w ∈ rows.take np ++ mid ++ rows.drop q, w.length ≤ 6 + (k + 1) ∧ ∀ u ∈ w, Wd u := fun mid q hm hq hw => by
    refine ⟨by simp; omega, fun w hwm => ?_⟩
    have old : ∀ w ∈ rows, w.length ≤ 6 + (k + 1) ∧ ∀ u ∈ w, Wd u := fun w hw => ⟨by have := (h.row w hw).1; omega, (h.row w hw).2⟩
    rcases List.mem_append.mp hwm with z | z
    · rcases List.mem_append.mp z with z | z
      · exact old w (List.mem_of_mem_take z)
      · exact hw w z
    · exact old w (List.mem_of_mem_drop z)
  by_cases c4 : kd < 4
  · rw [decide_eq_true c4] at t4
    obtain ⟨off, o0, o1, ho⟩ : ∃ off : Int, 0 ≤ off ∧ off ≤ 1 ∧ ∀ s, cB gIntU (cCons (cOp inU (cVar 9) (cTup (cCons (cC (.int 1)) (cCons (cC (.int 2)) cNil)))) cNil) δ4 s = .ok (.int off) s := by
      have ht : ∀ s, cTup (cCons (cC (.int 1)) (cCons (cC (.int 2)) cNil)) δ4 s = .ok (.tup [.int 1, .int 2]) s := fun s => by rw [e_tup, e_cons, e_c, bind_ok, e_cons, e_c, bind_ok, e_nil, bind_ok, bind_ok, bind_ok]; rfl
      have hin : inU (.int kd) (.tup [.int 1, .int 2]) = some (.bl ((1 == kd) || ((2 == kd) || false))) := rfl
      have hb : ∀ b : Bool, gIntU [.bl b] = some (.int (if b then 1 else 0)) := fun _ => rfl
      refine ⟨if ((1 == kd) || ((2 == kd) || false)) = true then 1 else 0, by split <;> omega, by split <;> omega, fun s => b1_r (op_r (a := .int kd) rfl (ht s) hin) (hb _)⟩
    obtain ⟨nsp, rfl⟩ : ∃ n : Nat, sp = n := ⟨sp.toNat, by omega⟩
    let ws' := ws.take nsp ++ more ++ ws.drop ((nsp : Int) + off).toNat
    have w1 : cOp gAdd (cOp gAdd (cSl (cVar 6) cNo (cPart (cVar 10))) (cVar 11)) (cSl (cVar 6) (cPart (cOp gAdd (cVar 10) (cB gIntU (cCons (cOp inU (cVar 9) (cTup (cCons (cC (.int 1)) (cCons (cC (.int 2)) cNil)))) cNil)))) cNo) δ4 s4 = .ok (rowD ws') s4 := by
      have a1 : cSl (cVar 6) cNo (cPart (cVar 10)) δ4 s4 = .ok (rowD (ws.take nsp)) s4 := sl_upto (a := rowD ws) (n := (nsp : Int)) rfl rfl (slw_up (by omega))
      have a2 : cSl (cVar 6) (cPart (cOp gAdd (cVar 10) (cB gIntU (cCons (cOp inU (cVar 9) (cTup (cCons (cC (.int 1)) (cCons (cC (.int 2)) cNil)))) cNil)))) cNo δ4 s4 = .ok (rowD (ws.drop ((nsp : Int) + off).toNat)) s4 := sl_from (a := rowD ws) (n := (nsp : Int) + off) rfl (op_r (a := .int (nsp : Int)) rfl (ho s4) (g_add _ _)) (slw_dn (by omega))
      exact op_r (op_r a1 (rfl : cVar 11 δ4 s4 = .ok (rowD more) s4) (addw (by simp; omega))) a2 (addw (by simp; omega))
    have hws' : ws'.length ≤ 6 + (k + 1) ∧ ∀ u ∈ ws', Wd u := by
      refine ⟨by simp only [ws', List.length_append, List.length_take, List.length_drop]; omega, fun u hu => ?_⟩
      rcases List.mem_append.mp hu with z | z
      · rcases List.mem_append.mp z with z | z
        · exact take_wd hwd u z
        · exact m2 u z
      · exact drop_wd hwd u z
    let δ5 : En := [d0, some .row, some oddD, d3, d4, some R, some (rowD ws'), some (.int (x : Int)), some (.int (np : Int)), some (.int kd), some (.int (nsp : Int)), some (rowD more), d12, d13]
    have up5 : cSl (cVar 5) cNo (cPart (cVar 8)) δ5 s4 = .ok (.lst ((rows.take np).map rowD)) s4 := sl_upto (a := R) (n := (np : Int)) rfl rfl (sl_up (by omega))
    have dn5 : cSl (cVar 5) (cPart (cOp gAdd (cVar 8) (cC (.int 1)))) cNo δ5 s4 = .ok (.lst ((rows.drop (np + 1)).map rowD)) s4 := sl_from (a := R) (n := (np : Int) + 1) rfl (op_r (a := .int (np : Int)) rfl rfl (g_add _ _)) (by
      rw [show gSl R _ _ = _ from sl_dn (rows := rows) (n := (np : Int) + 1) (by omega)]
      congr 3)
    have r5 : cOp gAdd (cOp gAdd (cSl (cVar 5) cNo (cPart (cVar 8))) (cLst (cCons (cVar 6) cNil))) (cSl (cVar 5) (cPart (cOp gAdd (cVar 8) (cC (.int 1)))) cNo) δ5 s4 = .ok (.lst ((rows.take np ++ [ws'] ++ rows.drop (np + 1)).map rowD)) s4 :=
      op_r (op_r (b := .lst ([ws'].map rowD)) up5 (lst1_r (a := rowD ws') rfl) (addr (by simp; omega))) dn5 (addr (by simp; omega))
    obtain ⟨b1, b2⟩ := tot [ws'] (np + 1) (by simp) (by simp; omega) (fun w hw => by
      have : w = ws' := by simpa using hw
      rw [this]; exact hws')
    let δ6 : En := [d0, some .row, some oddD, d3, d4, some (.lst ((rows.take np ++ [ws'] ++ rows.drop (np + 1)).map rowD)), some (rowD ws'), some (.int (x : Int)), some (.int (np : Int)), some (.int kd), some (.int (nsp : Int)), some (rowD more), d12, d13]
    obtain ⟨rows', rb, ro⟩ := or_rows b1 b2 (fa := cVar 5) (δ := δ6) (s := s4) rfl
    refine ⟨rows', some (rowD ws'), some (.int (np : Int)), some (.int kd), some (.int (nsp : Int)), some (rowD more), d12, d13, s4, rb, ?_⟩
    rw [e_seq, e_ite, t4, bind_ok, if_pos rfl, e_seq, e_set, w1, bind_ok, bind_ok]
    show ((cSet 5 _ δ5 s4).bind _) = _
    rw [e_set, r5, bind_ok, bind_ok]
    show cSet 5 _ δ6 s4 = _
    rw [e_set, ro]; rfl
  · rw [decide_eq_false c4] at t4
    have t5 : cTst (cOp gEq (cVar 9) (cC (.int 4))) δ4 s4 = .ok (decide (kd = 4)) s4 := tst_op (a := .int kd) rfl rfl (g_eqI _ _)
    by_cases c5 : kd = 4
    · rw [decide_eq_true c5] at t5
      obtain ⟨v, s5, v0, v1, v2⟩ := draw_at s4 (δ := δ4) rfl (f := cC (.int 2)) (n := 2) (fun _ => rfl) (by omega) (by omega)
      have m12 : cOp gMulU (cLst (cCons (cVar 6) cNil)) (cOp gMulU (cC (.int 2)) (cCall 2 f__law_taken (cCons (cVar 1) (cCons (cC (.int 2)) cNil)))) δ4 s4 = .ok (.lst ((List.replicate (2 * v).toNat ws).map rowD)) s5 := by
        have i1 : cOp gMulU (cC (.int 2)) (cCall 2 f__law_taken (cCons (cVar 1) (cCons (cC (.int 2)) cNil))) δ4 s4 = .ok (.int (2 * v)) s5 := by
          rw [e_op, e_c, bind_ok, v2, bind_ok]
          have : gMulU (.int 2) (.int v) = some (.int (2 * v)) := by
            show gMul (.int 2) (.int v) = _
            exact g_mul (n := 40) (m := 40) (bd_of ⟨by omega, by omega⟩) (bd_of ⟨by omega, by omega⟩) (by omega)
          rw [this]; rfl
        rw [e_op, lst1_r (a := rowD ws) (fa := cVar 6) (δ := δ4) rfl, bind_ok, i1, bind_ok, mul_row ws v0 v1]; rfl
      let mid := List.replicate (2 * v).toNat ws
      have hmid : mid.length = (2 * v).toNat := List.length_replicate
      let δ5 : En := [d0, some .row, some oddD, d3, d4, some R, some (rowD ws), some (.int (x : Int)), some (.int (np : Int)), some (.int kd), some (.int sp), some (rowD more), some (.lst (mid.map rowD)), d13]
      have up5 : cSl (cVar 5) cNo (cPart (cVar 8)) δ5 s5 = .ok (.lst ((rows.take np).map rowD)) s5 := sl_upto (a := R) (n := (np : Int)) rfl rfl (sl_up (by omega))
      have dn5 : cSl (cVar 5) (cPart (cOp gAdd (cVar 8) (cC (.int 1)))) cNo δ5 s5 = .ok (.lst ((rows.drop (np + 1)).map rowD)) s5 := sl_from (a := R) (n := (np : Int) + 1) rfl (op_r (a := .int (np : Int)) rfl rfl (g_add _ _)) (by
        rw [show gSl R _ _ = _ from sl_dn (rows := rows) (n := (np : Int) + 1) (by omega)]
        congr 3)
      have r5 : cOp gAdd (cOp gAdd (cSl (cVar 5) cNo (cPart (cVar 8))) (cVar 12)) (cSl (cVar 5) (cPart (cOp gAdd (cVar 8) (cC (.int 1)))) cNo) δ5 s5 = .ok (.lst ((rows.take np ++ mid ++ rows.drop (np + 1)).map rowD)) s5 :=
        op_r (op_r up5 (rfl : cVar 12 δ5 s5 = .ok (.lst (mid.map rowD)) s5) (addr (by simp; omega))) dn5 (addr (by simp; omega))
      obtain ⟨b1, b2⟩ := tot mid (np + 1) (by omega) (by omega) (fun w hw => by
        have : w = ws := List.eq_of_mem_replicate hw
        rw [this]; exact ⟨by omega, hwd⟩)
      let δ6 : En := [d0, some .row, some oddD, d3, d4, some (.lst ((rows.take np ++ mid ++ rows.drop (np + 1)).map rowD)), some (rowD ws), some (.int (x : Int)), some (.int (np : Int)), some (.int kd), some (.int sp), some (rowD more), some (.lst (mid.map rowD)), d13]
      obtain ⟨rows', rb, ro⟩ := or_rows b1 b2 (fa := cVar 5) (δ := δ6) (s := s5) rfl
      refine ⟨rows', some (rowD ws), some (.int (np : Int)), some (.int kd), some (.int sp), some (rowD more), some (.lst (mid.map rowD)), d13, s5, rb, ?_⟩
      rw [e_seq, e_ite, t4, bind_ok, if_neg (by decide), e_ite, t5, bind_ok, if_pos rfl, e_seq, e_set, m12, bind_ok, bind_ok]
      show ((cSet 5 _ δ5 s5).bind _) = _
      rw [e_set, r5, bind_ok, bind_ok]
      show cSet 5 _ δ6 s5 = _
      rw [e_set, ro]; rfl
    · rw [decide_eq_false c5] at t5
      let mid := ((rows.drop np).take (min (np + 2) rows.length - np)).reverse
      have hmid : mid.length = min (np + 2) rows.length - np := by simp only [mid, List.length_reverse, List.length_take, List.length_drop]; omega
      have m13 : cUn gRev (cSl (cVar 5) (cPart (cVar 8)) (cPart (cOp gAdd (cVar 8) (cC (.int 2))))) δ4 s4 = .ok (.lst (mid.map rowD)) s4 := by
        have a1 : cSl (cVar 5) (cPart (cVar 8)) (cPart (cOp gAdd (cVar 8) (cC (.int 2)))) δ4 s4 = .ok (.lst (((rows.drop np).take (min (np + 2) rows.length - np)).map rowD)) s4 := sl_both (a := R) (n := (np : Int)) (m := (np : Int) + 2) rfl rfl (op_r (a := .int (np : Int)) rfl rfl (g_add _ _)) (by
          show some (D.lst (cutD (rows.map rowD) (some (np : Int)) (some ((np : Int) + 2)))) = _
          rw [cutD_map, show ((np : Int) + 2) = ((np + 2 : Nat) : Int) by omega, cut_mid rows np (np + 2) (by omega)])
        rw [e_un, a1, bind_ok]
        show lift (some (D.lst (((rows.drop np).take (min (np + 2) rows.length - np)).map rowD).reverse)) s4 = _
        rw [lift_some, ← List.map_reverse]
      let δ5 : En := [d0, some .row, some oddD, d3, d4, some R, some (rowD ws), some (.int (x : Int)), some (.int (np : Int)), some (.int kd), some (.int sp), some (rowD more), d12, some (.lst (mid.map rowD))]
      have up5 : cSl (cVar 5) cNo (cPart (cVar 8)) δ5 s4 = .ok (.lst ((rows.take np).map rowD)) s4 := sl_upto (a := R) (n := (np : Int)) rfl rfl (sl_up (by omega))
      have dn5 : cSl (cVar 5) (cPart (cOp gAdd (cVar 8) (cC (.int 2)))) cNo δ5 s4 = .ok (.lst ((rows.drop (np + 2)).map rowD)) s4 := sl_from (a := R) (n := (np : Int) + 2) rfl (op_r (a := .int (np : Int)) rfl rfl (g_add _ _)) (by
        rw [show gSl R _ _ = _ from sl_dn (rows := rows) (n := (np : Int) + 2) (by omega)]
        congr 3)
      have r5 : cOp gAdd (cOp gAdd (cSl (cVar 5) cNo (cPart (cVar 8))) (cVar 13)) (cSl (cVar 5) (cPart (cOp gAdd (cVar 8) (cC (.int 2)))) cNo) δ5 s4 = .ok (.lst ((rows.take np ++ mid ++ rows.drop (np + 2)).map rowD)) s4 :=
        op_r (op_r up5 (rfl : cVar 13 δ5 s4 = .ok (.lst (mid.map rowD)) s4) (addr (by simp only [List.length_take]; omega))) dn5 (addr (by simp only [List.length_append, List.length_take, List.length_drop]; omega))
      obtain ⟨b1, b2⟩ := tot mid (np + 2) (by omega) (by omega) (fun w hw => by
        have hw : w ∈ rows := List.mem_of_mem_drop (List.mem_of_mem_take (List.mem_reverse.mp hw))
        exact ⟨by have := (h.row w hw).1; omega, (h.row w hw).2⟩)
      let δ6 : En := [d0, some .row, some oddD, d3, d4, some (.lst ((rows.take np ++ mid ++ rows.drop (np + 2)).map rowD)), some (rowD ws), some (.int (x : Int)), some (.int (np : Int)), some (.int kd), some (.int sp), some (rowD more), d12, some (.lst (mid.map rowD))]
      obtain ⟨rows', rb, ro⟩ := or_rows b1 b2 (fa := cVar 5) (δ := δ6) (s := s4) rfl
      refine ⟨rows', some (rowD ws), some (.int (np : Int)), some (.int kd), some (.int sp), some (rowD more), d12, some (.lst (mid.map rowD)), s4, rb, ?_⟩
      rw [e_seq, e_ite, t4, bind_ok, if_neg (by decide), e_ite, t5, bind_ok, if_neg (by decide), e_seq, e_set, m13, bind_ok, bind_ok]
      show ((cSet 5 _ δ5 s4).bind _) = _
      rw [e_set, r5, bind_ok, bind_ok]
      show cSet 5 _ δ6 s4 = _
      rw [e_set, ro]; rfl

theorem ref_rows {k : Nat} (hk : k ≤ 10) {rows : List (List (List Nat))} (h : RB k rows) {δ : En} (h5 : δ[5]? = some (some (.lst (rows.map rowD)))) (h6 : 6 < δ.length) (s : S) : cCall 1 f__law_refused (cCons (cM1 gJoin (cC (.str "\n")) (cLc [6] (cItU (cVar 5)) (tgName 6) cYes (cM1 gJoin (cC (.str " ")) (cVar 6)))) cNil) δ s = .ok (rfD (readR rows)) s := by
  obtain ⟨tA, tS, tL⟩ := text_ok hk h
  have hl : cLc [6] (cItU (cVar 5)) (tgName 6) cYes (cM1 gJoin (cC (.str " ")) (cVar 6)) δ s = .ok (.lst (rows.map fun ws => sD (TL.joinL [32] ws))) s := by
    rw [e_lc, e_itU, e_var, h5, show (some (some (D.lst (rows.map rowD)))).join = some (D.lst (rows.map rowD)) from rfl, lift_some, bind_ok, g_seqL, lift_some, bind_ok, if_pos (by have := h.len; rw [List.length_map]; omega), wp_cons, wp_nil, lines_comp hk h (by rw [List.length_set]; exact h6)]; rfl
  have hj : cM1 gJoin (cC (.str "\n")) (cLc [6] (cItU (cVar 5)) (tgName 6) cYes (cM1 gJoin (cC (.str " ")) (cVar 6))) δ s = .ok (sD (textOf rows)) s := by
    rw [e_m1, e_c, bind_ok, asS_lit, lift_some, bind_ok, hl, bind_ok, text_join hk h]; rfl
  have := refused_is tA (by omega) s
  rw [rows_text h] at this
  exact call1_r hj this
theorem rf_same (e : Except Er (List (List P2) × Int)) : gNe (rfD e) (rfD e) = some (.bl false) := by
  have h : Sm 60 (rfD e) := by
    cases e with
    | ok x => simp [rfD, Sm]
    | error x => simp [rfD, erD, Sm, Sms]
  rw [gNe_sm h h]; simp
theorem rb_ok {k : Nat} (hk : k ≤ 10) {rows : List (List (List Nat))} (h : RB k rows) : ROk rows := ⟨h.ne, by have := h.len; omega, fun ws hw => by
  obtain ⟨h1, h2⟩ := h.row ws hw
  exact ⟨fun w hw => ⟨(h2 w hw).asc, by have := (h2 w hw).2.1; omega⟩, by omega, fun w hw => by have := (h2 w hw).2.1; omega⟩⟩
theorem law_turn (x : Nat) (d4 d5 d6 d7 d8 d9 d10 d11 d12 d13 : Option D) (s : S) : ∃ e4 e5 e6 e7 e8 e9 e10 e11 e12 e13 s', l2_law [none, some .row, some oddD, some (.int (x : Int)), d4, d5, d6, d7, d8, d9, d10, d11, d12, d13] s = .ok (.next [none, some .row, some oddD, some (.int (x : Int)), e4, e5, e6, e7, e8, e9, e10, e11, e12, e13]) s' := by
  obtain ⟨bs, m, s1, v, hn, hd, hp⟩ := law_parts_is (n := 4) (k := 5) (by omega) (by omega) (by omega) (by omega) s
  have hrb := rows_rb v
  have hp' : cCall 3 f__law_parts (cCons (cVar 1) (cCons (cC (.int 4)) (cCons (cC (.int 5)) cNil))) [none, some .row, some oddD, some (.int (x : Int)), d4, d5, d6, d7, d8, d9, d10, d11, d12, d13] s = .ok (lawD bs m) s1 := by
    rw [e_call, e_cons, e_var]; exact hp
  let δ1 : En := [none, some .row, some oddD, some (.int (x : Int)), some (lawD bs m), d5, d6, d7, d8, d9, d10, d11, d12, d13]
  have ht : cCall 1 f__law_text (cCons (cVar 4) cNil) δ1 s1 = .ok (.lst ((rowsT bs m).map rowD)) s1 := call1_r (a := lawD bs m) rfl (law_text_is v s1)
  let δ2 : En := [none, some .row, some oddD, some (.int (x : Int)), some (lawD bs m), some (.lst ((rowsT bs m).map rowD)), d6, d7, d8, d9, d10, d11, d12, d13]
  have r1 := ref_rows (k := 0) (by decide) hrb (δ := δ2) rfl (by simp [δ2]) s1
  rw [readR_rows v] at r1
  have t1 : cTst (cOp gNotN (cCall 1 f__law_refused (cCons (cM1 gJoin (cC (.str "\n")) (cLc [6] (cItU (cVar 5)) (tgName 6) cYes (cM1 gJoin (cC (.str " ")) (cVar 6)))) cNil)) (cC .non)) δ2 s1 = .ok false s1 := tst_op r1 rfl rfl
  obtain ⟨u, s2, u0, u1, u2⟩ := draw_at s1 (δ := δ2) rfl (f := cC (.int 2)) (n := 2) (fun _ => rfl) (by omega) (by omega)
  have ir : cItA gR1 (cCons (cOp gAdd (cC (.int 1)) (cCall 2 f__law_taken (cCons (cVar 1) (cCons (cC (.int 2)) cNil)))) cNil) δ2 s1 = .ok ((List.range (u.toNat + 1)).map fun (i : Nat) => D.int (i : Int)) s2 := by
    have e1 : cOp gAdd (cC (.int 1)) (cCall 2 f__law_taken (cCons (cVar 1) (cCons (cC (.int 2)) cNil))) δ2 s1 = .ok (.int (1 + u)) s2 := by
      rw [e_op, e_c, bind_ok, u2, bind_ok, g_add]; rfl
    have r1 : gR1 [.int (1 + u)] = some ((List.range (u.toNat + 1)).map fun (i : Nat) => D.int (i : Int)) := by
      have := g_r1 (u.toNat + 1) (by omega)
      rw [upto0] at this
      rw [show (1 + u) = ((u.toNat + 1 : Nat) : Int) by omega]; exact this
    rw [e_itA, e_cons, e1, bind_ok, e_nil, bind_ok, bind_ok, r1]; rfl
  have key := for_inv (tg := tgName 7) (F := l1_law) (enc := fun (i : Nat) => D.int (i : Int)) (xs := List.range (u.toNat + 1))
    (fun pre δ _ => ∃ rows e6 e7 e8 e9 e10 e11 e12 e13, RB pre.length rows ∧ δ = [none, some .row, some oddD, some (.int (x : Int)), some (lawD bs m), some (.lst (rows.map rowD)), e6, e7, e8, e9, e10, e11, e12, e13]) (δ := δ2) (s := s2) ⟨rowsT bs m, d6, d7, d8, d9, d10, d11, d12, d13, hrb, rfl⟩ ?_
  · obtain ⟨δ', s3, h1, rows, e6, e7, e8, e9, e10, e11, e12, e13, rb, rfl⟩ := key
    rw [List.length_range] at rb
    have hk : u.toNat + 1 ≤ 10 := by omega
    let δ3 : En := [none, some .row, some oddD, some (.int (x : Int)), some (lawD bs m), some (.lst (rows.map rowD)), e6, e7, e8, e9, e10, e11, e12, e13]
    have r2 := ref_rows hk rb (δ := δ3) rfl (by simp [δ3]) s3
    have w2 : cCall 1 f__law_wrong (cCons (cVar 5) cNil) δ3 s3 = .ok (rfD (readR rows)) s3 := call1_r (a := .lst (rows.map rowD)) rfl (law_wrong_is (rb_ok hk rb) s3)
    have t2 := tst_op r2 w2 (rf_same (readR rows))
    refine ⟨some (lawD bs m), some (.lst (rows.map rowD)), e6, e7, e8, e9, e10, e11, e12, e13, s3, ?_⟩
    unfold l2_law
    rw [e_seq, e_set, hp', bind_ok, bind_ok]
    show cSeq _ _ δ1 s1 = _
    rw [e_seq, e_set, ht, bind_ok, bind_ok]
    show cSeq _ _ δ2 s1 = _
    rw [e_seq, e_ite, t1, bind_ok, if_neg (by decide), e_next, bind_ok]
    dsimp only
    rw [e_seq, e_for, ir, bind_ok, h1, bind_ok]
    show cIte _ _ _ δ3 s3 = _
    rw [e_ite, t2, bind_ok, if_neg (by decide)]; rfl
  · rintro pre y post δ s' e ⟨rows, e6, e7, e8, e9, e10, e11, e12, e13, rb, rfl⟩
    obtain ⟨hx, hpl⟩ := range_split e
    obtain ⟨rows', f6, f8, f9, f10, f11, f12, f13, s4, rb', hc⟩ := change (by omega) rb y none (some (.int (x : Int))) (some (lawD bs m)) e6 e8 e9 e10 e11 e12 e13 s'
    refine ⟨_, _, s4, rfl, hc, rows', f6, _, f8, f9, f10, f11, f12, f13, ?_, rfl⟩
    simpa using rb'
def cStrs : List Str → En → M (List D)
  | [] => cNil
  | x :: xs => cCons (cC (.str x)) (cStrs xs)
theorem strs_r : ∀ (xs : List Str) (δ : En) (s : S), cStrs xs δ s = .ok (xs.map D.str) s
  | [], _, _ => rfl
  | x :: xs, δ, s => by
    show cCons (cC (.str x)) (cStrs xs) δ s = _
    rw [e_cons, e_c, bind_ok, strs_r xs, bind_ok]; rfl
theorem lstS_r (xs : List Str) (h : xs.length ≤ 100000) (δ : En) (s : S) : cLst (cStrs xs) δ s = .ok (.lst (xs.map D.str)) s := by
  rw [e_lst, strs_r, bind_ok, if_pos (by rw [List.length_map]; exact h)]
def odd1 : List Str := ["things", "buyer", "1", "2", "4", "0", "0:1", "1:0", "1:1", "7:2", "50:1", "01:1", "1:01", "-1:1"]
def odd2 : List Str := ["1:1:1", "1:"]
def odd3 : List Str := [":1", "x", "1000000000:1", "1000000001:1", "0:1000000001", "999:99999999999"]
theorem law_true : ∀ ns : List Int, ns.length ≤ 63 → ∃ s', b_law (lawEn N_law.length) ⟨ns, 0, 618, 0⟩ = .ok (.ret (.bl true)) s' := by
  intro ns _
  let δ0 : En := [none, some .row, some oddD, none, none, none, none, none, none, none, none, none, none, none]
  have key := for_inv (tg := tgName 3) (F := l2_law) (enc := fun (i : Nat) => D.int (i : Int)) (xs := List.range 8)
    (fun _ δ _ => ∃ d3 d4 d5 d6 d7 d8 d9 d10 d11 d12 d13, δ = [none, some .row, some oddD, d3, d4, d5, d6, d7, d8, d9, d10, d11, d12, d13]) (δ := δ0) (s := ⟨ns, 0, 618, 0⟩) ⟨none, none, none, none, none, none, none, none, none, none, none, rfl⟩ ?_
  · obtain ⟨δ', s', h1, d3, d4, d5, d6, d7, d8, d9, d10, d11, d12, d13, rfl⟩ := key
    refine ⟨s', ?_⟩
    unfold b_law
    have r1 : gR1 [.int 8] = some ((List.range 8).map fun (i : Nat) => D.int (i : Int)) := by
      have := g_r1 8 (by omega)
      rw [upto0] at this
      exact this
    have hi : cItA gR1 (cCons (cC (.int 8)) cNil) δ0 ⟨ns, 0, 618, 0⟩ = .ok ((List.range 8).map fun (i : Nat) => D.int (i : Int)) ⟨ns, 0, 618, 0⟩ := by
      rw [e_itA, e_cons, e_c, bind_ok, e_nil, bind_ok, bind_ok, r1]; rfl
    have e0 := refused_is (l := []) (by simp [Asc]) (by simp) s'
    have er : rfD (readR (rowsOf [])) = erD (1, 1) := rfl
    rw [er, ← lit_e] at e0
    have fin : cOp gEq (cCall 1 f__law_refused (cCons (cC (.str "")) cNil)) (cLst (cCons (cC (.int 1)) (cCons (cC (.int 1)) cNil))) [none, some .row, some oddD, d3, d4, d5, d6, d7, d8, d9, d10, d11, d12, d13] s' = .ok (.bl true) s' :=
      op_r (call1_r rfl e0) (lst2_r rfl rfl) (by
        have h : Sm 60 (.lst [.int 1, .int 1]) := by simp [Sm, Sms]
        show gEq (.lst [.int 1, .int 1]) (.lst [.int 1, .int 1]) = _
        rw [gEq_sm h h]; simp)
    let s0 : S := ⟨ns, 0, 618, 0⟩
    let ε (d : D) : En := [none, some .row, some d, none, none, none, none, none, none, none, none, none, none, none]
    have c1 : cSet 2 (cLst (cStrs odd1)) (lawEn N_law.length) s0 = .ok (.next (ε (.lst (odd1.map D.str)))) s0 := by
      rw [e_set, lstS_r odd1 (by decide)]; rfl
    have c2 : cSet 2 (cOp gAdd (cVar 2) (cLst (cStrs odd2))) (ε (.lst (odd1.map D.str))) s0 = .ok (.next (ε (.lst ((odd1 ++ odd2).map D.str)))) s0 := by
      rw [e_set, op_r (a := .lst (odd1.map D.str)) (d := .lst ((odd1 ++ odd2).map D.str)) rfl (lstS_r odd2 (by decide) _ _) (by rw [g_addL _ _ (by decide), List.map_append])]; rfl
    have c3 : cSet 2 (cOp gAdd (cVar 2) (cLst (cStrs odd3))) (ε (.lst ((odd1 ++ odd2).map D.str))) s0 = .ok (.next (ε (.lst ((odd1 ++ odd2 ++ odd3).map D.str)))) s0 := by
      rw [e_set, op_r (a := .lst ((odd1 ++ odd2).map D.str)) (d := .lst ((odd1 ++ odd2 ++ odd3).map D.str)) rfl (lstS_r odd3 (by decide) _ _) (by rw [g_addL _ _ (by decide), List.map_append (l₁ := odd1 ++ odd2)])]; rfl
    show cSeq (cSet 2 (cLst (cStrs odd1))) (cSeq (cSet 2 (cOp gAdd (cVar 2) (cLst (cStrs odd2)))) (cSeq (cSet 2 (cOp gAdd (cVar 2) (cLst (cStrs odd3)))) (cSeq (cFor _ _ _) (cRet _)))) (lawEn N_law.length) s0 = _
    rw [e_seq, c1, bind_ok]
    dsimp only
    rw [e_seq, c2, bind_ok]
    dsimp only
    rw [e_seq, c3, bind_ok]
    show cSeq (cFor _ _ _) (cRet _) δ0 _ = _
    rw [e_seq, e_for, hi, bind_ok, h1, bind_ok]
    dsimp only
    rw [e_ret, fin]; rfl
  · rintro pre x post δ s' _ ⟨d3, d4, d5, d6, d7, d8, d9, d10, d11, d12, d13, rfl⟩
    obtain ⟨e4, e5, e6, e7, e8, e9, e10, e11, e12, e13, s2, h⟩ := law_turn x d4 d5 d6 d7 d8 d9 d10 d11 d12 d13 s'
    exact ⟨_, _, s2, rfl, h, _, _, _, _, _, _, _, _, _, _, _, rfl⟩

theorem all_mk {l : PySem.W.OpenLaw} {w : World} {K : PySem.W.Frag} {h : Heap} {mg : Str → Option Value} {fa : Addr} (hl : ∀ ns : List Int, ns.length ≤ 63 → ∃ s', b_law (lawEn N_law.length) ⟨ns, 0, 618, 0⟩ = .ok (.ret (.bl true)) s') (X : K.In h) (G : h.Ns mainGlobals mg) (hfa : mg "law" = some (.ref fa))
    {cS : Addr} (aS : PySem.W.nsIn K mainGlobals "Sale" = some (some (.ref cS))) (pgS : PySem.W.plainGet K cS Str.empty = true) (hdS : PySem.W.hasDictIn K cS = true) (poS : PySem.W.plainOver K cS = true) (saS : PySem.W.findIn K (.ref cS) "__setattr__" = some (some (.builtin "object.__setattr__"))) (mkS : PySem.W.makesIn K cS = true) (kcS : PySem.W.keepIn K (.ref cS) = true)
    (ncS : PySem.W.findIn K (.ref cS) "crowd" = some none) (nsS : PySem.W.findIn K (.ref cS) "stock" = some none) (haS : PySem.W.findIn K (.ref cS) "__class__" = some (some (.builtin "object.__class__"))) (hnS : PySem.W.specialIn K (.builtin "object.__class__") "__get__" = some (some (.builtin "getset_descriptor.__get__"))) (htS : PySem.W.takesIn K (.builtin "object.__class__") = some true) (hmS : PySem.W.mroIn K cS (.type "object") = some true)
    (ty0S : PySem.W.kitOne K (.type "NoneType") (.ref cS) = some false)
    (ty1S : PySem.W.kitOne K (.type "bool") (.ref cS) = some false)
    (ty2S : PySem.W.kitOne K (.type "int") (.ref cS) = some false)
    (ty3S : PySem.W.kitOne K (.type "str") (.ref cS) = some false)
    (ty4S : PySem.W.kitOne K (.type "tuple") (.ref cS) = some false)
    (ty5S : PySem.W.kitOne K (.type "list") (.ref cS) = some false)
    (ty6S : PySem.W.kitOne K (.type "dict") (.ref cS) = some false)
    {c_FloorError c_InvalidText : Addr}
    (aC_FloorError : PySem.W.nsIn K mainGlobals "FloorError" = some (some (.ref c_FloorError)))
    (aC_InvalidText : PySem.W.nsIn K mainGlobals "InvalidText" = some (some (.ref c_InvalidText)))
    (spF : PySem.W.specialIn K (.ref c_FloorError) "__getattribute__" = some (some (.builtin "type.__getattribute__"))) (tyF : PySem.W.typeIn K (.ref c_FloorError) = some (.type "type")) (rdF : PySem.W.readsIn K c_FloorError (.type "type") = true) (fcF : PySem.W.findCls K (.ref c_FloorError) (.type "type") "__init__" = some (.val (.builtin "ValueError.__init__")))
    {nm_InvalidText q_InvalidText : Str} {N_InvalidText : Addr} {bs_InvalidText : List Value} {sn_InvalidText : List Str} {sub_InvalidText : List Value} {ab_InvalidText : Bool} {col_InvalidText : Option Bool} {dd_InvalidText : Option Addr} {m0_InvalidText m1_InvalidText m2_InvalidText m3_InvalidText m5_InvalidText : Option Value} {fi_InvalidText : Addr} {odi_InvalidText ani_InvalidText : Option Addr} {sli_InvalidText : Array (Option Value)} {oci_InvalidText kVi_InvalidText dci_InvalidText pmi_InvalidText cdi_InvalidText cti_InvalidText : Value}
    (xL_InvalidText : K.lookup c_InvalidText = some (excClassObj nm_InvalidText q_InvalidText c_InvalidText N_InvalidText bs_InvalidText [.ref c_FloorError, .type "ValueError", .type "Exception", .type "BaseException", .type "object"] true sn_InvalidText sub_InvalidText ab_InvalidText col_InvalidText dd_InvalidText m0_InvalidText m1_InvalidText m2_InvalidText m3_InvalidText m5_InvalidText "ValueError.__new__")) (sa_InvalidText : PySem.W.findIn K (.ref c_InvalidText) "__setattr__" = some (some (.builtin "object.__setattr__"))) (kC_InvalidText : PySem.W.keepIn K (.ref c_InvalidText) = true) (eC_InvalidText : PySem.W.subIn K (.ref c_InvalidText) (.type "BaseException") = some true) (tC_InvalidText : PySem.W.typeIn K (.ref c_InvalidText) = some (.type "type"))
    (iI_InvalidText : PySem.W.findIn K (.ref c_InvalidText) "__init__" = some (some (.ref fi_InvalidText))) (tI_InvalidText : PySem.W.typeIn K (.ref fi_InvalidText) = some (.type "function")) (lI_InvalidText : K.lookup fi_InvalidText = some ⟨oci_InvalidText, odi_InvalidText, .func (PySem.W.fnOf "__init__" "InvalidText.__init__" (defArgs s_InvalidText) (defBody s_InvalidText) (defScope s_InvalidText) .none kVi_InvalidText dci_InvalidText pmi_InvalidText ani_InvalidText cdi_InvalidText cti_InvalidText), sli_InvalidText⟩) (cI_InvalidText : PySem.W.codeIn K cdi_InvalidText "InvalidText.__init__" = true) (kI_InvalidText : PySem.W.keepIn K (.ref fi_InvalidText) = true)
    (no_InvalidText : PySem.W.findIn K (.ref c_InvalidText) "line" = some none) (ga_InvalidText : PySem.W.findIn K (.ref c_InvalidText) "__getattribute__" = some (some (.builtin "BaseException.__getattribute__"))) (gg_InvalidText : PySem.W.findIn K (.ref c_InvalidText) "__getattr__" = some none) (hd_InvalidText : PySem.W.hasDictIn K c_InvalidText = true)
    (n2_InvalidText : PySem.W.findIn K (.ref c_InvalidText) "word" = some none)
    (eb_InvalidText : PySem.W.subIn K (.ref c_InvalidText) (.type "BaseException") = some true) (ic_InvalidText : PySem.W.isClsIn K c_InvalidText = true) (tc_InvalidText : PySem.W.typeIn K (.ref c_InvalidText) = some (.type "type"))
    (su_InvalidText_InvalidText : PySem.W.subIn K (.ref c_InvalidText) (.ref c_InvalidText) = some true)
    {f0 : Addr} {od0 an0 : Option Addr} {sl0 : Array (Option Value)} {oc0 kV0 dc0 pm0 cd0 ct0 : Value}
    (a0 : PySem.W.nsIn K mainGlobals "_law_taken" = some (some (.ref f0))) (l0 : K.lookup f0 = some ⟨oc0, od0, .func (PySem.W.fnOf "_law_taken" "_law_taken" (defArgs s__law_taken) (defBody s__law_taken) (defScope s__law_taken) .none kV0 dc0 pm0 an0 cd0 ct0), sl0⟩) (c0 : PySem.W.codeIn K cd0 "_law_taken" = true) (k0 : PySem.W.keepIn K (.ref f0) = true)
    {f1 : Addr} {od1 an1 : Option Addr} {sl1 : Array (Option Value)} {oc1 kV1 dc1 pm1 cd1 ct1 : Value}
    (a1 : PySem.W.nsIn K mainGlobals "_law_buyer" = some (some (.ref f1))) (l1 : K.lookup f1 = some ⟨oc1, od1, .func (PySem.W.fnOf "_law_buyer" "_law_buyer" (defArgs s__law_buyer) (defBody s__law_buyer) (defScope s__law_buyer) .none kV1 dc1 pm1 an1 cd1 ct1), sl1⟩) (c1 : PySem.W.codeIn K cd1 "_law_buyer" = true) (k1 : PySem.W.keepIn K (.ref f1) = true)
    {f2 : Addr} {od2 an2 : Option Addr} {sl2 : Array (Option Value)} {oc2 kV2 dc2 pm2 cd2 ct2 : Value}
    (a2 : PySem.W.nsIn K mainGlobals "_law_parts" = some (some (.ref f2))) (l2 : K.lookup f2 = some ⟨oc2, od2, .func (PySem.W.fnOf "_law_parts" "_law_parts" (defArgs s__law_parts) (defBody s__law_parts) (defScope s__law_parts) .none kV2 dc2 pm2 an2 cd2 ct2), sl2⟩) (c2 : PySem.W.codeIn K cd2 "_law_parts" = true) (k2 : PySem.W.keepIn K (.ref f2) = true)
    {f3 : Addr} {od3 an3 : Option Addr} {sl3 : Array (Option Value)} {oc3 kV3 dc3 pm3 cd3 ct3 : Value}
    (a3 : PySem.W.nsIn K mainGlobals "_law_text" = some (some (.ref f3))) (l3 : K.lookup f3 = some ⟨oc3, od3, .func (PySem.W.fnOf "_law_text" "_law_text" (defArgs s__law_text) (defBody s__law_text) (defScope s__law_text) .none kV3 dc3 pm3 an3 cd3 ct3), sl3⟩) (c3 : PySem.W.codeIn K cd3 "_law_text" = true) (k3 : PySem.W.keepIn K (.ref f3) = true)
    {f4 : Addr} {od4 an4 : Option Addr} {sl4 : Array (Option Value)} {oc4 kV4 dc4 pm4 cd4 ct4 : Value}
    (a4 : PySem.W.nsIn K mainGlobals "number_in" = some (some (.ref f4))) (l4 : K.lookup f4 = some ⟨oc4, od4, .func (PySem.W.fnOf "number_in" "number_in" (defArgs s_number_in) (defBody s_number_in) (defScope s_number_in) .none kV4 dc4 pm4 an4 cd4 ct4), sl4⟩) (c4 : PySem.W.codeIn K cd4 "number_in" = true) (k4 : PySem.W.keepIn K (.ref f4) = true)
    {f5 : Addr} {od5 an5 : Option Addr} {sl5 : Array (Option Value)} {oc5 kV5 dc5 pm5 cd5 ct5 : Value}
    (a5 : PySem.W.nsIn K mainGlobals "things_in" = some (some (.ref f5))) (l5 : K.lookup f5 = some ⟨oc5, od5, .func (PySem.W.fnOf "things_in" "things_in" (defArgs s_things_in) (defBody s_things_in) (defScope s_things_in) .none kV5 dc5 pm5 an5 cd5 ct5), sl5⟩) (c5 : PySem.W.codeIn K cd5 "things_in" = true) (k5 : PySem.W.keepIn K (.ref f5) = true)
    {f6 : Addr} {od6 an6 : Option Addr} {sl6 : Array (Option Value)} {oc6 kV6 dc6 pm6 cd6 ct6 : Value}
    (a6 : PySem.W.nsIn K mainGlobals "pair_in" = some (some (.ref f6))) (l6 : K.lookup f6 = some ⟨oc6, od6, .func (PySem.W.fnOf "pair_in" "pair_in" (defArgs s_pair_in) (defBody s_pair_in) (defScope s_pair_in) .none kV6 dc6 pm6 an6 cd6 ct6), sl6⟩) (c6 : PySem.W.codeIn K cd6 "pair_in" = true) (k6 : PySem.W.keepIn K (.ref f6) = true)
    {f7 : Addr} {od7 an7 : Option Addr} {sl7 : Array (Option Value)} {oc7 kV7 dc7 pm7 cd7 ct7 : Value}
    (a7 : PySem.W.nsIn K mainGlobals "buyer_in" = some (some (.ref f7))) (l7 : K.lookup f7 = some ⟨oc7, od7, .func (PySem.W.fnOf "buyer_in" "buyer_in" (defArgs s_buyer_in) (defBody s_buyer_in) (defScope s_buyer_in) .none kV7 dc7 pm7 an7 cd7 ct7), sl7⟩) (c7 : PySem.W.codeIn K cd7 "buyer_in" = true) (k7 : PySem.W.keepIn K (.ref f7) = true)
    {f8 : Addr} {od8 an8 : Option Addr} {sl8 : Array (Option Value)} {oc8 kV8 dc8 pm8 cd8 ct8 : Value}
    (a8 : PySem.W.nsIn K mainGlobals "is_from" = some (some (.ref f8))) (l8 : K.lookup f8 = some ⟨oc8, od8, .func (PySem.W.fnOf "is_from" "is_from" (defArgs s_is_from) (defBody s_is_from) (defScope s_is_from) .none kV8 dc8 pm8 an8 cd8 ct8), sl8⟩) (c8 : PySem.W.codeIn K cd8 "is_from" = true) (k8 : PySem.W.keepIn K (.ref f8) = true)
    {f9 : Addr} {od9 an9 : Option Addr} {sl9 : Array (Option Value)} {oc9 kV9 dc9 pm9 cd9 ct9 : Value}
    (a9 : PySem.W.nsIn K mainGlobals "is_pair" = some (some (.ref f9))) (l9 : K.lookup f9 = some ⟨oc9, od9, .func (PySem.W.fnOf "is_pair" "is_pair" (defArgs s_is_pair) (defBody s_is_pair) (defScope s_is_pair) .none kV9 dc9 pm9 an9 cd9 ct9), sl9⟩) (c9 : PySem.W.codeIn K cd9 "is_pair" = true) (k9 : PySem.W.keepIn K (.ref f9) = true)
    {f10 : Addr} {od10 an10 : Option Addr} {sl10 : Array (Option Value)} {oc10 kV10 dc10 pm10 cd10 ct10 : Value}
    (a10 : PySem.W.nsIn K mainGlobals "is_buyer" = some (some (.ref f10))) (l10 : K.lookup f10 = some ⟨oc10, od10, .func (PySem.W.fnOf "is_buyer" "is_buyer" (defArgs s_is_buyer) (defBody s_is_buyer) (defScope s_is_buyer) .none kV10 dc10 pm10 an10 cd10 ct10), sl10⟩) (c10 : PySem.W.codeIn K cd10 "is_buyer" = true) (k10 : PySem.W.keepIn K (.ref f10) = true)
    {f11 : Addr} {od11 an11 : Option Addr} {sl11 : Array (Option Value)} {oc11 kV11 dc11 pm11 cd11 ct11 : Value}
    (a11 : PySem.W.findIn K (.ref cS) "__init__" = some (some (.ref f11))) (i11 : PySem.W.isFn K (.ref f11) = true) (l11 : K.lookup f11 = some ⟨oc11, od11, .func (PySem.W.fnOf "__init__" "Sale.__init__" (defArgs s_Sale) (defBody s_Sale) (defScope s_Sale) .none kV11 dc11 pm11 an11 cd11 ct11), sl11⟩) (c11 : PySem.W.codeIn K cd11 "Sale.__init__" = true) (k11 : PySem.W.keepIn K (.ref f11) = true)
    {f12 : Addr} {od12 an12 : Option Addr} {sl12 : Array (Option Value)} {oc12 kV12 dc12 pm12 cd12 ct12 : Value}
    (a12 : PySem.W.nsIn K mainGlobals "read" = some (some (.ref f12))) (l12 : K.lookup f12 = some ⟨oc12, od12, .func (PySem.W.fnOf "read" "read" (defArgs s_read) (defBody s_read) (defScope s_read) .none kV12 dc12 pm12 an12 cd12 ct12), sl12⟩) (c12 : PySem.W.codeIn K cd12 "read" = true) (k12 : PySem.W.keepIn K (.ref f12) = true)
    {f13 : Addr} {od13 an13 : Option Addr} {sl13 : Array (Option Value)} {oc13 kV13 dc13 pm13 cd13 ct13 : Value}
    (a13 : PySem.W.nsIn K mainGlobals "_law_refused" = some (some (.ref f13))) (l13 : K.lookup f13 = some ⟨oc13, od13, .func (PySem.W.fnOf "_law_refused" "_law_refused" (defArgs s__law_refused) (defBody s__law_refused) (defScope s__law_refused) .none kV13 dc13 pm13 an13 cd13 ct13), sl13⟩) (c13 : PySem.W.codeIn K cd13 "_law_refused" = true) (k13 : PySem.W.keepIn K (.ref f13) = true)
    {f14 : Addr} {od14 an14 : Option Addr} {sl14 : Array (Option Value)} {oc14 kV14 dc14 pm14 cd14 ct14 : Value}
    (a14 : PySem.W.nsIn K mainGlobals "_law_number" = some (some (.ref f14))) (l14 : K.lookup f14 = some ⟨oc14, od14, .func (PySem.W.fnOf "_law_number" "_law_number" (defArgs s__law_number) (defBody s__law_number) (defScope s__law_number) .none kV14 dc14 pm14 an14 cd14 ct14), sl14⟩) (c14 : PySem.W.codeIn K cd14 "_law_number" = true) (k14 : PySem.W.keepIn K (.ref f14) = true)
    {f15 : Addr} {od15 an15 : Option Addr} {sl15 : Array (Option Value)} {oc15 kV15 dc15 pm15 cd15 ct15 : Value}
    (a15 : PySem.W.nsIn K mainGlobals "_law_pair" = some (some (.ref f15))) (l15 : K.lookup f15 = some ⟨oc15, od15, .func (PySem.W.fnOf "_law_pair" "_law_pair" (defArgs s__law_pair) (defBody s__law_pair) (defScope s__law_pair) .none kV15 dc15 pm15 an15 cd15 ct15), sl15⟩) (c15 : PySem.W.codeIn K cd15 "_law_pair" = true) (k15 : PySem.W.keepIn K (.ref f15) = true)
    {f16 : Addr} {od16 an16 : Option Addr} {sl16 : Array (Option Value)} {oc16 kV16 dc16 pm16 cd16 ct16 : Value}
    (a16 : PySem.W.nsIn K mainGlobals "_law_wrong" = some (some (.ref f16))) (l16 : K.lookup f16 = some ⟨oc16, od16, .func (PySem.W.fnOf "_law_wrong" "_law_wrong" (defArgs s__law_wrong) (defBody s__law_wrong) (defScope s__law_wrong) .none kV16 dc16 pm16 an16 cd16 ct16), sl16⟩) (c16 : PySem.W.codeIn K cd16 "_law_wrong" = true) (k16 : PySem.W.keepIn K (.ref f16) = true)
    {f17 : Addr} {od17 an17 : Option Addr} {sl17 : Array (Option Value)} {oc17 kV17 dc17 pm17 cd17 ct17 : Value}
    (a17 : PySem.W.nsIn K mainGlobals "law" = some (some (.ref f17))) (l17 : K.lookup f17 = some ⟨oc17, od17, .func (PySem.W.fnOf "law" "law" (defArgs s_law) (defBody s_law) (defScope s_law) .none kV17 dc17 pm17 an17 cd17 ct17), sl17⟩) (c17 : PySem.W.codeIn K cd17 "law" = true) (k17 : PySem.W.keepIn K (.ref f17) = true)
    (z_all : PySem.W.nsIn K mainGlobals "all" = some none)
    (z_bool : PySem.W.nsIn K mainGlobals "bool" = some none)
    (z_enumerate : PySem.W.nsIn K mainGlobals "enumerate" = some none)
    (z_int : PySem.W.nsIn K mainGlobals "int" = some none)
    (z_isinstance : PySem.W.nsIn K mainGlobals "isinstance" = some none)
    (z_len : PySem.W.nsIn K mainGlobals "len" = some none)
    (z_range : PySem.W.nsIn K mainGlobals "range" = some none)
    (z_str : PySem.W.nsIn K mainGlobals "str" = some none)
    (z_tuple : PySem.W.nsIn K mainGlobals "tuple" = some none)
    {t_MOST : Tok} (g_MOST : PySem.W.nsIn K mainGlobals "MOST" = some (some (.int 1000000000 t_MOST)))
    {t_MOST_BUYERS : Tok} (g_MOST_BUYERS : PySem.W.nsIn K mainGlobals "MOST_BUYERS" = some (some (.int 4 t_MOST_BUYERS)))
    {t_MOST_FIGURES : Tok} (g_MOST_FIGURES : PySem.W.nsIn K mainGlobals "MOST_FIGURES" = some (some (.int 10 t_MOST_FIGURES)))
    {t_MOST_THINGS : Tok} (g_MOST_THINGS : PySem.W.nsIn K mainGlobals "MOST_THINGS" = some (some (.int 3 t_MOST_THINGS)))
    {t_MOST_WORTHS : Tok} (g_MOST_WORTHS : PySem.W.nsIn K mainGlobals "MOST_WORTHS" = some (some (.int 5 t_MOST_WORTHS)))
    : ∃ fd : FuncData, (∀ (s : Shared) (v : Value), BindsTo s fd ⟨[v], []⟩ [("_law_script", v)]) ∧ ∀ base : Heap, K.In base → base.Ns mainGlobals mg → FnOk l.prog w K mg base CX0 8 fa fd ["_law_script"] (spLaw K) := by
  have e := hfa.symm.trans (PySem.W.mg_of X G a17)
  cases e
  obtain ⟨xc, hxc⟩ := xc_ex [("FloorError", c_FloorError), ("InvalidText", c_InvalidText)] (show (["FloorError", "InvalidText"] : List Str).Nodup from by decide +kernel)
  have hx_FloorError : xc "FloorError" = c_FloorError := hxc ("FloorError", c_FloorError) (by simp)
  have hx_InvalidText : xc "InvalidText" = c_InvalidText := hxc ("InvalidText", c_InvalidText) (by simp)
  clear hxc
  subst hx_FloorError
  subst hx_InvalidText
  let B : Bs := ⟨K, cS, xc, true, DXh l.prog w⟩
  have dxf : DxF B l.prog w := ⟨rfl⟩
  have FI_InvalidText := fun_mk (st := s_InvalidText) lI_InvalidText cI_InvalidText kI_InvalidText
  have bI_InvalidText : Binds K _ P_InvalidText [] := FI_InvalidText.binds (ps := P_InvalidText) fun _ _ _ _ _ _ us hl => match us, hl with | [_, _, _], _ => rfl
  have oX_InvalidText : OexC B.K (B.xc "InvalidText") := ⟨⟨_, _, _, _, _, _, _, _, _, _, _, _, _, _, _, xL_InvalidText, by rfl⟩, sa_InvalidText, eC_InvalidText, tC_InvalidText, kC_InvalidText⟩
  have rX_InvalidText : ∀ c ∈ csL, PySem.W.exmOne B.K (.ref (B.xc "InvalidText")) (.ref (B.xc c)) = some (isA "InvalidText" c) := (ca_cons (P := fun c => PySem.W.exmOne B.K (.ref (B.xc "InvalidText")) (.ref (B.xc c)) = some (isA "InvalidText" c)) ((exm_pair eb_InvalidText ic_InvalidText tc_InvalidText su_InvalidText_InvalidText).trans (by decide +kernel)) ca_nil)
  have exm : ExmF B xsL csL := (.row rX_InvalidText .nil)
  have saleF : SaleF B := ⟨⟨pgS, hdS, poS, saS⟩, ncS, nsS, haS, hnS, htS, hmS, fun T hT => by simp only [List.mem_cons, List.not_mem_nil, or_false] at hT; rcases hT with rfl | rfl | rfl | rfl | rfl | rfl | rfl <;> assumption⟩
  have F0 := fun_mk (st := s__law_taken) l0 c0 k0
  have b0 : Binds K _ P__law_taken [] := F0.binds (ps := P__law_taken) fun _ _ _ _ _ _ us hl => match us, hl with | [_, _], _ => rfl
  have F1 := fun_mk (st := s__law_buyer) l1 c1 k1
  have b1 : Binds K _ P__law_buyer [] := F1.binds (ps := P__law_buyer) fun _ _ _ _ _ _ us hl => match us, hl with | [_, _], _ => rfl
  have F2 := fun_mk (st := s__law_parts) l2 c2 k2
  have b2 : Binds K _ P__law_parts [] := F2.binds (ps := P__law_parts) fun _ _ _ _ _ _ us hl => match us, hl with | [_, _, _], _ => rfl
  have F3 := fun_mk (st := s__law_text) l3 c3 k3
  have b3 : Binds K _ P__law_text [] := F3.binds (ps := P__law_text) fun _ _ _ _ _ _ us hl => match us, hl with | [_], _ => rfl
  have F4 := fun_mk (st := s_number_in) l4 c4 k4
  have b4 : Binds K _ P_number_in [] := F4.binds (ps := P_number_in) fun _ _ _ _ _ _ us hl => match us, hl with | [_], _ => rfl
  have F5 := fun_mk (st := s_things_in) l5 c5 k5
  have b5 : Binds K _ P_things_in [] := F5.binds (ps := P_things_in) fun _ _ _ _ _ _ us hl => match us, hl with | [_], _ => rfl
  have F6 := fun_mk (st := s_pair_in) l6 c6 k6
  have b6 : Binds K _ P_pair_in [] := F6.binds (ps := P_pair_in) fun _ _ _ _ _ _ us hl => match us, hl with | [_, _], _ => rfl
  have F7 := fun_mk (st := s_buyer_in) l7 c7 k7
  have b7 : Binds K _ P_buyer_in [] := F7.binds (ps := P_buyer_in) fun _ _ _ _ _ _ us hl => match us, hl with | [_, _], _ => rfl
  have F8 := fun_mk (st := s_is_from) l8 c8 k8
  have b8 : Binds K _ P_is_from [] := F8.binds (ps := P_is_from) fun _ _ _ _ _ _ us hl => match us, hl with | [_, _, _], _ => rfl
  have F9 := fun_mk (st := s_is_pair) l9 c9 k9
  have b9 : Binds K _ P_is_pair [] := F9.binds (ps := P_is_pair) fun _ _ _ _ _ _ us hl => match us, hl with | [_], _ => rfl
  have F10 := fun_mk (st := s_is_buyer) l10 c10 k10
  have b10 : Binds K _ P_is_buyer [] := F10.binds (ps := P_is_buyer) fun _ _ _ _ _ _ us hl => match us, hl with | [_], _ => rfl
  have F11 := fun_mk (st := s_Sale) l11 c11 k11
  have b11 : Binds K _ P_Sale [] := F11.binds (ps := P_Sale) fun _ _ _ _ _ _ us hl => match us, hl with | [_, _, _], _ => rfl
  have F12 := fun_mk (st := s_read) l12 c12 k12
  have b12 : Binds K _ P_read [] := F12.binds (ps := P_read) fun _ _ _ _ _ _ us hl => match us, hl with | [_], _ => rfl
  have F13 := fun_mk (st := s__law_refused) l13 c13 k13
  have b13 : Binds K _ P__law_refused [] := F13.binds (ps := P__law_refused) fun _ _ _ _ _ _ us hl => match us, hl with | [_], _ => rfl
  have F14 := fun_mk (st := s__law_number) l14 c14 k14
  have b14 : Binds K _ P__law_number [] := F14.binds (ps := P__law_number) fun _ _ _ _ _ _ us hl => match us, hl with | [_, _], _ => rfl
  have F15 := fun_mk (st := s__law_pair) l15 c15 k15
  have b15 : Binds K _ P__law_pair [] := F15.binds (ps := P__law_pair) fun _ _ _ _ _ _ us hl => match us, hl with | [_, _], _ => rfl
  have F16 := fun_mk (st := s__law_wrong) l16 c16 k16
  have b16 : Binds K _ P__law_wrong [] := F16.binds (ps := P__law_wrong) fun _ _ _ _ _ _ us hl => match us, hl with | [_], _ => rfl
  have F17 := fun_mk (st := s_law) l17 c17 k17
  have b17 : Binds K _ P_law [] := F17.binds (ps := P_law) fun _ _ _ _ _ _ us hl => match us, hl with | [_], _ => rfl
  let T : Tx B mg := { X_InvalidText := ⟨fi_InvalidText, _, FI_InvalidText, PySem.W.mg_of X G aC_InvalidText, oX_InvalidText, iI_InvalidText, tI_InvalidText, bI_InvalidText⟩, no_InvalidText := no_InvalidText, xf_InvalidText := ⟨ga_InvalidText, gg_InvalidText, eC_InvalidText, hd_InvalidText⟩, n2_InvalidText := n2_InvalidText, c_InvalidText := PySem.W.mg_of X G aC_InvalidText, fe := ⟨PySem.W.mg_of X G aC_FloorError, spF, tyF, rdF, fcF⟩, exm := exm, D__law_taken := ⟨f0, _, F0, PySem.W.mg_of X G a0, k0, b0⟩, D__law_buyer := ⟨f1, _, F1, PySem.W.mg_of X G a1, k1, b1⟩, D__law_parts := ⟨f2, _, F2, PySem.W.mg_of X G a2, k2, b2⟩, D__law_text := ⟨f3, _, F3, PySem.W.mg_of X G a3, k3, b3⟩, D_number_in := ⟨f4, _, F4, PySem.W.mg_of X G a4, k4, b4⟩, D_things_in := ⟨f5, _, F5, PySem.W.mg_of X G a5, k5, b5⟩, D_pair_in := ⟨f6, _, F6, PySem.W.mg_of X G a6, k6, b6⟩, D_buyer_in := ⟨f7, _, F7, PySem.W.mg_of X G a7, k7, b7⟩, D_is_from := ⟨f8, _, F8, PySem.W.mg_of X G a8, k8, b8⟩, D_is_pair := ⟨f9, _, F9, PySem.W.mg_of X G a9, k9, b9⟩, D_is_buyer := ⟨f10, _, F10, PySem.W.mg_of X G a10, k10, b10⟩, f_Sale := f11, d_Sale := _, F_Sale := F11, m_Sale := PySem.W.mg_of X G aS, mk_Sale := ⟨mkS, a11, i11, kcS⟩, sale := saleF, b_Sale := b11, D_read := ⟨f12, _, F12, PySem.W.mg_of X G a12, k12, b12⟩, D__law_refused := ⟨f13, _, F13, PySem.W.mg_of X G a13, k13, b13⟩, D__law_number := ⟨f14, _, F14, PySem.W.mg_of X G a14, k14, b14⟩, D__law_pair := ⟨f15, _, F15, PySem.W.mg_of X G a15, k15, b15⟩, D__law_wrong := ⟨f16, _, F16, PySem.W.mg_of X G a16, k16, b16⟩, D_law := ⟨fa, _, F17, PySem.W.mg_of X G a17, k17, b17⟩, n_all := PySem.W.mg_none_of X G z_all, n_bool := PySem.W.mg_none_of X G z_bool, n_enumerate := PySem.W.mg_none_of X G z_enumerate, n_int := PySem.W.mg_none_of X G z_int, n_isinstance := PySem.W.mg_none_of X G z_isinstance, n_len := PySem.W.mg_none_of X G z_len, n_range := PySem.W.mg_none_of X G z_range, n_str := PySem.W.mg_none_of X G z_str, n_tuple := PySem.W.mg_none_of X G z_tuple, t_MOST := t_MOST, m_MOST := PySem.W.mg_of X G g_MOST, t_MOST_BUYERS := t_MOST_BUYERS, m_MOST_BUYERS := PySem.W.mg_of X G g_MOST_BUYERS, t_MOST_FIGURES := t_MOST_FIGURES, m_MOST_FIGURES := PySem.W.mg_of X G g_MOST_FIGURES, t_MOST_THINGS := t_MOST_THINGS, m_MOST_THINGS := PySem.W.mg_of X G g_MOST_THINGS, t_MOST_WORTHS := t_MOST_WORTHS, m_MOST_WORTHS := PySem.W.mg_of X G g_MOST_WORTHS }
  exact ⟨_, fun s v => .of_eq rfl, fun base _ _ => ok_law (B := B) T hl⟩
def exL0 : List (PySem.W.Frag → Bool) := [
  fun K => decide (PySem.W.nsIn K mainGlobals "Sale" = some (some (.ref (He.ga K "Sale")))),
  fun K => PySem.W.plainGet K (He.ga K "Sale") Str.empty,
  fun K => PySem.W.hasDictIn K (He.ga K "Sale"),
  fun K => PySem.W.plainOver K (He.ga K "Sale"),
  fun K => decide (PySem.W.findIn K (.ref (He.ga K "Sale")) "__setattr__" = some (some (.builtin "object.__setattr__"))),
  fun K => PySem.W.makesIn K (He.ga K "Sale"),
  fun K => PySem.W.keepIn K (.ref (He.ga K "Sale")),
  fun K => decide (PySem.W.findIn K (.ref (He.ga K "Sale")) "crowd" = some none),
  fun K => decide (PySem.W.findIn K (.ref (He.ga K "Sale")) "stock" = some none),
  fun K => decide (PySem.W.findIn K (.ref (He.ga K "Sale")) "__class__" = some (some (.builtin "object.__class__"))),
  fun K => decide (PySem.W.specialIn K (.builtin "object.__class__") "__get__" = some (some (.builtin "getset_descriptor.__get__"))),
  fun K => decide (PySem.W.takesIn K (.builtin "object.__class__") = some true),
  fun K => decide (PySem.W.mroIn K (He.ga K "Sale") (.type "object") = some true),
  fun K => decide (PySem.W.kitOne K (.type "NoneType") (.ref (He.ga K "Sale")) = some false),
  fun K => decide (PySem.W.kitOne K (.type "bool") (.ref (He.ga K "Sale")) = some false),
  fun K => decide (PySem.W.kitOne K (.type "int") (.ref (He.ga K "Sale")) = some false),
  fun K => decide (PySem.W.kitOne K (.type "str") (.ref (He.ga K "Sale")) = some false),
  fun K => decide (PySem.W.kitOne K (.type "tuple") (.ref (He.ga K "Sale")) = some false),
  fun K => decide (PySem.W.kitOne K (.type "list") (.ref (He.ga K "Sale")) = some false),
  fun K => decide (PySem.W.kitOne K (.type "dict") (.ref (He.ga K "Sale")) = some false),
  fun K => decide (PySem.W.nsIn K mainGlobals "FloorError" = some (some (.ref (He.ga K "FloorError")))),
  fun K => decide (PySem.W.nsIn K mainGlobals "InvalidText" = some (some (.ref (He.ga K "InvalidText")))),
  fun K => decide (PySem.W.specialIn K (.ref (He.ga K "FloorError")) "__getattribute__" = some (some (.builtin "type.__getattribute__"))),
  fun K => decide (PySem.W.typeIn K (.ref (He.ga K "FloorError")) = some (.type "type")),
  fun K => PySem.W.readsIn K (He.ga K "FloorError") (.type "type"),
  fun K => HX.valB K (He.ga K "FloorError"),
  fun K => HX.excB K (He.ga K "InvalidText") [.ref (He.ga K "FloorError"), .type "ValueError", .type "Exception", .type "BaseException", .type "object"],
  fun K => decide (PySem.W.findIn K (.ref (He.ga K "InvalidText")) "__setattr__" = some (some (.builtin "object.__setattr__"))),
  fun K => PySem.W.keepIn K (.ref (He.ga K "InvalidText")),
  fun K => decide (PySem.W.subIn K (.ref (He.ga K "InvalidText")) (.type "BaseException") = some true)]
def exL1 : List (PySem.W.Frag → Bool) := [
  fun K => decide (PySem.W.typeIn K (.ref (He.ga K "InvalidText")) = some (.type "type")),
  fun K => decide (PySem.W.findIn K (.ref (He.ga K "InvalidText")) "__init__" = some (some (.ref (He.ma K (He.ga K "InvalidText") "__init__")))),
  fun K => decide (PySem.W.typeIn K (.ref (He.ma K (He.ga K "InvalidText") "__init__")) = some (.type "function")),
  fun K => HX.codeB K (He.ma K (He.ga K "InvalidText") "__init__") "InvalidText.__init__",
  fun K => PySem.W.keepIn K (.ref (He.ma K (He.ga K "InvalidText") "__init__")),
  fun K => decide (PySem.W.findIn K (.ref (He.ga K "InvalidText")) "line" = some none),
  fun K => decide (PySem.W.findIn K (.ref (He.ga K "InvalidText")) "__getattribute__" = some (some (.builtin "BaseException.__getattribute__"))),
  fun K => decide (PySem.W.findIn K (.ref (He.ga K "InvalidText")) "__getattr__" = some none),
  fun K => PySem.W.hasDictIn K (He.ga K "InvalidText"),
  fun K => decide (PySem.W.findIn K (.ref (He.ga K "InvalidText")) "word" = some none),
  fun K => decide (PySem.W.subIn K (.ref (He.ga K "InvalidText")) (.type "BaseException") = some true),
  fun K => PySem.W.isClsIn K (He.ga K "InvalidText"),
  fun K => decide (PySem.W.typeIn K (.ref (He.ga K "InvalidText")) = some (.type "type")),
  fun K => decide (PySem.W.subIn K (.ref (He.ga K "InvalidText")) (.ref (He.ga K "InvalidText")) = some true),
  fun K => decide (PySem.W.nsIn K mainGlobals "_law_taken" = some (some (.ref (He.ga K "_law_taken")))),
  fun K => HX.codeB K (He.ga K "_law_taken") "_law_taken",
  fun K => PySem.W.keepIn K (.ref (He.ga K "_law_taken")),
  fun K => decide (PySem.W.nsIn K mainGlobals "_law_buyer" = some (some (.ref (He.ga K "_law_buyer")))),
  fun K => HX.codeB K (He.ga K "_law_buyer") "_law_buyer",
  fun K => PySem.W.keepIn K (.ref (He.ga K "_law_buyer")),
  fun K => decide (PySem.W.nsIn K mainGlobals "_law_parts" = some (some (.ref (He.ga K "_law_parts")))),
  fun K => HX.codeB K (He.ga K "_law_parts") "_law_parts",
  fun K => PySem.W.keepIn K (.ref (He.ga K "_law_parts")),
  fun K => decide (PySem.W.nsIn K mainGlobals "_law_text" = some (some (.ref (He.ga K "_law_text")))),
  fun K => HX.codeB K (He.ga K "_law_text") "_law_text",
  fun K => PySem.W.keepIn K (.ref (He.ga K "_law_text")),
  fun K => decide (PySem.W.nsIn K mainGlobals "number_in" = some (some (.ref (He.ga K "number_in")))),
  fun K => HX.codeB K (He.ga K "number_in") "number_in",
  fun K => PySem.W.keepIn K (.ref (He.ga K "number_in")),
  fun K => decide (PySem.W.nsIn K mainGlobals "things_in" = some (some (.ref (He.ga K "things_in"))))]
def exL2 : List (PySem.W.Frag → Bool) := [
  fun K => HX.codeB K (He.ga K "things_in") "things_in",
  fun K => PySem.W.keepIn K (.ref (He.ga K "things_in")),
  fun K => decide (PySem.W.nsIn K mainGlobals "pair_in" = some (some (.ref (He.ga K "pair_in")))),
  fun K => HX.codeB K (He.ga K "pair_in") "pair_in",
  fun K => PySem.W.keepIn K (.ref (He.ga K "pair_in")),
  fun K => decide (PySem.W.nsIn K mainGlobals "buyer_in" = some (some (.ref (He.ga K "buyer_in")))),
  fun K => HX.codeB K (He.ga K "buyer_in") "buyer_in",
  fun K => PySem.W.keepIn K (.ref (He.ga K "buyer_in")),
  fun K => decide (PySem.W.nsIn K mainGlobals "is_from" = some (some (.ref (He.ga K "is_from")))),
  fun K => HX.codeB K (He.ga K "is_from") "is_from",
  fun K => PySem.W.keepIn K (.ref (He.ga K "is_from")),
  fun K => decide (PySem.W.nsIn K mainGlobals "is_pair" = some (some (.ref (He.ga K "is_pair")))),
  fun K => HX.codeB K (He.ga K "is_pair") "is_pair",
  fun K => PySem.W.keepIn K (.ref (He.ga K "is_pair")),
  fun K => decide (PySem.W.nsIn K mainGlobals "is_buyer" = some (some (.ref (He.ga K "is_buyer")))),
  fun K => HX.codeB K (He.ga K "is_buyer") "is_buyer",
  fun K => PySem.W.keepIn K (.ref (He.ga K "is_buyer")),
  fun K => decide (PySem.W.findIn K (.ref (He.ga K "Sale")) "__init__" = some (some (.ref (He.ma K (He.ga K "Sale") "__init__")))),
  fun K => PySem.W.isFn K (.ref (He.ma K (He.ga K "Sale") "__init__")),
  fun K => HX.codeB K (He.ma K (He.ga K "Sale") "__init__") "Sale.__init__",
  fun K => PySem.W.keepIn K (.ref (He.ma K (He.ga K "Sale") "__init__")),
  fun K => decide (PySem.W.nsIn K mainGlobals "read" = some (some (.ref (He.ga K "read")))),
  fun K => HX.codeB K (He.ga K "read") "read",
  fun K => PySem.W.keepIn K (.ref (He.ga K "read")),
  fun K => decide (PySem.W.nsIn K mainGlobals "_law_refused" = some (some (.ref (He.ga K "_law_refused")))),
  fun K => HX.codeB K (He.ga K "_law_refused") "_law_refused",
  fun K => PySem.W.keepIn K (.ref (He.ga K "_law_refused")),
  fun K => decide (PySem.W.nsIn K mainGlobals "_law_number" = some (some (.ref (He.ga K "_law_number")))),
  fun K => HX.codeB K (He.ga K "_law_number") "_law_number",
  fun K => PySem.W.keepIn K (.ref (He.ga K "_law_number"))]
def exL3 : List (PySem.W.Frag → Bool) := [
  fun K => decide (PySem.W.nsIn K mainGlobals "_law_pair" = some (some (.ref (He.ga K "_law_pair")))),
  fun K => HX.codeB K (He.ga K "_law_pair") "_law_pair",
  fun K => PySem.W.keepIn K (.ref (He.ga K "_law_pair")),
  fun K => decide (PySem.W.nsIn K mainGlobals "_law_wrong" = some (some (.ref (He.ga K "_law_wrong")))),
  fun K => HX.codeB K (He.ga K "_law_wrong") "_law_wrong",
  fun K => PySem.W.keepIn K (.ref (He.ga K "_law_wrong")),
  fun K => decide (PySem.W.nsIn K mainGlobals "law" = some (some (.ref (He.ga K "law")))),
  fun K => HX.codeB K (He.ga K "law") "law",
  fun K => PySem.W.keepIn K (.ref (He.ga K "law")),
  fun K => decide (PySem.W.nsIn K mainGlobals "all" = some none),
  fun K => decide (PySem.W.nsIn K mainGlobals "bool" = some none),
  fun K => decide (PySem.W.nsIn K mainGlobals "enumerate" = some none),
  fun K => decide (PySem.W.nsIn K mainGlobals "int" = some none),
  fun K => decide (PySem.W.nsIn K mainGlobals "isinstance" = some none),
  fun K => decide (PySem.W.nsIn K mainGlobals "len" = some none),
  fun K => decide (PySem.W.nsIn K mainGlobals "range" = some none),
  fun K => decide (PySem.W.nsIn K mainGlobals "str" = some none),
  fun K => decide (PySem.W.nsIn K mainGlobals "tuple" = some none),
  fun K => HX.intB K "MOST" 1000000000,
  fun K => HX.intB K "MOST_BUYERS" 4,
  fun K => HX.intB K "MOST_FIGURES" 10,
  fun K => HX.intB K "MOST_THINGS" 3,
  fun K => HX.intB K "MOST_WORTHS" 5]
def exL : List (PySem.W.Frag → Bool) := exL0 ++ exL1 ++ exL2 ++ exL3
def fsL0 : List (PySem.W.Frag → Addr) := [
  fun K => (He.ma K (He.ga K "InvalidText") "__init__"),
  fun K => (He.ga K "_law_taken"),
  fun K => (He.ga K "_law_buyer"),
  fun K => (He.ga K "_law_parts"),
  fun K => (He.ga K "_law_text"),
  fun K => (He.ga K "number_in"),
  fun K => (He.ga K "things_in"),
  fun K => (He.ga K "pair_in"),
  fun K => (He.ga K "buyer_in"),
  fun K => (He.ga K "is_from"),
  fun K => (He.ga K "is_pair"),
  fun K => (He.ga K "is_buyer"),
  fun K => (He.ma K (He.ga K "Sale") "__init__"),
  fun K => (He.ga K "read"),
  fun K => (He.ga K "_law_refused"),
  fun K => (He.ga K "_law_number"),
  fun K => (He.ga K "_law_pair"),
  fun K => (He.ga K "_law_wrong"),
  fun K => (He.ga K "law")]
def fsL : List (PySem.W.Frag → Addr) := fsL0
def fvL0 : List He.FnV := [
  some ("__init__", "InvalidText.__init__", defArgs s_InvalidText, .stmts (defBody s_InvalidText), defScope s_InvalidText, mainGlobals, [], .none, builtinsNs),
  some ("_law_taken", "_law_taken", defArgs s__law_taken, .stmts (defBody s__law_taken), defScope s__law_taken, mainGlobals, [], .none, builtinsNs),
  some ("_law_buyer", "_law_buyer", defArgs s__law_buyer, .stmts (defBody s__law_buyer), defScope s__law_buyer, mainGlobals, [], .none, builtinsNs),
  some ("_law_parts", "_law_parts", defArgs s__law_parts, .stmts (defBody s__law_parts), defScope s__law_parts, mainGlobals, [], .none, builtinsNs),
  some ("_law_text", "_law_text", defArgs s__law_text, .stmts (defBody s__law_text), defScope s__law_text, mainGlobals, [], .none, builtinsNs),
  some ("number_in", "number_in", defArgs s_number_in, .stmts (defBody s_number_in), defScope s_number_in, mainGlobals, [], .none, builtinsNs),
  some ("things_in", "things_in", defArgs s_things_in, .stmts (defBody s_things_in), defScope s_things_in, mainGlobals, [], .none, builtinsNs),
  some ("pair_in", "pair_in", defArgs s_pair_in, .stmts (defBody s_pair_in), defScope s_pair_in, mainGlobals, [], .none, builtinsNs),
  some ("buyer_in", "buyer_in", defArgs s_buyer_in, .stmts (defBody s_buyer_in), defScope s_buyer_in, mainGlobals, [], .none, builtinsNs),
  some ("is_from", "is_from", defArgs s_is_from, .stmts (defBody s_is_from), defScope s_is_from, mainGlobals, [], .none, builtinsNs),
  some ("is_pair", "is_pair", defArgs s_is_pair, .stmts (defBody s_is_pair), defScope s_is_pair, mainGlobals, [], .none, builtinsNs),
  some ("is_buyer", "is_buyer", defArgs s_is_buyer, .stmts (defBody s_is_buyer), defScope s_is_buyer, mainGlobals, [], .none, builtinsNs),
  some ("__init__", "Sale.__init__", defArgs s_Sale, .stmts (defBody s_Sale), defScope s_Sale, mainGlobals, [], .none, builtinsNs),
  some ("read", "read", defArgs s_read, .stmts (defBody s_read), defScope s_read, mainGlobals, [], .none, builtinsNs),
  some ("_law_refused", "_law_refused", defArgs s__law_refused, .stmts (defBody s__law_refused), defScope s__law_refused, mainGlobals, [], .none, builtinsNs),
  some ("_law_number", "_law_number", defArgs s__law_number, .stmts (defBody s__law_number), defScope s__law_number, mainGlobals, [], .none, builtinsNs),
  some ("_law_pair", "_law_pair", defArgs s__law_pair, .stmts (defBody s__law_pair), defScope s__law_pair, mainGlobals, [], .none, builtinsNs),
  some ("_law_wrong", "_law_wrong", defArgs s__law_wrong, .stmts (defBody s__law_wrong), defScope s__law_wrong, mainGlobals, [], .none, builtinsNs),
  some ("law", "law", defArgs s_law, .stmts (defBody s_law), defScope s_law, mainGlobals, [], .none, builtinsNs)]
def fvL : List He.FnV := fvL0
theorem all_mk3 {l : PySem.W.OpenLaw} {w : World} {K : PySem.W.Frag} {h : Heap} {mg : Str → Option Value} {fa : Addr} (X : K.In h) (G : h.Ns mainGlobals mg) (hfa : mg "law" = some (.ref fa)) (c : HX.obsH exL fsL K = (true, fvL)) :
    ∃ fd : FuncData, (∀ (s : Shared) (v : Value), BindsTo s fd ⟨[v], []⟩ [("_law_script", v)]) ∧ ∀ base : Heap, K.In base → base.Ns mainGlobals mg → FnOk l.prog w K mg base CX0 8 fa fd ["_law_script"] (spLaw K) := by
  have aS : PySem.W.nsIn K mainGlobals "Sale" = some (some (.ref (He.ga K "Sale"))) := of_decide_eq_true (HX.at_ok c 0 (by rfl))
  have pgS : PySem.W.plainGet K (He.ga K "Sale") Str.empty = true := HX.at_ok c 1 (by rfl)
  have hdS : PySem.W.hasDictIn K (He.ga K "Sale") = true := HX.at_ok c 2 (by rfl)
  have poS : PySem.W.plainOver K (He.ga K "Sale") = true := HX.at_ok c 3 (by rfl)
  have saS : PySem.W.findIn K (.ref (He.ga K "Sale")) "__setattr__" = some (some (.builtin "object.__setattr__")) := of_decide_eq_true (HX.at_ok c 4 (by rfl))
  have mkS : PySem.W.makesIn K (He.ga K "Sale") = true := HX.at_ok c 5 (by rfl)
  have kcS : PySem.W.keepIn K (.ref (He.ga K "Sale")) = true := HX.at_ok c 6 (by rfl)
  have ncS : PySem.W.findIn K (.ref (He.ga K "Sale")) "crowd" = some none := of_decide_eq_true (HX.at_ok c 7 (by rfl))
  have nsS : PySem.W.findIn K (.ref (He.ga K "Sale")) "stock" = some none := of_decide_eq_true (HX.at_ok c 8 (by rfl))
  have haS : PySem.W.findIn K (.ref (He.ga K "Sale")) "__class__" = some (some (.builtin "object.__class__")) := of_decide_eq_true (HX.at_ok c 9 (by rfl))
  have hnS : PySem.W.specialIn K (.builtin "object.__class__") "__get__" = some (some (.builtin "getset_descriptor.__get__")) := of_decide_eq_true (HX.at_ok c 10 (by rfl))
  have htS : PySem.W.takesIn K (.builtin "object.__class__") = some true := of_decide_eq_true (HX.at_ok c 11 (by rfl))
  have hmS : PySem.W.mroIn K (He.ga K "Sale") (.type "object") = some true := of_decide_eq_true (HX.at_ok c 12 (by rfl))
  have ty0S : PySem.W.kitOne K (.type "NoneType") (.ref (He.ga K "Sale")) = some false := of_decide_eq_true (HX.at_ok c 13 (by rfl))
  have ty1S : PySem.W.kitOne K (.type "bool") (.ref (He.ga K "Sale")) = some false := of_decide_eq_true (HX.at_ok c 14 (by rfl))
  have ty2S : PySem.W.kitOne K (.type "int") (.ref (He.ga K "Sale")) = some false := of_decide_eq_true (HX.at_ok c 15 (by rfl))
  have ty3S : PySem.W.kitOne K (.type "str") (.ref (He.ga K "Sale")) = some false := of_decide_eq_true (HX.at_ok c 16 (by rfl))
  have ty4S : PySem.W.kitOne K (.type "tuple") (.ref (He.ga K "Sale")) = some false := of_decide_eq_true (HX.at_ok c 17 (by rfl))
  have ty5S : PySem.W.kitOne K (.type "list") (.ref (He.ga K "Sale")) = some false := of_decide_eq_true (HX.at_ok c 18 (by rfl))
  have ty6S : PySem.W.kitOne K (.type "dict") (.ref (He.ga K "Sale")) = some false := of_decide_eq_true (HX.at_ok c 19 (by rfl))
  have aC_FloorError : PySem.W.nsIn K mainGlobals "FloorError" = some (some (.ref (He.ga K "FloorError"))) := of_decide_eq_true (HX.at_ok c 20 (by rfl))
  have aC_InvalidText : PySem.W.nsIn K mainGlobals "InvalidText" = some (some (.ref (He.ga K "InvalidText"))) := of_decide_eq_true (HX.at_ok c 21 (by rfl))
  have spF : PySem.W.specialIn K (.ref (He.ga K "FloorError")) "__getattribute__" = some (some (.builtin "type.__getattribute__")) := of_decide_eq_true (HX.at_ok c 22 (by rfl))
  have tyF : PySem.W.typeIn K (.ref (He.ga K "FloorError")) = some (.type "type") := of_decide_eq_true (HX.at_ok c 23 (by rfl))
  have rdF : PySem.W.readsIn K (He.ga K "FloorError") (.type "type") = true := HX.at_ok c 24 (by rfl)
  have fcF : PySem.W.findCls K (.ref (He.ga K "FloorError")) (.type "type") "__init__" = some (.val (.builtin "ValueError.__init__")) := HX.valB_ok (HX.at_ok c 25 (by rfl))
  obtain ⟨nm_InvalidText, q_InvalidText, N_InvalidText, bs_InvalidText, sn_InvalidText, sub_InvalidText, ab_InvalidText, col_InvalidText, dd_InvalidText, m0_InvalidText, m1_InvalidText, m2_InvalidText, m3_InvalidText, m5_InvalidText, xL_InvalidText⟩ := HX.excB_ok (HX.at_ok c 26 (by rfl))
  have sa_InvalidText : PySem.W.findIn K (.ref (He.ga K "InvalidText")) "__setattr__" = some (some (.builtin "object.__setattr__")) := of_decide_eq_true (HX.at_ok c 27 (by rfl))
  have kC_InvalidText : PySem.W.keepIn K (.ref (He.ga K "InvalidText")) = true := HX.at_ok c 28 (by rfl)
  have eC_InvalidText : PySem.W.subIn K (.ref (He.ga K "InvalidText")) (.type "BaseException") = some true := of_decide_eq_true (HX.at_ok c 29 (by rfl))
  have tC_InvalidText : PySem.W.typeIn K (.ref (He.ga K "InvalidText")) = some (.type "type") := of_decide_eq_true (HX.at_ok c 30 (by rfl))
  have iI_InvalidText : PySem.W.findIn K (.ref (He.ga K "InvalidText")) "__init__" = some (some (.ref (He.ma K (He.ga K "InvalidText") "__init__"))) := of_decide_eq_true (HX.at_ok c 31 (by rfl))
  have tI_InvalidText : PySem.W.typeIn K (.ref (He.ma K (He.ga K "InvalidText") "__init__")) = some (.type "function") := of_decide_eq_true (HX.at_ok c 32 (by rfl))
  obtain ⟨oci_InvalidText, odi_InvalidText, sli_InvalidText, kVi_InvalidText, dci_InvalidText, pmi_InvalidText, ani_InvalidText, cdi_InvalidText, cti_InvalidText, lI_InvalidText, cI_InvalidText⟩ := HX.fnA_ok (q2 := "InvalidText.__init__") (HX.fn_at c 0 (by rfl) (by rfl)) (HX.at_ok c 33 (by rfl))
  have kI_InvalidText : PySem.W.keepIn K (.ref (He.ma K (He.ga K "InvalidText") "__init__")) = true := HX.at_ok c 34 (by rfl)
  have no_InvalidText : PySem.W.findIn K (.ref (He.ga K "InvalidText")) "line" = some none := of_decide_eq_true (HX.at_ok c 35 (by rfl))
  have ga_InvalidText : PySem.W.findIn K (.ref (He.ga K "InvalidText")) "__getattribute__" = some (some (.builtin "BaseException.__getattribute__")) := of_decide_eq_true (HX.at_ok c 36 (by rfl))
  have gg_InvalidText : PySem.W.findIn K (.ref (He.ga K "InvalidText")) "__getattr__" = some none := of_decide_eq_true (HX.at_ok c 37 (by rfl))
  have hd_InvalidText : PySem.W.hasDictIn K (He.ga K "InvalidText") = true := HX.at_ok c 38 (by rfl)
  have n2_InvalidText : PySem.W.findIn K (.ref (He.ga K "InvalidText")) "word" = some none := of_decide_eq_true (HX.at_ok c 39 (by rfl))
  have eb_InvalidText : PySem.W.subIn K (.ref (He.ga K "InvalidText")) (.type "BaseException") = some true := of_decide_eq_true (HX.at_ok c 40 (by rfl))
  have ic_InvalidText : PySem.W.isClsIn K (He.ga K "InvalidText") = true := HX.at_ok c 41 (by rfl)
  have tc_InvalidText : PySem.W.typeIn K (.ref (He.ga K "InvalidText")) = some (.type "type") := of_decide_eq_true (HX.at_ok c 42 (by rfl))
  have su_InvalidText_InvalidText : PySem.W.subIn K (.ref (He.ga K "InvalidText")) (.ref (He.ga K "InvalidText")) = some true := of_decide_eq_true (HX.at_ok c 43 (by rfl))
  have a0 : PySem.W.nsIn K mainGlobals "_law_taken" = some (some (.ref (He.ga K "_law_taken"))) := of_decide_eq_true (HX.at_ok c 44 (by rfl))
  obtain ⟨oc0, od0, sl0, kV0, dc0, pm0, an0, cd0, ct0, l0, c0⟩ := HX.fnA_ok (q2 := "_law_taken") (HX.fn_at c 1 (by rfl) (by rfl)) (HX.at_ok c 45 (by rfl))
  have k0 : PySem.W.keepIn K (.ref (He.ga K "_law_taken")) = true := HX.at_ok c 46 (by rfl)
  have a1 : PySem.W.nsIn K mainGlobals "_law_buyer" = some (some (.ref (He.ga K "_law_buyer"))) := of_decide_eq_true (HX.at_ok c 47 (by rfl))
  obtain ⟨oc1, od1, sl1, kV1, dc1, pm1, an1, cd1, ct1, l1, c1⟩ := HX.fnA_ok (q2 := "_law_buyer") (HX.fn_at c 2 (by rfl) (by rfl)) (HX.at_ok c 48 (by rfl))
  have k1 : PySem.W.keepIn K (.ref (He.ga K "_law_buyer")) = true := HX.at_ok c 49 (by rfl)
  have a2 : PySem.W.nsIn K mainGlobals "_law_parts" = some (some (.ref (He.ga K "_law_parts"))) := of_decide_eq_true (HX.at_ok c 50 (by rfl))
  obtain ⟨oc2, od2, sl2, kV2, dc2, pm2, an2, cd2, ct2, l2, c2⟩ := HX.fnA_ok (q2 := "_law_parts") (HX.fn_at c 3 (by rfl) (by rfl)) (HX.at_ok c 51 (by rfl))
  have k2 : PySem.W.keepIn K (.ref (He.ga K "_law_parts")) = true := HX.at_ok c 52 (by rfl)
  have a3 : PySem.W.nsIn K mainGlobals "_law_text" = some (some (.ref (He.ga K "_law_text"))) := of_decide_eq_true (HX.at_ok c 53 (by rfl))
  obtain ⟨oc3, od3, sl3, kV3, dc3, pm3, an3, cd3, ct3, l3, c3⟩ := HX.fnA_ok (q2 := "_law_text") (HX.fn_at c 4 (by rfl) (by rfl)) (HX.at_ok c 54 (by rfl))
  have k3 : PySem.W.keepIn K (.ref (He.ga K "_law_text")) = true := HX.at_ok c 55 (by rfl)
  have a4 : PySem.W.nsIn K mainGlobals "number_in" = some (some (.ref (He.ga K "number_in"))) := of_decide_eq_true (HX.at_ok c 56 (by rfl))
  obtain ⟨oc4, od4, sl4, kV4, dc4, pm4, an4, cd4, ct4, l4, c4⟩ := HX.fnA_ok (q2 := "number_in") (HX.fn_at c 5 (by rfl) (by rfl)) (HX.at_ok c 57 (by rfl))
  have k4 : PySem.W.keepIn K (.ref (He.ga K "number_in")) = true := HX.at_ok c 58 (by rfl)
  have a5 : PySem.W.nsIn K mainGlobals "things_in" = some (some (.ref (He.ga K "things_in"))) := of_decide_eq_true (HX.at_ok c 59 (by rfl))
  obtain ⟨oc5, od5, sl5, kV5, dc5, pm5, an5, cd5, ct5, l5, c5⟩ := HX.fnA_ok (q2 := "things_in") (HX.fn_at c 6 (by rfl) (by rfl)) (HX.at_ok c 60 (by rfl))
  have k5 : PySem.W.keepIn K (.ref (He.ga K "things_in")) = true := HX.at_ok c 61 (by rfl)
  have a6 : PySem.W.nsIn K mainGlobals "pair_in" = some (some (.ref (He.ga K "pair_in"))) := of_decide_eq_true (HX.at_ok c 62 (by rfl))
  obtain ⟨oc6, od6, sl6, kV6, dc6, pm6, an6, cd6, ct6, l6, c6⟩ := HX.fnA_ok (q2 := "pair_in") (HX.fn_at c 7 (by rfl) (by rfl)) (HX.at_ok c 63 (by rfl))
  have k6 : PySem.W.keepIn K (.ref (He.ga K "pair_in")) = true := HX.at_ok c 64 (by rfl)
  have a7 : PySem.W.nsIn K mainGlobals "buyer_in" = some (some (.ref (He.ga K "buyer_in"))) := of_decide_eq_true (HX.at_ok c 65 (by rfl))
  obtain ⟨oc7, od7, sl7, kV7, dc7, pm7, an7, cd7, ct7, l7, c7⟩ := HX.fnA_ok (q2 := "buyer_in") (HX.fn_at c 8 (by rfl) (by rfl)) (HX.at_ok c 66 (by rfl))
  have k7 : PySem.W.keepIn K (.ref (He.ga K "buyer_in")) = true := HX.at_ok c 67 (by rfl)
  have a8 : PySem.W.nsIn K mainGlobals "is_from" = some (some (.ref (He.ga K "is_from"))) := of_decide_eq_true (HX.at_ok c 68 (by rfl))
  obtain ⟨oc8, od8, sl8, kV8, dc8, pm8, an8, cd8, ct8, l8, c8⟩ := HX.fnA_ok (q2 := "is_from") (HX.fn_at c 9 (by rfl) (by rfl)) (HX.at_ok c 69 (by rfl))
  have k8 : PySem.W.keepIn K (.ref (He.ga K "is_from")) = true := HX.at_ok c 70 (by rfl)
  have a9 : PySem.W.nsIn K mainGlobals "is_pair" = some (some (.ref (He.ga K "is_pair"))) := of_decide_eq_true (HX.at_ok c 71 (by rfl))
  obtain ⟨oc9, od9, sl9, kV9, dc9, pm9, an9, cd9, ct9, l9, c9⟩ := HX.fnA_ok (q2 := "is_pair") (HX.fn_at c 10 (by rfl) (by rfl)) (HX.at_ok c 72 (by rfl))
  have k9 : PySem.W.keepIn K (.ref (He.ga K "is_pair")) = true := HX.at_ok c 73 (by rfl)
  have a10 : PySem.W.nsIn K mainGlobals "is_buyer" = some (some (.ref (He.ga K "is_buyer"))) := of_decide_eq_true (HX.at_ok c 74 (by rfl))
  obtain ⟨oc10, od10, sl10, kV10, dc10, pm10, an10, cd10, ct10, l10, c10⟩ := HX.fnA_ok (q2 := "is_buyer") (HX.fn_at c 11 (by rfl) (by rfl)) (HX.at_ok c 75 (by rfl))
  have k10 : PySem.W.keepIn K (.ref (He.ga K "is_buyer")) = true := HX.at_ok c 76 (by rfl)
  have a11 : PySem.W.findIn K (.ref (He.ga K "Sale")) "__init__" = some (some (.ref (He.ma K (He.ga K "Sale") "__init__"))) := of_decide_eq_true (HX.at_ok c 77 (by rfl))
  have i11 : PySem.W.isFn K (.ref (He.ma K (He.ga K "Sale") "__init__")) = true := HX.at_ok c 78 (by rfl)
  obtain ⟨oc11, od11, sl11, kV11, dc11, pm11, an11, cd11, ct11, l11, c11⟩ := HX.fnA_ok (q2 := "Sale.__init__") (HX.fn_at c 12 (by rfl) (by rfl)) (HX.at_ok c 79 (by rfl))
  have k11 : PySem.W.keepIn K (.ref (He.ma K (He.ga K "Sale") "__init__")) = true := HX.at_ok c 80 (by rfl)
  have a12 : PySem.W.nsIn K mainGlobals "read" = some (some (.ref (He.ga K "read"))) := of_decide_eq_true (HX.at_ok c 81 (by rfl))
  obtain ⟨oc12, od12, sl12, kV12, dc12, pm12, an12, cd12, ct12, l12, c12⟩ := HX.fnA_ok (q2 := "read") (HX.fn_at c 13 (by rfl) (by rfl)) (HX.at_ok c 82 (by rfl))
  have k12 : PySem.W.keepIn K (.ref (He.ga K "read")) = true := HX.at_ok c 83 (by rfl)
  have a13 : PySem.W.nsIn K mainGlobals "_law_refused" = some (some (.ref (He.ga K "_law_refused"))) := of_decide_eq_true (HX.at_ok c 84 (by rfl))
  obtain ⟨oc13, od13, sl13, kV13, dc13, pm13, an13, cd13, ct13, l13, c13⟩ := HX.fnA_ok (q2 := "_law_refused") (HX.fn_at c 14 (by rfl) (by rfl)) (HX.at_ok c 85 (by rfl))
  have k13 : PySem.W.keepIn K (.ref (He.ga K "_law_refused")) = true := HX.at_ok c 86 (by rfl)
  have a14 : PySem.W.nsIn K mainGlobals "_law_number" = some (some (.ref (He.ga K "_law_number"))) := of_decide_eq_true (HX.at_ok c 87 (by rfl))
  obtain ⟨oc14, od14, sl14, kV14, dc14, pm14, an14, cd14, ct14, l14, c14⟩ := HX.fnA_ok (q2 := "_law_number") (HX.fn_at c 15 (by rfl) (by rfl)) (HX.at_ok c 88 (by rfl))
  have k14 : PySem.W.keepIn K (.ref (He.ga K "_law_number")) = true := HX.at_ok c 89 (by rfl)
  have a15 : PySem.W.nsIn K mainGlobals "_law_pair" = some (some (.ref (He.ga K "_law_pair"))) := of_decide_eq_true (HX.at_ok c 90 (by rfl))
  obtain ⟨oc15, od15, sl15, kV15, dc15, pm15, an15, cd15, ct15, l15, c15⟩ := HX.fnA_ok (q2 := "_law_pair") (HX.fn_at c 16 (by rfl) (by rfl)) (HX.at_ok c 91 (by rfl))
  have k15 : PySem.W.keepIn K (.ref (He.ga K "_law_pair")) = true := HX.at_ok c 92 (by rfl)
  have a16 : PySem.W.nsIn K mainGlobals "_law_wrong" = some (some (.ref (He.ga K "_law_wrong"))) := of_decide_eq_true (HX.at_ok c 93 (by rfl))
  obtain ⟨oc16, od16, sl16, kV16, dc16, pm16, an16, cd16, ct16, l16, c16⟩ := HX.fnA_ok (q2 := "_law_wrong") (HX.fn_at c 17 (by rfl) (by rfl)) (HX.at_ok c 94 (by rfl))
  have k16 : PySem.W.keepIn K (.ref (He.ga K "_law_wrong")) = true := HX.at_ok c 95 (by rfl)
  have a17 : PySem.W.nsIn K mainGlobals "law" = some (some (.ref (He.ga K "law"))) := of_decide_eq_true (HX.at_ok c 96 (by rfl))
  obtain ⟨oc17, od17, sl17, kV17, dc17, pm17, an17, cd17, ct17, l17, c17⟩ := HX.fnA_ok (q2 := "law") (HX.fn_at c 18 (by rfl) (by rfl)) (HX.at_ok c 97 (by rfl))
  have k17 : PySem.W.keepIn K (.ref (He.ga K "law")) = true := HX.at_ok c 98 (by rfl)
  have z_all : PySem.W.nsIn K mainGlobals "all" = some none := of_decide_eq_true (HX.at_ok c 99 (by rfl))
  have z_bool : PySem.W.nsIn K mainGlobals "bool" = some none := of_decide_eq_true (HX.at_ok c 100 (by rfl))
  have z_enumerate : PySem.W.nsIn K mainGlobals "enumerate" = some none := of_decide_eq_true (HX.at_ok c 101 (by rfl))
  have z_int : PySem.W.nsIn K mainGlobals "int" = some none := of_decide_eq_true (HX.at_ok c 102 (by rfl))
  have z_isinstance : PySem.W.nsIn K mainGlobals "isinstance" = some none := of_decide_eq_true (HX.at_ok c 103 (by rfl))
  have z_len : PySem.W.nsIn K mainGlobals "len" = some none := of_decide_eq_true (HX.at_ok c 104 (by rfl))
  have z_range : PySem.W.nsIn K mainGlobals "range" = some none := of_decide_eq_true (HX.at_ok c 105 (by rfl))
  have z_str : PySem.W.nsIn K mainGlobals "str" = some none := of_decide_eq_true (HX.at_ok c 106 (by rfl))
  have z_tuple : PySem.W.nsIn K mainGlobals "tuple" = some none := of_decide_eq_true (HX.at_ok c 107 (by rfl))
  obtain ⟨t_MOST, g_MOST⟩ := HX.intB_ok (HX.at_ok c 108 (by rfl))
  obtain ⟨t_MOST_BUYERS, g_MOST_BUYERS⟩ := HX.intB_ok (HX.at_ok c 109 (by rfl))
  obtain ⟨t_MOST_FIGURES, g_MOST_FIGURES⟩ := HX.intB_ok (HX.at_ok c 110 (by rfl))
  obtain ⟨t_MOST_THINGS, g_MOST_THINGS⟩ := HX.intB_ok (HX.at_ok c 111 (by rfl))
  obtain ⟨t_MOST_WORTHS, g_MOST_WORTHS⟩ := HX.intB_ok (HX.at_ok c 112 (by rfl))
  exact all_mk law_true X G hfa aS pgS hdS poS saS mkS kcS ncS nsS haS hnS htS hmS ty0S ty1S ty2S ty3S ty4S ty5S ty6S aC_FloorError aC_InvalidText spF tyF rdF fcF xL_InvalidText sa_InvalidText kC_InvalidText eC_InvalidText tC_InvalidText iI_InvalidText tI_InvalidText lI_InvalidText cI_InvalidText kI_InvalidText no_InvalidText ga_InvalidText gg_InvalidText hd_InvalidText n2_InvalidText eb_InvalidText ic_InvalidText tc_InvalidText su_InvalidText_InvalidText a0 l0 c0 k0 a1 l1 c1 k1 a2 l2 c2 k2 a3 l3 c3 k3 a4 l4 c4 k4 a5 l5 c5 k5 a6 l6 c6 k6 a7 l7 c7 k7 a8 l8 c8 k8 a9 l9 c9 k9 a10 l10 c10 k10 a11 i11 l11 c11 k11 a12 l12 c12 k12 a13 l13 c13 k13 a14 l14 c14 k14 a15 l15 c15 k15 a16 l16 c16 k16 a17 l17 c17 k17 z_all z_bool z_enumerate z_int z_isinstance z_len z_range z_str z_tuple g_MOST g_MOST_BUYERS g_MOST_FIGURES g_MOST_THINGS g_MOST_WORTHS
abbrev hkL : PySem.W.Hook := HX.hookH 6 exL fsL fvL
def obL (s : PySem.W.SharedT) : HX.AlH := HX.obsG 6 exL fsL (HandSHeadRun.getT s)
theorem obL_eq (s : PySem.W.SharedT) : obL s = hkL.obs s.abs := HX.obsG_eq (HandSHeadRun.getT_eq s)
abbrev RL : PySem.W.OpenRow := PySem.W.OpenLaw.row PySem.Challenge.rw_floorprices_k18_texts_refused
abbrev qvL : Program := PySem.W.view RL.prog [30]
def nmL : List Str := (RL.prog.main.scope.names.map (fun p => p.1)).filter (fun x => !(decide (x = "law")) && !(decide (x = "ValueError")) && !(decide (x = "__name__")))
set_option maxHeartbeats 0 in
theorem runL (w : World) : HandSHeadRun.RunEq RL qvL hkL obL 12000 nmL w := by
  intro os
  kernel_rfl
end LW
open PySem PySem.W PyProof.Rows
set_option maxHeartbeats 0 in
theorem PySem.Challenge.cw_floorprices_k18_texts_refused_holds : PySem.Challenge.rw_floorprices_k18_texts_refused.Holds := by
  w_on; o_law
  refine HandSHeadRun.head_any (r := OpenLaw.row PySem.Challenge.rw_floorprices_k18_texts_refused) (q := view (OpenLaw.row PySem.Challenge.rw_floorprices_k18_texts_refused).prog [30]) (H := LW.hkL) (ob := LW.obL) (M := 12000) (loose := LW.nmL) (d := HandSHeadRun.topDef (OpenLaw.row PySem.Challenge.rw_floorprices_k18_texts_refused).prog 30) (kwd := []) LW.obL_eq
    (by kernel_rfl) (fun s => by kernel_rfl) LW.runL (by kernel_rfl) (by kernel_rfl) (by kernel_rfl) (by rfl) (by first | assumption | decide +kernel) (by decide +kernel) ⟨rfl, rfl, rfl, rfl, rfl, by decide +kernel⟩ ?hw ?hc
  case hw => w_witness2
  case hc =>
    refine L2.walk_ofE (l := PySem.Challenge.rw_floorprices_k18_texts_refused) (n := 63) (k := 8) (x := "_law_script") (CX := L2.CX0) rfl (by decide) (by kernel_rfl) ⟨rfl, by decide, by decide⟩ ?F (fun _ _ _ _ z => z)
    intro w mg fa h Y G hmg0
    obtain ⟨K, KX, c⟩ := Y
    have hmg : mg ("law" : PySem.Str) = some (.ref fa) := by
      have e : (HandSHeadRun.topDef (OpenLaw.row PySem.Challenge.rw_floorprices_k18_texts_refused).prog 30).name = ("law" : PySem.Str) := by kernel_rfl
      rw [← e]
      exact hmg0
    obtain ⟨fd, hb, hF⟩ := LW.all_mk3 (l := PySem.Challenge.rw_floorprices_k18_texts_refused) (w := w) KX G hmg c
    exact ⟨K, fd, PV.spLaw _, KX, hb, fun H a ns hl hO hS => ⟨a, ns, rfl, hS, hO, hl, fun _ => rfl⟩, hF⟩
